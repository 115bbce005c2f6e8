/- Subscriptions: what the functions of the program and of the reference compute, walked. -/
import Derived.Test.YtlpiogbbplfliaaSxM
namespace Go.Proofs.Ytlpiogbbplfliaa
open Go.RowKit


structure Sub where
  rate : Int
  best : Int
  grant : Int
  nets : List Int
def Sub.val (s : Sub) (A : Option Addr) (c : Nat) : Value := .agg #[.int .i64 s.rate, .int .i64 s.best, .int .i64 s.grant, .slice A s.nets.length c]
def Sub.eqb (s t : Sub) : Bool := (s.rate == t.rate) && (s.best == t.best) && (s.grant == t.grant) && eqRows eqI s.nets t.nets
theorem Sub.eqb_refl (s : Sub) : s.eqb s = true := by simp [Sub.eqb, eqRows_refl eqI_refl]
def inAt (xs : List Int) (k : Nat) : Bool := inRange (nth d0I xs k) 0 3
def ascAt (xs : List Int) (k : Nat) : Bool := !(decide ((0 : Int) < (k : Nat)) && decide (nth d0I xs k ≤ nth d0I xs (k - 1)))
def allAt (p : Nat → Bool) (n : Nat) : Bool := (List.range n).all p
theorem slotS {A : Option Addr} {m n c : Nat} (h : m = n) : some (true, Value.slice A m c) = some (true, Value.slice A n c) := by rw [h]
theorem allAt_no {p : Nat → Bool} {n k : Nat} (h : k < n) (hp : p k = false) : allAt p n = false := by
  rw [allAt, List.all_eq_false]
  exact ⟨k, by simpa using h, by simp [hp]⟩
theorem allAt_yes {p : Nat → Bool} {n : Nat} (h : ∀ i, i < n → p i = true) : allAt p n = true := List.all_eq_true.2 fun i hi => h i (by simpa using hi)
def Sub.hd (s : Sub) : Bool := inRange s.rate 1 1000 && inRange s.best 1 4 && inRange s.grant 1 100000
def Sub.ok (s : Sub) : Bool := s.hd && allAt (inAt s.nets) s.nets.length && allAt (ascAt s.nets) s.nets.length
def hasI (xs : List Int) (n : Int) : Bool := decide (0 ≤ findI (fun x => x == n) 0 xs)
def Sub.may (s : Sub) (home net : Int) : Bool := (net == home) || hasI s.nets net
def limB (s : Sub) (r : Bear) : Bear := ⟨r.id, imax r.cls s.best, imin r.rate s.rate⟩
def limS (s : Sub) (rs : List Bear) (k : Nat) : List Bear := (rs.take k).map (limB s)
theorem limS_len (s : Sub) (rs : List Bear) {k : Nat} (h : k ≤ rs.length) : (limS s rs k).length = k := by simp [limS]; omega
theorem limS_step (s : Sub) (rs : List Bear) {k : Nat} (h : k < rs.length) : limS s rs (k + 1) = limS s rs k ++ [limB s (nth d0B rs k)] := by rw [limS, take_nth (d := d0B) h, List.map_append]; rfl
theorem fill_stepB (s : Sub) (rs : List Bear) (cs0 : List Value) (m : Nat) (hm : m < rs.length) :
    (flat encB (limS s rs m) ++ cs0.drop (m * 3)).take (m * 3) ++ recV encB (limB s (nth d0B rs m)) ++ (flat encB (limS s rs m) ++ cs0.drop (m * 3)).drop (m * 3 + 3) = flat encB (limS s rs (m + 1)) ++ cs0.drop ((m + 1) * 3) := by
  have h := fill_step (enc := encB) encB_len d0B (rs.map (limB s)) cs0 m (by simpa using hm)
  have e1 : (rs.map (limB s)).take m = limS s rs m := by rw [limS, List.map_take]
  have e2 : (rs.map (limB s)).take (m + 1) = limS s rs (m + 1) := by rw [limS, List.map_take]
  have e3 : nth d0B (rs.map (limB s)) m = limB s (nth d0B rs m) := by rw [nth_eq (by simpa using hm), nth_eq hm]; simp
  rw [e1, e2, e3] at h
  exact h
theorem fill_lenB (s : Sub) (rs : List Bear) (cs0 : List Value) (m : Nat) (hm : m ≤ rs.length) (h0 : cs0.length = rs.length * 3) : (flat encB (limS s rs m) ++ cs0.drop (m * 3)).length = rs.length * 3 := by
  rw [List.length_append, flat_len encB_len, limS_len s rs hm, List.length_drop, h0]
  omega
def fitAt (s : Sub) (rs : List Bear) (k : Nat) : Bool := encB (nth d0B rs k) == encB (limB s (nth d0B rs k))

theorem sHas_c (xs : List Int) (A : Option Addr) (b o c : Nat) (v : Int) (w : World) (hs : Sl w A b o (flat encI xs)) (hl : xs.length ≤ 2097152) :
    Calls Try.prog 37 #[.slice A xs.length c, .int .i64 v] w fun e w' => e = .returned (.bool (hasI xs v)) ∧ HP w [] w' := by
  refine calls_entry [] _ Try.func37 rfl Try.ntmps37 (HP.refl w) (env2 rfl) ?_
  refine wc_seq ?_
  refine wc_region ?_
  refine wl_v rfl (val_assign lkc) ?_
  refine wl_nil ?_
  refine px_then ?_
  refine wc_seq ?_
  refine wc_seq ?_
  refine wc_region ?_
  refine wl_v rfl (val_assign lkc) ?_
  refine wl_nil ?_
  refine px_then ?_
  refine wc_block ?_
  refine wc_trim (l' := [(0, _), (1, _), (4, _), (5, _)]) ⟨rfl, rfl, rfl, rfl, trivial⟩ ?_
  refine wc_loop0 (X := Nat) (fun k => k ≤ xs.length ∧ findI (fun x => x == v) k (xs.drop k) = findI (fun x => x == v) 0 xs) (fun k => [(5, (true, .int .i64 (k : Nat)))]) (fun k => xs.length - k) 0 (⟨Nat.zero_le _, rfl⟩) ⟨rfl, rfl, rfl, rfl, rfl, trivial⟩ ?_
  rintro k ⟨hk, ht⟩
  refine wc_seq ?_
  refine wc_seq ?_
  refine wc_region ?_
  refine wl_v rfl (val_move (lk rfl)) ?_
  refine wl_v rfl (val_move (lk rfl)) ?_
  refine wl_v rfl (val_len es_22 (lk rfl)) ?_
  refine wl_v rfl (val_lss (lk rfl) (lk rfl)) ?_
  refine wl_nil ?_
  refine px_then ?_
  refine wc_cond (lk rfl) (fun hc0 => ?_) (fun hc0 => ?_)
  · have hlt : k < xs.length := by have := of_decide_eq_true hc0; omega
    refine wc_skip ?_
    refine px_then ?_
    refine wc_seq ?_
    refine wc_block ?_
    refine wc_seq ?_
    refine wc_region ?_
    refine wl_v rfl (val_move (lk rfl)) ?_
    refine wl_v rfl (val_move (lk rfl)) ?_
    refine wl_v rfl (val_index es_22 (lk rfl) (lk rfl) (fun hG => hs.hd encI_len (by decide) (i := k) (by first | omega | (have h9 := of_decide_eq_true hG; omega) | (simp at hG; omega))) (fun hG => by first | omega | (have h9 := of_decide_eq_true hG; omega) | (simp at hG; omega))) ?_
    refine wl_v rfl (val_load1 t1_3 (lk rfl) (cell_old rfl fun hG => hs.fld encI_len d0I (i := k) (f := 0) (by first | omega | (have h9 := of_decide_eq_true hG; omega) | (simp at hG; omega)) (by decide) rfl)) ?_
    refine wl_v rfl (val_move (lk rfl)) ?_
    refine wl_v rfl (val_eql (lk rfl) (lk rfl)) ?_
    refine wl_nil ?_
    refine px_then ?_
    refine wc_cond (lk rfl) (fun hc1 => ?_) (fun hc1 => ?_)
    · refine wc_seq ?_
      refine wc_region ?_
      refine wl_v rfl (val_assign lkc) ?_
      refine wl_nil ?_
      refine px_then ?_
      refine wc_ret ?_
      refine px_block_ret ?_
      refine px_then_ret ?_
      refine px_then_ret ?_
      refine px_block_ret ?_
      refine px_then_ret ?_
      refine fin1 rfl (res_tmp rfl) (fun w1 hw => ?_)
      exact ⟨by rw [hasI, ← ht, drop_nth (d := d0I) hlt, findI, if_pos (by simpa using hc1)]; (simp <;> omega), hw.drop rfl⟩
    refine wc_skip ?_
    refine px_block ?_
    refine px_then ?_
    refine wc_region ?_
    refine wl_v rfl (val_move (lk rfl)) ?_
    refine wl_v rfl (val_inc (lk rfl) (by omega)) ?_
    refine wl_v rfl (val_assign (lk rfl)) ?_
    refine wl_nil ?_
    refine px_round0 (k + 1) (⟨by omega, by rw [← ht, drop_nth (d := d0I) hlt, findI, if_neg (by simpa using hc1)]⟩) (by omega) (⟨rfl, rfl, rfl, rfl, rfl, trivial⟩) (fun _ h => h.dropN 0 rfl)
  have hge : k = xs.length := by have := of_decide_eq_false hc0; omega
  subst hge
  refine wc_exit ?_
  refine px_then_exit ?_
  refine px_then_exit ?_
  refine px_block_exit ?_
  refine px_then ?_
  refine wc_seq ?_
  refine wc_region ?_
  refine wl_v rfl (val_assign lkc) ?_
  refine wl_nil ?_
  refine px_then ?_
  refine wc_ret ?_
  refine fin1 rfl (res_tmp rfl) (fun w1 hw => ?_)
  exact ⟨by rw [hasI, ← ht]; simp [findI], hw.drop rfl⟩

theorem Index_c (xs : List Int) (A : Option Addr) (b o c : Nat) (v : Int) (w : World) (hs : Sl w A b o (flat encI xs)) (hl : xs.length ≤ 2097152) :
    Calls Try.prog 52 #[.slice A xs.length c, .int .i64 v] w fun e w' => e = .returned (.int .i64 (findI (fun x => x == v) 0 xs)) ∧ HP w [] w' := by
  refine calls_entry [] _ Try.func52 rfl Try.ntmps52 (HP.refl w) (env2 rfl) ?_
  refine wc_seq ?_
  refine wc_region ?_
  refine wl_v rfl (val_assign lkc) ?_
  refine wl_nil ?_
  refine px_then ?_
  refine wc_seq ?_
  refine wc_seq ?_
  refine wc_region ?_
  refine wl_v rfl (val_move (lk rfl)) ?_
  refine wl_v rfl (val_len es_22 (lk rfl)) ?_
  refine wl_v rfl (val_move lkc) ?_
  refine wl_nil ?_
  refine px_then ?_
  refine wc_block ?_
  refine wc_trim (l' := [(0, _), (1, _), (4, _), (7, _), (8, _)]) ⟨rfl, rfl, rfl, rfl, rfl, trivial⟩ ?_
  refine wc_loop0 (X := Nat) (fun k => k ≤ xs.length ∧ findI (fun x => x == v) k (xs.drop k) = findI (fun x => x == v) 0 xs) (fun k => [(8, (true, .int .i64 (k : Nat)))]) (fun k => xs.length - k) 0 (⟨Nat.zero_le _, rfl⟩) ⟨rfl, rfl, rfl, rfl, rfl, rfl, trivial⟩ ?_
  rintro k ⟨hk, ht⟩
  refine wc_seq ?_
  refine wc_region ?_
  refine wl_v rfl (val_lss (lk rfl) (lk rfl)) ?_
  refine wl_nil ?_
  refine px_then ?_
  refine wc_seq ?_
  refine wc_cond (lk rfl) (fun hc0 => ?_) (fun hc0 => ?_)
  · have hlt : k < xs.length := by have := of_decide_eq_true hc0; omega
    refine wc_skip ?_
    refine px_then ?_
    refine wc_seq ?_
    refine wc_block ?_
    refine wc_seq ?_
    refine wc_region ?_
    refine wl_v rfl (val_move (lk rfl)) ?_
    refine wl_v rfl (val_assign (lk rfl)) ?_
    refine wl_nil ?_
    refine px_then ?_
    refine wc_seq ?_
    refine wc_region ?_
    refine wl_v rfl (val_move (lk rfl)) ?_
    refine wl_v rfl (val_move (lk rfl)) ?_
    refine wl_v rfl (val_move (lk rfl)) ?_
    refine wl_v rfl (val_index es_22 (lk rfl) (lk rfl) (fun hG => hs.hd encI_len (by decide) (i := k) (by first | omega | (have h9 := of_decide_eq_true hG; omega) | (simp at hG; omega))) (fun hG => by first | omega | (have h9 := of_decide_eq_true hG; omega) | (simp at hG; omega))) ?_
    refine wl_v rfl (val_load1 t1_3 (lk rfl) (cell_old rfl fun hG => hs.fld encI_len d0I (i := k) (f := 0) (by first | omega | (have h9 := of_decide_eq_true hG; omega) | (simp at hG; omega)) (by decide) rfl)) ?_
    refine wl_v rfl (val_eql (lk rfl) (lk rfl)) ?_
    refine wl_nil ?_
    refine px_then ?_
    refine wc_cond (lk rfl) (fun hc1 => ?_) (fun hc1 => ?_)
    · refine wc_seq ?_
      refine wc_region ?_
      refine wl_v rfl (val_move (lk rfl)) ?_
      refine wl_v rfl (val_assign (lk rfl)) ?_
      refine wl_nil ?_
      refine px_then ?_
      refine wc_ret ?_
      refine px_block_ret ?_
      refine px_then_ret ?_
      refine px_then_ret ?_
      refine px_block_ret ?_
      refine px_then_ret ?_
      refine fin1 rfl (res_tmp rfl) (fun w1 hw => ?_)
      exact ⟨by rw [← ht, drop_nth (d := d0I) hlt, findI, if_pos (by rw [BEq.comm]; simpa using hc1)], hw.drop rfl⟩
    refine wc_skip ?_
    refine px_block ?_
    refine px_then ?_
    refine wc_region ?_
    refine wl_v rfl (val_inc (lk rfl) (by omega)) ?_
    refine wl_v rfl (val_move (lk rfl)) ?_
    refine wl_nil ?_
    refine px_round0 (k + 1) (⟨by omega, by rw [← ht, drop_nth (d := d0I) hlt, findI, if_neg (by rw [BEq.comm]; simpa using hc1)]⟩) (by omega) (⟨rfl, rfl, rfl, rfl, rfl, rfl, trivial⟩) (fun _ h => h.dropN 0 rfl)
  have hge : k = xs.length := by have := of_decide_eq_false hc0; omega
  subst hge
  refine wc_exit ?_
  refine px_then_exit ?_
  refine px_then_exit ?_
  refine px_block_exit ?_
  refine px_then ?_
  refine wc_seq ?_
  refine wc_region ?_
  refine wl_v rfl (val_assign lkc) ?_
  refine wl_nil ?_
  refine px_then ?_
  refine wc_ret ?_
  refine fin1 rfl (res_tmp rfl) (fun w1 hw => ?_)
  exact ⟨by rw [← ht]; simp [findI], hw.drop rfl⟩

theorem Contains_c (xs : List Int) (A : Option Addr) (b o c : Nat) (v : Int) (w : World) (hs : Sl w A b o (flat encI xs)) (hl : xs.length ≤ 2097152) :
    Calls Try.prog 39 #[.slice A xs.length c, .int .i64 v] w fun e w' => e = .returned (.bool (hasI xs v)) ∧ HP w [] w' := by
  refine calls_entry [] _ Try.func39 rfl Try.ntmps39 (HP.refl w) (env2 rfl) ?_
  refine wc_seq ?_
  refine wc_region ?_
  refine wl_v rfl (val_assign lkc) ?_
  refine wl_nil ?_
  refine px_then ?_
  refine wc_seq ?_
  refine wc_region ?_
  refine wl_v rfl (val_move (lk rfl)) ?_
  refine wl_v rfl (val_move (lk rfl)) ?_
  refine wl_call gd_none rfl ci_52 (args2 (lk rfl) (lk rfl)) (fun hG w1 hw => Index_c _ _ _ _ _ _ w1 (hs.hp hw rfl) (by omega)) ?_
  refine wl_v rfl (val_geq (lk rfl) lkc) ?_
  refine wl_v rfl (val_assign (lk rfl)) ?_
  refine wl_nil ?_
  refine px_then ?_
  refine wc_ret ?_
  refine fin1 rfl (res_tmp rfl) (fun w1 hw => ?_)
  exact ⟨rfl, hw.drop rfl⟩

theorem sRoam_c (s : Sub) (A : Option Addr) (b o c : Nat) (h v : Int) (w : World) (hs : Sl w A b o (flat encI s.nets)) (hl : s.nets.length ≤ 2097152) :
    Calls Try.prog 11 #[s.val A c, .int .i64 h, .int .i64 v] w fun e w' => e = .returned (.bool (s.may h v)) ∧ HP w [] w' := by
  refine calls_entry [] _ Try.func11 rfl Try.ntmps11 (HP.refl w) (env3 rfl) ?_
  refine wc_seq ?_
  refine wc_region ?_
  refine wl_box (lk rfl) rfl fun b1 => ?_
  refine wl_v rfl (val_assign lkc) ?_
  refine wl_nil ?_
  refine px_then ?_
  refine wc_seq ?_
  refine wc_region ?_
  refine wl_v rfl (val_move (lk rfl)) ?_
  refine wl_v rfl (val_move (lk rfl)) ?_
  refine wl_v rfl (val_eql (lk rfl) (lk rfl)) ?_
  refine wl_v rfl (val_move (lk rfl)) ?_
  refine wl_val (gd_f rfl rfl rfl) rfl (val_field fo_27_3 (lk rfl)) ?_
  refine wl_val (gd_f rfl rfl rfl) rfl (val_load1 t1_22 (lkg rfl) (cell_own (.head _) fun _ => rfl)) ?_
  refine wl_val (gd_f rfl rfl rfl) rfl (val_move (lk rfl)) ?_
  refine wl_call (gd_f rfl rfl rfl) rfl ci_37 (args2 (lkg rfl) (lkg rfl)) (fun hG w1 hw => sHas_c _ _ _ _ _ _ w1 (hs.hp hw rfl) (by omega)) ?_
  refine wl_v rfl (val_or (lk rfl) (lkg rfl)) ?_
  refine wl_v rfl (val_assign (lk rfl)) ?_
  refine wl_nil ?_
  refine px_then ?_
  refine wc_ret ?_
  refine fin1 rfl (res_tmp rfl) (fun w1 hw => ?_)
  exact ⟨rfl, hw.drop rfl⟩

theorem Roam_c (s : Sub) (A : Option Addr) (b o c : Nat) (h v : Int) (w : World) (hs : Sl w A b o (flat encI s.nets)) (hl : s.nets.length ≤ 2097152) :
    Calls Try.prog 13 #[s.val A c, .int .i64 h, .int .i64 v] w fun e w' => e = .returned (.bool (s.may h v)) ∧ HP w [] w' := by
  refine calls_entry [] _ Try.func13 rfl Try.ntmps13 (HP.refl w) (env3 rfl) ?_
  refine wc_seq ?_
  refine wc_region ?_
  refine wl_box (lk rfl) rfl fun b1 => ?_
  refine wl_v rfl (val_assign lkc) ?_
  refine wl_nil ?_
  refine px_then ?_
  refine wc_seq ?_
  refine wc_region ?_
  refine wl_v rfl (val_move (lk rfl)) ?_
  refine wl_v rfl (val_move (lk rfl)) ?_
  refine wl_v rfl (val_eql (lk rfl) (lk rfl)) ?_
  refine wl_v rfl (val_move (lk rfl)) ?_
  refine wl_val (gd_f rfl rfl rfl) rfl (val_field fo_27_3 (lk rfl)) ?_
  refine wl_val (gd_f rfl rfl rfl) rfl (val_load1 t1_22 (lkg rfl) (cell_own (.head _) fun _ => rfl)) ?_
  refine wl_val (gd_f rfl rfl rfl) rfl (val_move (lk rfl)) ?_
  refine wl_call (gd_f rfl rfl rfl) rfl ci_39 (args2 (lkg rfl) (lkg rfl)) (fun hG w1 hw => Contains_c _ _ _ _ _ _ w1 (hs.hp hw rfl) (by omega)) ?_
  refine wl_v rfl (val_or (lk rfl) (lkg rfl)) ?_
  refine wl_v rfl (val_assign (lk rfl)) ?_
  refine wl_nil ?_
  refine px_then ?_
  refine wc_ret ?_
  refine fin1 rfl (res_tmp rfl) (fun w1 hw => ?_)
  exact ⟨rfl, hw.drop rfl⟩

theorem sEqualInts_c (xs ys : List Int) (A B : Option Addr) (b o c b2 o2 c2 : Nat) (w : World) (hs : Sl w A b o (flat encI xs)) (hs2 : Sl w B b2 o2 (flat encI ys)) (hl : xs.length ≤ 2097152) :
    Calls Try.prog 44 #[.slice A xs.length c, .slice B ys.length c2] w fun e w' => e = .returned (.bool (eqRows eqI xs ys)) ∧ HP w [] w' := by
  refine calls_entry [] _ Try.func44 rfl Try.ntmps44 (HP.refl w) (env2 rfl) ?_
  refine wc_seq ?_
  refine wc_region ?_
  refine wl_v rfl (val_assign lkc) ?_
  refine wl_nil ?_
  refine px_then ?_
  refine wc_seq ?_
  refine wc_seq ?_
  refine wc_region ?_
  refine wl_v rfl (val_move (lk rfl)) ?_
  refine wl_v rfl (val_len es_22 (lk rfl)) ?_
  refine wl_v rfl (val_move (lk rfl)) ?_
  refine wl_v rfl (val_len es_22 (lk rfl)) ?_
  refine wl_v rfl (val_neq (lk rfl) (lk rfl)) ?_
  refine wl_nil ?_
  refine px_then ?_
  refine wc_cond (lk rfl) (fun hc0 => ?_) (fun hc0 => ?_)
  · refine wc_seq ?_
    refine wc_region ?_
    refine wl_v rfl (val_assign lkc) ?_
    refine wl_nil ?_
    refine px_then ?_
    refine wc_ret ?_
    refine px_then_ret ?_
    refine fin1 rfl (res_tmp rfl) (fun w1 hw => ?_)
    exact ⟨by rw [eqRows_ne (cast_ne' hc0)], hw.drop rfl⟩
  have hxy : xs.length = ys.length := cast_ne hc0
  refine wc_skip ?_
  refine px_then ?_
  refine wc_seq ?_
  refine wc_seq ?_
  refine wc_region ?_
  refine wl_v rfl (val_assign lkc) ?_
  refine wl_nil ?_
  refine px_then ?_
  refine wc_block ?_
  refine wc_trim (l' := [(0, _), (1, _), (4, _), (5, _)]) ⟨rfl, rfl, rfl, rfl, trivial⟩ ?_
  refine wc_loop0 (X := Nat) (fun k => k ≤ xs.length ∧ eqRows eqI (xs.drop k) (ys.drop k) = eqRows eqI xs ys) (fun k => [(5, (true, .int .i64 (k : Nat)))]) (fun k => xs.length - k) 0 (⟨Nat.zero_le _, rfl⟩) ⟨rfl, rfl, rfl, rfl, rfl, trivial⟩ ?_
  rintro k ⟨hk, ht⟩
  refine wc_seq ?_
  refine wc_seq ?_
  refine wc_region ?_
  refine wl_v rfl (val_move (lk rfl)) ?_
  refine wl_v rfl (val_move (lk rfl)) ?_
  refine wl_v rfl (val_len es_22 (lk rfl)) ?_
  refine wl_v rfl (val_lss (lk rfl) (lk rfl)) ?_
  refine wl_nil ?_
  refine px_then ?_
  refine wc_cond (lk rfl) (fun hc1 => ?_) (fun hc1 => ?_)
  · have hlt : k < xs.length := by have := of_decide_eq_true hc1; omega
    refine wc_skip ?_
    refine px_then ?_
    refine wc_seq ?_
    refine wc_block ?_
    refine wc_seq ?_
    refine wc_region_q mo_ (by kernel_rfl) ?_
    refine wq_v rfl (val_move (lk rfl)) ?_
    refine wq_v rfl (val_move (lk rfl)) ?_
    refine wq_v rfl (val_index es_22 (lk rfl) (lk rfl) (fun hG => hs.hd encI_len (by decide) (i := k) (by first | omega | (have h9 := of_decide_eq_true hG; omega) | (simp at hG; omega))) (fun hG => by first | omega | (have h9 := of_decide_eq_true hG; omega) | (simp at hG; omega))) ?_
    refine wq_v rfl (val_load1 t1_3 (lk rfl) (cell_old rfl fun hG => hs.fld encI_len d0I (i := k) (f := 0) (by first | omega | (have h9 := of_decide_eq_true hG; omega) | (simp at hG; omega)) (by decide) rfl)) ?_
    refine wq_v rfl (val_move (lk rfl)) ?_
    refine wq_v rfl (val_move (lk rfl)) ?_
    refine wq_v rfl (val_index es_22 (lk rfl) (lk rfl) (fun hG => hs2.hd encI_len (by decide) (i := k) (by first | omega | (have h9 := of_decide_eq_true hG; omega) | (simp at hG; omega))) (fun hG => by first | omega | (have h9 := of_decide_eq_true hG; omega) | (simp at hG; omega))) ?_
    refine wq_v rfl (val_load1 t1_3 (lk rfl) (cell_old rfl fun hG => hs2.fld encI_len d0I (i := k) (f := 0) (by first | omega | (have h9 := of_decide_eq_true hG; omega) | (simp at hG; omega)) (by decide) rfl)) ?_
    refine wq_v rfl (val_neq (lk rfl) (lk rfl)) ?_
    refine wq_nil ?_
    refine px_then ?_
    refine wc_cond (lk rfl) (fun hc2 => ?_) (fun hc2 => ?_)
    · refine wc_seq ?_
      refine wc_region ?_
      refine wl_v rfl (val_assign lkc) ?_
      refine wl_nil ?_
      refine px_then ?_
      refine wc_ret ?_
      refine px_block_ret ?_
      refine px_then_ret ?_
      refine px_then_ret ?_
      refine px_block_ret ?_
      refine px_then_ret ?_
      refine fin1 rfl (res_tmp rfl) (fun w1 hw => ?_)
      exact ⟨by rw [← ht, eqRows_step (d := d0I) hlt (by omega), show eqI (nth d0I xs k) (nth d0I ys k) = false by simpa [eqI] using hc2]; rfl, hw.drop rfl⟩
    refine wc_skip ?_
    refine px_block ?_
    refine px_then ?_
    refine wc_region ?_
    refine wl_v rfl (val_move (lk rfl)) ?_
    refine wl_v rfl (val_inc (lk rfl) (by omega)) ?_
    refine wl_v rfl (val_assign (lk rfl)) ?_
    refine wl_nil ?_
    refine px_round0 (k + 1) (⟨by omega, by rw [← ht, eqRows_step (d := d0I) hlt (by omega)]; simp at hc2; rw [hc2, eqI_refl]; rfl⟩) (by omega) (⟨rfl, rfl, rfl, rfl, rfl, trivial⟩) (fun _ h => h.dropN 0 rfl)
  have hge : k = xs.length := by have := of_decide_eq_false hc1; omega
  subst hge
  refine wc_exit ?_
  refine px_then_exit ?_
  refine px_then_exit ?_
  refine px_block_exit ?_
  refine px_then ?_
  refine wc_seq ?_
  refine wc_region ?_
  refine wl_v rfl (val_assign lkc) ?_
  refine wl_nil ?_
  refine px_then ?_
  refine wc_ret ?_
  refine fin1 rfl (res_tmp rfl) (fun w1 hw => ?_)
  have e1 : xs.drop xs.length = [] := by simp
  have e2 : ys.drop xs.length = [] := by simp [hxy]
  exact ⟨by rw [← ht, e1, e2]; rfl, hw.drop rfl⟩

theorem Equal_c (xs ys : List Int) (A B : Option Addr) (b o c b2 o2 c2 : Nat) (w : World) (hs : Sl w A b o (flat encI xs)) (hs2 : Sl w B b2 o2 (flat encI ys)) (hl : xs.length ≤ 2097152) :
    Calls Try.prog 53 #[.slice A xs.length c, .slice B ys.length c2] w fun e w' => e = .returned (.bool (eqRows eqI xs ys)) ∧ HP w [] w' := by
  refine calls_entry [] _ Try.func53 rfl Try.ntmps53 (HP.refl w) (env2 rfl) ?_
  refine wc_seq ?_
  refine wc_region ?_
  refine wl_v rfl (val_assign lkc) ?_
  refine wl_nil ?_
  refine px_then ?_
  refine wc_seq ?_
  refine wc_seq ?_
  refine wc_region ?_
  refine wl_v rfl (val_move (lk rfl)) ?_
  refine wl_v rfl (val_len es_22 (lk rfl)) ?_
  refine wl_v rfl (val_move (lk rfl)) ?_
  refine wl_v rfl (val_len es_22 (lk rfl)) ?_
  refine wl_v rfl (val_neq (lk rfl) (lk rfl)) ?_
  refine wl_nil ?_
  refine px_then ?_
  refine wc_cond (lk rfl) (fun hc0 => ?_) (fun hc0 => ?_)
  · refine wc_seq ?_
    refine wc_region ?_
    refine wl_v rfl (val_assign lkc) ?_
    refine wl_nil ?_
    refine px_then ?_
    refine wc_ret ?_
    refine px_then_ret ?_
    refine fin1 rfl (res_tmp rfl) (fun w1 hw => ?_)
    exact ⟨by rw [eqRows_ne (cast_ne' hc0)], hw.drop rfl⟩
  have hxy : xs.length = ys.length := cast_ne hc0
  refine wc_skip ?_
  refine px_then ?_
  refine wc_seq ?_
  refine wc_seq ?_
  refine wc_region ?_
  refine wl_v rfl (val_move (lk rfl)) ?_
  refine wl_v rfl (val_len es_22 (lk rfl)) ?_
  refine wl_v rfl (val_move lkc) ?_
  refine wl_nil ?_
  refine px_then ?_
  refine wc_block ?_
  refine wc_trim (l' := [(0, _), (1, _), (4, _), (12, _), (13, _)]) ⟨rfl, rfl, rfl, rfl, rfl, trivial⟩ ?_
  refine wc_loop0 (X := Nat) (fun k => k ≤ xs.length ∧ eqRows eqI (xs.drop k) (ys.drop k) = eqRows eqI xs ys) (fun k => [(13, (true, .int .i64 (k : Nat)))]) (fun k => xs.length - k) 0 (⟨Nat.zero_le _, rfl⟩) ⟨rfl, rfl, rfl, rfl, rfl, rfl, trivial⟩ ?_
  rintro k ⟨hk, ht⟩
  refine wc_seq ?_
  refine wc_region ?_
  refine wl_v rfl (val_lss (lk rfl) (lk rfl)) ?_
  refine wl_nil ?_
  refine px_then ?_
  refine wc_seq ?_
  refine wc_cond (lk rfl) (fun hc1 => ?_) (fun hc1 => ?_)
  · have hlt : k < xs.length := by have := of_decide_eq_true hc1; omega
    refine wc_skip ?_
    refine px_then ?_
    refine wc_seq ?_
    refine wc_block ?_
    refine wc_seq ?_
    refine wc_region ?_
    refine wl_v rfl (val_move (lk rfl)) ?_
    refine wl_v rfl (val_assign (lk rfl)) ?_
    refine wl_nil ?_
    refine px_then ?_
    refine wc_seq ?_
    refine wc_region_q mo_ (by kernel_rfl) ?_
    refine wq_v rfl (val_move (lk rfl)) ?_
    refine wq_v rfl (val_move (lk rfl)) ?_
    refine wq_v rfl (val_index es_22 (lk rfl) (lk rfl) (fun hG => hs.hd encI_len (by decide) (i := k) (by first | omega | (have h9 := of_decide_eq_true hG; omega) | (simp at hG; omega))) (fun hG => by first | omega | (have h9 := of_decide_eq_true hG; omega) | (simp at hG; omega))) ?_
    refine wq_v rfl (val_load1 t1_3 (lk rfl) (cell_old rfl fun hG => hs.fld encI_len d0I (i := k) (f := 0) (by first | omega | (have h9 := of_decide_eq_true hG; omega) | (simp at hG; omega)) (by decide) rfl)) ?_
    refine wq_v rfl (val_move (lk rfl)) ?_
    refine wq_v rfl (val_move (lk rfl)) ?_
    refine wq_v rfl (val_index es_22 (lk rfl) (lk rfl) (fun hG => hs2.hd encI_len (by decide) (i := k) (by first | omega | (have h9 := of_decide_eq_true hG; omega) | (simp at hG; omega))) (fun hG => by first | omega | (have h9 := of_decide_eq_true hG; omega) | (simp at hG; omega))) ?_
    refine wq_v rfl (val_load1 t1_3 (lk rfl) (cell_old rfl fun hG => hs2.fld encI_len d0I (i := k) (f := 0) (by first | omega | (have h9 := of_decide_eq_true hG; omega) | (simp at hG; omega)) (by decide) rfl)) ?_
    refine wq_v rfl (val_neq (lk rfl) (lk rfl)) ?_
    refine wq_nil ?_
    refine px_then ?_
    refine wc_cond (lk rfl) (fun hc2 => ?_) (fun hc2 => ?_)
    · refine wc_seq ?_
      refine wc_region ?_
      refine wl_v rfl (val_assign lkc) ?_
      refine wl_nil ?_
      refine px_then ?_
      refine wc_ret ?_
      refine px_block_ret ?_
      refine px_then_ret ?_
      refine px_then_ret ?_
      refine px_block_ret ?_
      refine px_then_ret ?_
      refine fin1 rfl (res_tmp rfl) (fun w1 hw => ?_)
      exact ⟨by rw [← ht, eqRows_step (d := d0I) hlt (by omega), show eqI (nth d0I xs k) (nth d0I ys k) = false by simpa [eqI] using hc2]; rfl, hw.drop rfl⟩
    refine wc_skip ?_
    refine px_block ?_
    refine px_then ?_
    refine wc_region ?_
    refine wl_v rfl (val_inc (lk rfl) (by omega)) ?_
    refine wl_v rfl (val_move (lk rfl)) ?_
    refine wl_nil ?_
    refine px_round0 (k + 1) (⟨by omega, by rw [← ht, eqRows_step (d := d0I) hlt (by omega)]; simp at hc2; rw [hc2, eqI_refl]; rfl⟩) (by omega) (⟨rfl, rfl, rfl, rfl, rfl, rfl, trivial⟩) (fun _ h => h.dropN 0 rfl)
  have hge : k = xs.length := by have := of_decide_eq_false hc1; omega
  subst hge
  refine wc_exit ?_
  refine px_then_exit ?_
  refine px_then_exit ?_
  refine px_block_exit ?_
  refine px_then ?_
  refine wc_seq ?_
  refine wc_region ?_
  refine wl_v rfl (val_assign lkc) ?_
  refine wl_nil ?_
  refine px_then ?_
  refine wc_ret ?_
  refine fin1 rfl (res_tmp rfl) (fun w1 hw => ?_)
  have e1 : xs.drop xs.length = [] := by simp
  have e2 : ys.drop xs.length = [] := by simp [hxy]
  exact ⟨by rw [← ht, e1, e2]; rfl, hw.drop rfl⟩

theorem EqualInts_c (xs ys : List Int) (A B : Option Addr) (b o c b2 o2 c2 : Nat) (w : World) (hs : Sl w A b o (flat encI xs)) (hs2 : Sl w B b2 o2 (flat encI ys)) (hl : xs.length ≤ 2097152) :
    Calls Try.prog 45 #[.slice A xs.length c, .slice B ys.length c2] w fun e w' => e = .returned (.bool (eqRows eqI xs ys)) ∧ HP w [] w' := by
  refine calls_entry [] _ Try.func45 rfl Try.ntmps45 (HP.refl w) (env2 rfl) ?_
  refine wc_seq ?_
  refine wc_region ?_
  refine wl_v rfl (val_assign lkc) ?_
  refine wl_nil ?_
  refine px_then ?_
  refine wc_seq ?_
  refine wc_region ?_
  refine wl_v rfl (val_move (lk rfl)) ?_
  refine wl_v rfl (val_move (lk rfl)) ?_
  refine wl_call gd_none rfl ci_53 (args2 (lk rfl) (lk rfl)) (fun hG w1 hw => Equal_c _ _ _ _ _ _ _ _ _ _ w1 (hs.hp hw rfl) (hs2.hp hw rfl) (by omega)) ?_
  refine wl_v rfl (val_assign (lk rfl)) ?_
  refine wl_nil ?_
  refine px_then ?_
  refine wc_ret ?_
  refine fin1 rfl (res_tmp rfl) (fun w1 hw => ?_)
  exact ⟨rfl, hw.drop rfl⟩

theorem sEqSub_c (s t : Sub) (A B : Option Addr) (b o c b2 o2 c2 : Nat) (w : World) (hs : Sl w A b o (flat encI s.nets)) (hs2 : Sl w B b2 o2 (flat encI t.nets)) (hl : s.nets.length ≤ 2097152) :
    Calls Try.prog 17 #[s.val A c, t.val B c2] w fun e w' => e = .returned (.bool (s.eqb t)) ∧ HP w [] w' := by
  refine calls_entry [] _ Try.func17 rfl Try.ntmps17 (HP.refl w) (env2 rfl) ?_
  refine wc_seq ?_
  refine wc_region ?_
  refine wl_box (lk rfl) rfl fun b1 => ?_
  refine wl_box (lk rfl) rfl fun b2 => ?_
  refine wl_v rfl (val_assign lkc) ?_
  refine wl_nil ?_
  refine px_then ?_
  refine wc_seq ?_
  refine wc_region ?_
  refine wl_v rfl (val_field fo_27_0 (lk rfl)) ?_
  refine wl_v rfl (val_load1 t1_3 (lk rfl) (cell_own (.tail _ (.head _)) fun _ => rfl)) ?_
  refine wl_v rfl (val_field fo_27_0 (lk rfl)) ?_
  refine wl_v rfl (val_load1 t1_3 (lk rfl) (cell_own (.head _) fun _ => rfl)) ?_
  refine wl_v rfl (val_eql (lk rfl) (lk rfl)) ?_
  refine wl_v rfl (val_move (lk rfl)) ?_
  refine wl_val (gd_t rfl rfl rfl) rfl (val_field fo_27_1 (lk rfl)) ?_
  refine wl_val (gd_t rfl rfl rfl) rfl (val_load1 t1_3 (lkg rfl) (cell_own (.tail _ (.head _)) fun _ => rfl)) ?_
  refine wl_val (gd_t rfl rfl rfl) rfl (val_field fo_27_1 (lk rfl)) ?_
  refine wl_val (gd_t rfl rfl rfl) rfl (val_load1 t1_3 (lkg rfl) (cell_own (.head _) fun _ => rfl)) ?_
  refine wl_val (gd_t rfl rfl rfl) rfl (val_eql (lkg rfl) (lkg rfl)) ?_
  refine wl_v rfl (val_and (lk rfl) (lkg rfl)) ?_
  refine wl_v rfl (val_move (lk rfl)) ?_
  refine wl_val (gd_t rfl rfl rfl) rfl (val_field fo_27_2 (lk rfl)) ?_
  refine wl_val (gd_t rfl rfl rfl) rfl (val_load1 t1_3 (lkg rfl) (cell_own (.tail _ (.head _)) fun _ => rfl)) ?_
  refine wl_val (gd_t rfl rfl rfl) rfl (val_field fo_27_2 (lk rfl)) ?_
  refine wl_val (gd_t rfl rfl rfl) rfl (val_load1 t1_3 (lkg rfl) (cell_own (.head _) fun _ => rfl)) ?_
  refine wl_val (gd_t rfl rfl rfl) rfl (val_eql (lkg rfl) (lkg rfl)) ?_
  refine wl_v rfl (val_and (lk rfl) (lkg rfl)) ?_
  refine wl_v rfl (val_move (lk rfl)) ?_
  refine wl_val (gd_t rfl rfl rfl) rfl (val_field fo_27_3 (lk rfl)) ?_
  refine wl_val (gd_t rfl rfl rfl) rfl (val_load1 t1_22 (lkg rfl) (cell_own (.tail _ (.head _)) fun _ => rfl)) ?_
  refine wl_val (gd_t rfl rfl rfl) rfl (val_field fo_27_3 (lk rfl)) ?_
  refine wl_val (gd_t rfl rfl rfl) rfl (val_load1 t1_22 (lkg rfl) (cell_own (.head _) fun _ => rfl)) ?_
  refine wl_call (gd_t rfl rfl rfl) rfl ci_44 (args2 (lkg rfl) (lkg rfl)) (fun hG w1 hw => sEqualInts_c _ _ _ _ _ _ _ _ _ _ w1 (hs.hp hw rfl) (hs2.hp hw rfl) (by omega)) ?_
  refine wl_v rfl (val_and (lk rfl) (lkg rfl)) ?_
  refine wl_v rfl (val_assign (lk rfl)) ?_
  refine wl_nil ?_
  refine px_then ?_
  refine wc_ret ?_
  refine fin1 rfl (res_tmp rfl) (fun w1 hw => ?_)
  exact ⟨rfl, hw.drop rfl⟩

theorem EqSub_c (s t : Sub) (A B : Option Addr) (b o c b2 o2 c2 : Nat) (w : World) (hs : Sl w A b o (flat encI s.nets)) (hs2 : Sl w B b2 o2 (flat encI t.nets)) (hl : s.nets.length ≤ 2097152) :
    Calls Try.prog 18 #[s.val A c, t.val B c2] w fun e w' => e = .returned (.bool (s.eqb t)) ∧ HP w [] w' := by
  refine calls_entry [] _ Try.func18 rfl Try.ntmps18 (HP.refl w) (env2 rfl) ?_
  refine wc_seq ?_
  refine wc_region ?_
  refine wl_box (lk rfl) rfl fun b1 => ?_
  refine wl_box (lk rfl) rfl fun b2 => ?_
  refine wl_v rfl (val_assign lkc) ?_
  refine wl_nil ?_
  refine px_then ?_
  refine wc_seq ?_
  refine wc_region ?_
  refine wl_v rfl (val_field fo_27_0 (lk rfl)) ?_
  refine wl_v rfl (val_load1 t1_3 (lk rfl) (cell_own (.tail _ (.head _)) fun _ => rfl)) ?_
  refine wl_v rfl (val_field fo_27_0 (lk rfl)) ?_
  refine wl_v rfl (val_load1 t1_3 (lk rfl) (cell_own (.head _) fun _ => rfl)) ?_
  refine wl_v rfl (val_eql (lk rfl) (lk rfl)) ?_
  refine wl_v rfl (val_move (lk rfl)) ?_
  refine wl_val (gd_t rfl rfl rfl) rfl (val_field fo_27_1 (lk rfl)) ?_
  refine wl_val (gd_t rfl rfl rfl) rfl (val_load1 t1_3 (lkg rfl) (cell_own (.tail _ (.head _)) fun _ => rfl)) ?_
  refine wl_val (gd_t rfl rfl rfl) rfl (val_field fo_27_1 (lk rfl)) ?_
  refine wl_val (gd_t rfl rfl rfl) rfl (val_load1 t1_3 (lkg rfl) (cell_own (.head _) fun _ => rfl)) ?_
  refine wl_val (gd_t rfl rfl rfl) rfl (val_eql (lkg rfl) (lkg rfl)) ?_
  refine wl_v rfl (val_and (lk rfl) (lkg rfl)) ?_
  refine wl_v rfl (val_move (lk rfl)) ?_
  refine wl_val (gd_t rfl rfl rfl) rfl (val_field fo_27_2 (lk rfl)) ?_
  refine wl_val (gd_t rfl rfl rfl) rfl (val_load1 t1_3 (lkg rfl) (cell_own (.tail _ (.head _)) fun _ => rfl)) ?_
  refine wl_val (gd_t rfl rfl rfl) rfl (val_field fo_27_2 (lk rfl)) ?_
  refine wl_val (gd_t rfl rfl rfl) rfl (val_load1 t1_3 (lkg rfl) (cell_own (.head _) fun _ => rfl)) ?_
  refine wl_val (gd_t rfl rfl rfl) rfl (val_eql (lkg rfl) (lkg rfl)) ?_
  refine wl_v rfl (val_and (lk rfl) (lkg rfl)) ?_
  refine wl_v rfl (val_move (lk rfl)) ?_
  refine wl_val (gd_t rfl rfl rfl) rfl (val_field fo_27_3 (lk rfl)) ?_
  refine wl_val (gd_t rfl rfl rfl) rfl (val_load1 t1_22 (lkg rfl) (cell_own (.tail _ (.head _)) fun _ => rfl)) ?_
  refine wl_val (gd_t rfl rfl rfl) rfl (val_field fo_27_3 (lk rfl)) ?_
  refine wl_val (gd_t rfl rfl rfl) rfl (val_load1 t1_22 (lkg rfl) (cell_own (.head _) fun _ => rfl)) ?_
  refine wl_call (gd_t rfl rfl rfl) rfl ci_45 (args2 (lkg rfl) (lkg rfl)) (fun hG w1 hw => EqualInts_c _ _ _ _ _ _ _ _ _ _ w1 (hs.hp hw rfl) (hs2.hp hw rfl) (by omega)) ?_
  refine wl_v rfl (val_and (lk rfl) (lkg rfl)) ?_
  refine wl_v rfl (val_assign (lk rfl)) ?_
  refine wl_nil ?_
  refine px_then ?_
  refine wc_ret ?_
  refine fin1 rfl (res_tmp rfl) (fun w1 hw => ?_)
  exact ⟨rfl, hw.drop rfl⟩

theorem eqSub_c (s t : Sub) (A B : Option Addr) (b o c b2 o2 c2 : Nat) (w : World) (hs : Sl w A b o (flat encI s.nets)) (hs2 : Sl w B b2 o2 (flat encI t.nets)) (hl : s.nets.length ≤ 2097152) :
    Calls Try.prog 14 #[s.val A c, t.val B c2] w fun e w' => e = .returned (.bool (s.eqb t)) ∧ HP w [] w' := by
  refine calls_entry [] _ Try.func14 rfl Try.ntmps14 (HP.refl w) (env2 rfl) ?_
  refine wc_seq ?_
  refine wc_region ?_
  refine wl_box (lk rfl) rfl fun b1 => ?_
  refine wl_box (lk rfl) rfl fun b2 => ?_
  refine wl_v rfl (val_assign lkc) ?_
  refine wl_nil ?_
  refine px_then ?_
  refine wc_seq ?_
  refine wc_seq ?_
  refine wc_region ?_
  refine wl_v rfl (val_field fo_27_0 (lk rfl)) ?_
  refine wl_v rfl (val_load1 t1_3 (lk rfl) (cell_own (.tail _ (.head _)) fun _ => rfl)) ?_
  refine wl_v rfl (val_field fo_27_0 (lk rfl)) ?_
  refine wl_v rfl (val_load1 t1_3 (lk rfl) (cell_own (.head _) fun _ => rfl)) ?_
  refine wl_v rfl (val_neq (lk rfl) (lk rfl)) ?_
  refine wl_nil ?_
  refine px_then ?_
  refine wc_cond (lk rfl) (fun hc0 => ?_) (fun hc0 => ?_)
  · refine wc_seq ?_
    refine wc_region ?_
    refine wl_v rfl (val_assign lkc) ?_
    refine wl_nil ?_
    refine px_then ?_
    refine wc_ret ?_
    refine px_then_ret ?_
    refine fin1 rfl (res_tmp rfl) (fun w1 hw => ?_)
    exact ⟨by simp_all [Sub.eqb], hw.drop rfl⟩
  refine wc_skip ?_
  refine px_then ?_
  refine wc_seq ?_
  refine wc_seq ?_
  refine wc_region ?_
  refine wl_v rfl (val_field fo_27_1 (lk rfl)) ?_
  refine wl_v rfl (val_load1 t1_3 (lk rfl) (cell_own (.tail _ (.head _)) fun _ => rfl)) ?_
  refine wl_v rfl (val_field fo_27_1 (lk rfl)) ?_
  refine wl_v rfl (val_load1 t1_3 (lk rfl) (cell_own (.head _) fun _ => rfl)) ?_
  refine wl_v rfl (val_neq (lk rfl) (lk rfl)) ?_
  refine wl_nil ?_
  refine px_then ?_
  refine wc_cond (lk rfl) (fun hc1 => ?_) (fun hc1 => ?_)
  · refine wc_seq ?_
    refine wc_region ?_
    refine wl_v rfl (val_assign lkc) ?_
    refine wl_nil ?_
    refine px_then ?_
    refine wc_ret ?_
    refine px_then_ret ?_
    refine fin1 rfl (res_tmp rfl) (fun w1 hw => ?_)
    exact ⟨by simp_all [Sub.eqb], hw.drop rfl⟩
  refine wc_skip ?_
  refine px_then ?_
  refine wc_seq ?_
  refine wc_seq ?_
  refine wc_region ?_
  refine wl_v rfl (val_field fo_27_2 (lk rfl)) ?_
  refine wl_v rfl (val_load1 t1_3 (lk rfl) (cell_own (.tail _ (.head _)) fun _ => rfl)) ?_
  refine wl_v rfl (val_field fo_27_2 (lk rfl)) ?_
  refine wl_v rfl (val_load1 t1_3 (lk rfl) (cell_own (.head _) fun _ => rfl)) ?_
  refine wl_v rfl (val_neq (lk rfl) (lk rfl)) ?_
  refine wl_nil ?_
  refine px_then ?_
  refine wc_cond (lk rfl) (fun hc2 => ?_) (fun hc2 => ?_)
  · refine wc_seq ?_
    refine wc_region ?_
    refine wl_v rfl (val_assign lkc) ?_
    refine wl_nil ?_
    refine px_then ?_
    refine wc_ret ?_
    refine px_then_ret ?_
    refine fin1 rfl (res_tmp rfl) (fun w1 hw => ?_)
    exact ⟨by simp_all [Sub.eqb], hw.drop rfl⟩
  refine wc_skip ?_
  refine px_then ?_
  refine wc_seq ?_
  refine wc_seq ?_
  refine wc_region ?_
  refine wl_v rfl (val_field fo_27_3 (lk rfl)) ?_
  refine wl_v rfl (val_load1 t1_22 (lk rfl) (cell_own (.tail _ (.head _)) fun _ => rfl)) ?_
  refine wl_v rfl (val_field fo_27_3 (lk rfl)) ?_
  refine wl_v rfl (val_load1 t1_22 (lk rfl) (cell_own (.head _) fun _ => rfl)) ?_
  refine wl_call gd_none rfl ci_40 (args2 (lk rfl) (lk rfl)) (fun hG w1 hw => eqIntS_c _ _ _ _ _ _ _ _ _ _ w1 (hs.hp hw rfl) (hs2.hp hw rfl) (by omega)) ?_
  refine wl_v rfl (val_not (lk rfl)) ?_
  refine wl_nil ?_
  refine px_then ?_
  refine wc_cond (lk rfl) (fun hc3 => ?_) (fun hc3 => ?_)
  · refine wc_seq ?_
    refine wc_region ?_
    refine wl_v rfl (val_assign lkc) ?_
    refine wl_nil ?_
    refine px_then ?_
    refine wc_ret ?_
    refine px_then_ret ?_
    refine fin1 rfl (res_tmp rfl) (fun w1 hw => ?_)
    exact ⟨by simp_all [Sub.eqb], hw.drop rfl⟩
  refine wc_skip ?_
  refine px_then ?_
  refine wc_seq ?_
  refine wc_region ?_
  refine wl_v rfl (val_assign lkc) ?_
  refine wl_nil ?_
  refine px_then ?_
  refine wc_ret ?_
  refine fin1 rfl (res_tmp rfl) (fun w1 hw => ?_)
  exact ⟨by simp_all [Sub.eqb], hw.drop rfl⟩

theorem sOk_c (s : Sub) (A : Option Addr) (b o c : Nat) (w : World) (hs : Sl w A b o (flat encI s.nets)) (hl : s.nets.length ≤ 2097152) :
    Calls Try.prog 15 #[s.val A c] w fun e w' => e = .returned (.bool s.ok) ∧ HP w [] w' := by
  refine calls_entry [] _ Try.func15 rfl Try.ntmps15 (HP.refl w) (env1 rfl) ?_
  refine wc_seq ?_
  refine wc_region ?_
  refine wl_box (lk rfl) rfl fun b1 => ?_
  refine wl_v rfl (val_assign lkc) ?_
  refine wl_nil ?_
  refine px_then ?_
  refine wc_seq ?_
  refine wc_seq ?_
  refine wc_region ?_
  refine wl_v rfl (val_assign lkc) ?_
  refine wl_nil ?_
  refine px_then ?_
  refine wc_block ?_
  refine wc_trim (l' := [(1, _), (2, _), (3, _)]) ⟨rfl, rfl, rfl, trivial⟩ ?_
  refine wc_loop0 (X := Nat) (fun k => k ≤ s.nets.length ∧ ∀ i, i < k → (inAt s.nets i = true ∧ ascAt s.nets i = true)) (fun k => [(3, (true, .int .i64 (k : Nat)))]) (fun k => s.nets.length - k) 0 (⟨Nat.zero_le _, fun i h => absurd h (Nat.not_lt_zero i)⟩) ⟨rfl, rfl, rfl, rfl, trivial⟩ ?_
  rintro k ⟨hk, ht⟩
  refine wc_seq ?_
  refine wc_seq ?_
  refine wc_region ?_
  refine wl_v rfl (val_move (lk rfl)) ?_
  refine wl_v rfl (val_field fo_27_3 (lk rfl)) ?_
  refine wl_v rfl (val_load1 t1_22 (lk rfl) (cell_own (.head _) fun _ => rfl)) ?_
  refine wl_v rfl (val_len es_22 (lk rfl)) ?_
  refine wl_v rfl (val_lss (lk rfl) (lk rfl)) ?_
  refine wl_nil ?_
  refine px_then ?_
  refine wc_cond (lk rfl) (fun hc0 => ?_) (fun hc0 => ?_)
  · have hlt : k < s.nets.length := by have := of_decide_eq_true hc0; omega
    refine wc_skip ?_
    refine px_then ?_
    refine wc_seq ?_
    refine wc_block ?_
    refine wc_seq ?_
    refine wc_region_q mo_ (by kernel_rfl) ?_
    refine wq_v rfl (val_field fo_27_3 (lk rfl)) ?_
    refine wq_v rfl (val_load1 t1_22 (lk rfl) (cell_own (.head _) fun _ => rfl)) ?_
    refine wq_v rfl (val_move (lk rfl)) ?_
    refine wq_v rfl (val_index es_22 (lk rfl) (lk rfl) (fun hG => hs.hd encI_len (by decide) (i := k) (by first | omega | (have h9 := of_decide_eq_true hG; omega) | (simp at hG; omega))) (fun hG => by first | omega | (have h9 := of_decide_eq_true hG; omega) | (simp at hG; omega))) ?_
    refine wq_v rfl (val_load1 t1_3 (lk rfl) (cell_old rfl fun hG => hs.fld encI_len d0I (i := k) (f := 0) (by first | omega | (have h9 := of_decide_eq_true hG; omega) | (simp at hG; omega)) (by decide) rfl)) ?_
    refine wq_call gd_none rfl ci_41 (args3 (lk rfl) lkc lkc) (fun hG w1 hw => l1In_c _ _ _ w1) ?_
    refine wq_v rfl (val_not (lk rfl)) ?_
    refine wq_v rfl (val_move (lk rfl)) ?_
    refine wq_val (gd_f rfl rfl rfl) rfl (val_move (lk rfl)) ?_
    refine wq_val (gd_f rfl rfl rfl) rfl (val_gtr (lkg rfl) lkc) ?_
    refine wq_val (gd_f rfl rfl rfl) rfl (val_move (lkg rfl)) ?_
    refine wq_val (gd_gt rfl rfl rfl) rfl (val_field fo_27_3 (lk rfl)) ?_
    refine wq_val (gd_gt rfl rfl rfl) rfl (val_load1 t1_22 (lkg rfl) (cell_own (.head _) fun _ => rfl)) ?_
    refine wq_val (gd_gt rfl rfl rfl) rfl (val_move (lk rfl)) ?_
    refine wq_val (gd_gt rfl rfl rfl) rfl (val_dec (lkg rfl) (fun hG => ⟨by simp at hG; omega, by omega⟩)) ?_
    refine wq_val (gd_gt rfl rfl rfl) rfl (val_index es_22 (lkg rfl) (lkg rfl) (fun hG => hs.hd encI_len (by decide) (i := (k - 1)) (by first | omega | (have h9 := of_decide_eq_true hG; omega) | (simp at hG; omega))) (fun hG => by first | omega | (have h9 := of_decide_eq_true hG; omega) | (simp at hG; omega))) ?_
    refine wq_val (gd_gt rfl rfl rfl) rfl (val_load1 t1_3 (lkg rfl) (cell_old rfl fun hG => hs.fld encI_len d0I (i := (k - 1)) (f := 0) (by first | omega | (have h9 := of_decide_eq_true hG; omega) | (simp at hG; omega)) (by decide) rfl)) ?_
    refine wq_val (gd_gt rfl rfl rfl) rfl (val_field fo_27_3 (lk rfl)) ?_
    refine wq_val (gd_gt rfl rfl rfl) rfl (val_load1 t1_22 (lkg rfl) (cell_own (.head _) fun _ => rfl)) ?_
    refine wq_val (gd_gt rfl rfl rfl) rfl (val_move (lk rfl)) ?_
    refine wq_val (gd_gt rfl rfl rfl) rfl (val_index es_22 (lkg rfl) (lkg rfl) (fun hG => hs.hd encI_len (by decide) (i := k) (by first | omega | (have h9 := of_decide_eq_true hG; omega) | (simp at hG; omega))) (fun hG => by first | omega | (have h9 := of_decide_eq_true hG; omega) | (simp at hG; omega))) ?_
    refine wq_val (gd_gt rfl rfl rfl) rfl (val_load1 t1_3 (lkg rfl) (cell_old rfl fun hG => hs.fld encI_len d0I (i := k) (f := 0) (by first | omega | (have h9 := of_decide_eq_true hG; omega) | (simp at hG; omega)) (by decide) rfl)) ?_
    refine wq_val (gd_gt rfl rfl rfl) rfl (val_geq (lkg rfl) (lkg rfl)) ?_
    refine wq_val (gd_f rfl rfl rfl) rfl (val_and (lkg rfl) (lkg rfl)) ?_
    refine wq_v rfl (val_or (lk rfl) (lkg rfl)) ?_
    refine wq_nil ?_
    refine px_then ?_
    refine wc_cond (lk rfl) (fun hc1 => ?_) (fun hc1 => ?_)
    · refine wc_seq ?_
      refine wc_region ?_
      refine wl_v rfl (val_assign lkc) ?_
      refine wl_nil ?_
      refine px_then ?_
      refine wc_ret ?_
      refine px_block_ret ?_
      refine px_then_ret ?_
      refine px_then_ret ?_
      refine px_block_ret ?_
      refine px_then_ret ?_
      refine fin1 rfl (res_tmp rfl) (fun w1 hw => ?_)
      have h9 : inAt s.nets k = false ∨ ascAt s.nets k = false := by revert hc1; unfold inAt ascAt; cases inRange (nth d0I s.nets k) 0 3 <;> simp
      exact ⟨by rcases h9 with h | h <;> simp [Sub.ok, allAt_no hlt h], hw.drop rfl⟩
    refine wc_skip ?_
    refine px_block ?_
    refine px_then ?_
    refine wc_region ?_
    refine wl_v rfl (val_move (lk rfl)) ?_
    refine wl_v rfl (val_inc (lk rfl) (by omega)) ?_
    refine wl_v rfl (val_assign (lk rfl)) ?_
    refine wl_nil ?_
    refine px_round0 (k + 1) (⟨by omega, fun i hi => by
        rcases Nat.lt_succ_iff_lt_or_eq.1 hi with h | rfl
        · exact ht i h
        · revert hc1; unfold inAt ascAt; cases inRange (nth d0I s.nets i) 0 3 <;> simp <;> (intro h9; omega)⟩) (by omega) (⟨rfl, rfl, rfl, rfl, trivial⟩) (fun _ h => h.dropN 0 rfl)
  have hge : k = s.nets.length := by have := of_decide_eq_false hc0; omega
  subst hge
  refine wc_exit ?_
  refine px_then_exit ?_
  refine px_then_exit ?_
  refine px_block_exit ?_
  refine px_then ?_
  refine wc_seq ?_
  refine wc_region ?_
  refine wl_v rfl (val_field fo_27_0 (lk rfl)) ?_
  refine wl_v rfl (val_load1 t1_3 (lk rfl) (cell_own (.head _) fun _ => rfl)) ?_
  refine wl_call gd_none rfl ci_41 (args3 (lk rfl) lkc lkc) (fun hG w1 hw => l1In_c _ _ _ w1) ?_
  refine wl_v rfl (val_move (lk rfl)) ?_
  refine wl_val (gd_t rfl rfl rfl) rfl (val_field fo_27_1 (lk rfl)) ?_
  refine wl_val (gd_t rfl rfl rfl) rfl (val_load1 t1_3 (lkg rfl) (cell_own (.head _) fun _ => rfl)) ?_
  refine wl_call (gd_t rfl rfl rfl) rfl ci_41 (args3 (lkg rfl) lkc lkc) (fun hG w1 hw => l1In_c _ _ _ w1) ?_
  refine wl_v rfl (val_and (lk rfl) (lkg rfl)) ?_
  refine wl_v rfl (val_move (lk rfl)) ?_
  refine wl_val (gd_t rfl rfl rfl) rfl (val_field fo_27_2 (lk rfl)) ?_
  refine wl_val (gd_t rfl rfl rfl) rfl (val_load1 t1_3 (lkg rfl) (cell_own (.head _) fun _ => rfl)) ?_
  refine wl_call (gd_t rfl rfl rfl) rfl ci_41 (args3 (lkg rfl) lkc lkc) (fun hG w1 hw => l1In_c _ _ _ w1) ?_
  refine wl_v rfl (val_and (lk rfl) (lkg rfl)) ?_
  refine wl_v rfl (val_assign (lk rfl)) ?_
  refine wl_nil ?_
  refine px_then ?_
  refine wc_ret ?_
  refine fin1 rfl (res_tmp rfl) (fun w1 hw => ?_)
  exact ⟨by rw [Sub.ok, allAt_yes (fun i hi => (ht i hi).1), allAt_yes (fun i hi => (ht i hi).2), Bool.and_true, Bool.and_true]; rfl, hw.drop rfl⟩

theorem Asc_c (xs : List Int) (A : Option Addr) (b o c : Nat) (w : World) (hs : Sl w A b o (flat encI xs)) (hl : xs.length ≤ 2097152) :
    Calls Try.prog 43 #[.slice A xs.length c] w fun e w' => e = .returned (.bool (allAt (ascAt xs) xs.length)) ∧ HP w [] w' := by
  refine calls_entry [] _ Try.func43 rfl Try.ntmps43 (HP.refl w) (env1 rfl) ?_
  refine wc_seq ?_
  refine wc_region ?_
  refine wl_v rfl (val_assign lkc) ?_
  refine wl_nil ?_
  refine px_then ?_
  refine wc_seq ?_
  refine wc_seq ?_
  refine wc_region ?_
  refine wl_v rfl (val_assign lkc) ?_
  refine wl_nil ?_
  refine px_then ?_
  refine wc_block ?_
  refine wc_trim (l' := [(0, _), (2, _), (3, _)]) ⟨rfl, rfl, rfl, trivial⟩ ?_
  refine wc_loop0 (X := Nat) (fun k => 1 ≤ k ∧ k ≤ xs.length + 1 ∧ ∀ i, i < k → i < xs.length → ascAt xs i = true) (fun k => [(3, (true, .int .i64 (k : Nat)))]) (fun k => xs.length + 1 - k) 1 (⟨Nat.le_refl _, by omega, fun i h _ => by rw [show i = 0 by omega]; rfl⟩) ⟨rfl, rfl, rfl, rfl, trivial⟩ ?_
  rintro k ⟨hk1, hk, ht⟩
  refine wc_seq ?_
  refine wc_seq ?_
  refine wc_region ?_
  refine wl_v rfl (val_move (lk rfl)) ?_
  refine wl_v rfl (val_move (lk rfl)) ?_
  refine wl_v rfl (val_len es_22 (lk rfl)) ?_
  refine wl_v rfl (val_lss (lk rfl) (lk rfl)) ?_
  refine wl_nil ?_
  refine px_then ?_
  refine wc_cond (lk rfl) (fun hc0 => ?_) (fun hc0 => ?_)
  · have hlt : k < xs.length := by have := of_decide_eq_true hc0; omega
    refine wc_skip ?_
    refine px_then ?_
    refine wc_seq ?_
    refine wc_block ?_
    refine wc_seq ?_
    refine wc_region_q mo_ (by kernel_rfl) ?_
    refine wq_v rfl (val_move (lk rfl)) ?_
    refine wq_v rfl (val_move (lk rfl)) ?_
    refine wq_v rfl (val_dec (lk rfl) (fun hG => ⟨by omega, by omega⟩)) ?_
    refine wq_v rfl (val_index es_22 (lk rfl) (lk rfl) (fun hG => hs.hd encI_len (by decide) (i := (k - 1)) (by first | omega | (have h9 := of_decide_eq_true hG; omega) | (simp at hG; omega))) (fun hG => by first | omega | (have h9 := of_decide_eq_true hG; omega) | (simp at hG; omega))) ?_
    refine wq_v rfl (val_load1 t1_3 (lk rfl) (cell_old rfl fun hG => hs.fld encI_len d0I (i := (k - 1)) (f := 0) (by first | omega | (have h9 := of_decide_eq_true hG; omega) | (simp at hG; omega)) (by decide) rfl)) ?_
    refine wq_v rfl (val_move (lk rfl)) ?_
    refine wq_v rfl (val_move (lk rfl)) ?_
    refine wq_v rfl (val_index es_22 (lk rfl) (lk rfl) (fun hG => hs.hd encI_len (by decide) (i := k) (by first | omega | (have h9 := of_decide_eq_true hG; omega) | (simp at hG; omega))) (fun hG => by first | omega | (have h9 := of_decide_eq_true hG; omega) | (simp at hG; omega))) ?_
    refine wq_v rfl (val_load1 t1_3 (lk rfl) (cell_old rfl fun hG => hs.fld encI_len d0I (i := k) (f := 0) (by first | omega | (have h9 := of_decide_eq_true hG; omega) | (simp at hG; omega)) (by decide) rfl)) ?_
    refine wq_v rfl (val_geq (lk rfl) (lk rfl)) ?_
    refine wq_nil ?_
    refine px_then ?_
    refine wc_cond (lk rfl) (fun hc1 => ?_) (fun hc1 => ?_)
    · refine wc_seq ?_
      refine wc_region ?_
      refine wl_v rfl (val_assign lkc) ?_
      refine wl_nil ?_
      refine px_then ?_
      refine wc_ret ?_
      refine px_block_ret ?_
      refine px_then_ret ?_
      refine px_then_ret ?_
      refine px_block_ret ?_
      refine px_then_ret ?_
      refine fin1 rfl (res_tmp rfl) (fun w1 hw => ?_)
      exact ⟨by rw [allAt_no hlt (show ascAt xs k = false by unfold ascAt; revert hc1; simp; omega)], hw.drop rfl⟩
    refine wc_skip ?_
    refine px_block ?_
    refine px_then ?_
    refine wc_region ?_
    refine wl_v rfl (val_move (lk rfl)) ?_
    refine wl_v rfl (val_inc (lk rfl) (by omega)) ?_
    refine wl_v rfl (val_assign (lk rfl)) ?_
    refine wl_nil ?_
    refine px_round0 (k + 1) (⟨by omega, by omega, fun i hi hj => by
        rcases Nat.lt_succ_iff_lt_or_eq.1 hi with h | rfl
        · exact ht i h hj
        · unfold ascAt; revert hc1; simp; omega⟩) (by omega) (⟨rfl, rfl, rfl, rfl, trivial⟩) (fun _ h => h.dropN 0 rfl)
  have hge : xs.length ≤ k := by have := of_decide_eq_false hc0; omega
  refine wc_exit ?_
  refine px_then_exit ?_
  refine px_then_exit ?_
  refine px_block_exit ?_
  refine px_then ?_
  refine wc_seq ?_
  refine wc_region ?_
  refine wl_v rfl (val_assign lkc) ?_
  refine wl_nil ?_
  refine px_then ?_
  refine wc_ret ?_
  refine fin1 rfl (res_tmp rfl) (fun w1 hw => ?_)
  exact ⟨by rw [allAt_yes (fun i hi => ht i (by omega) hi)], hw.drop rfl⟩

theorem Ok_c (s : Sub) (A : Option Addr) (b o c : Nat) (w : World) (hs : Sl w A b o (flat encI s.nets)) (hl : s.nets.length ≤ 2097152) :
    Calls Try.prog 16 #[s.val A c] w fun e w' => e = .returned (.bool s.ok) ∧ HP w [] w' := by
  refine calls_entry [] _ Try.func16 rfl Try.ntmps16 (HP.refl w) (env1 rfl) ?_
  refine wc_seq ?_
  refine wc_region ?_
  refine wl_box (lk rfl) rfl fun b1 => ?_
  refine wl_v rfl (val_assign lkc) ?_
  refine wl_nil ?_
  refine px_then ?_
  refine wc_seq ?_
  refine wc_seq ?_
  refine wc_region ?_
  refine wl_v rfl (val_field fo_27_0 (lk rfl)) ?_
  refine wl_v rfl (val_load1 t1_3 (lk rfl) (cell_own (.head _) fun _ => rfl)) ?_
  refine wl_call gd_none rfl ci_42 (args3 (lk rfl) lkc lkc) (fun hG w1 hw => InRange_c _ _ _ w1) ?_
  refine wl_v rfl (val_not (lk rfl)) ?_
  refine wl_v rfl (val_move (lk rfl)) ?_
  refine wl_val (gd_f rfl rfl rfl) rfl (val_field fo_27_1 (lk rfl)) ?_
  refine wl_val (gd_f rfl rfl rfl) rfl (val_load1 t1_3 (lkg rfl) (cell_own (.head _) fun _ => rfl)) ?_
  refine wl_call (gd_f rfl rfl rfl) rfl ci_42 (args3 (lkg rfl) lkc lkc) (fun hG w1 hw => InRange_c _ _ _ w1) ?_
  refine wl_val (gd_f rfl rfl rfl) rfl (val_not (lkg rfl)) ?_
  refine wl_v rfl (val_or (lk rfl) (lkg rfl)) ?_
  refine wl_v rfl (val_move (lk rfl)) ?_
  refine wl_val (gd_f rfl rfl rfl) rfl (val_field fo_27_2 (lk rfl)) ?_
  refine wl_val (gd_f rfl rfl rfl) rfl (val_load1 t1_3 (lkg rfl) (cell_own (.head _) fun _ => rfl)) ?_
  refine wl_call (gd_f rfl rfl rfl) rfl ci_42 (args3 (lkg rfl) lkc lkc) (fun hG w1 hw => InRange_c _ _ _ w1) ?_
  refine wl_val (gd_f rfl rfl rfl) rfl (val_not (lkg rfl)) ?_
  refine wl_v rfl (val_or (lk rfl) (lkg rfl)) ?_
  refine wl_nil ?_
  refine px_then ?_
  refine wc_cond (lk rfl) (fun hc0 => ?_) (fun hc0 => ?_)
  · have hhd : s.hd = false := by simp only [Sub.hd]; revert hc0; cases inRange s.rate 1 1000 <;> cases inRange s.best 1 4 <;> cases inRange s.grant 1 100000 <;> simp
    refine wc_seq ?_
    refine wc_region ?_
    refine wl_v rfl (val_assign lkc) ?_
    refine wl_nil ?_
    refine px_then ?_
    refine wc_ret ?_
    refine px_then_ret ?_
    refine fin1 rfl (res_tmp rfl) (fun w1 hw => ?_)
    exact ⟨by rw [Sub.ok, hhd]; rfl, hw.drop rfl⟩
  have hhd : s.hd = true := by simp only [Sub.hd]; revert hc0; cases inRange s.rate 1 1000 <;> cases inRange s.best 1 4 <;> cases inRange s.grant 1 100000 <;> simp
  refine wc_skip ?_
  refine px_then ?_
  refine wc_seq ?_
  refine wc_seq ?_
  refine wc_region ?_
  refine wl_v rfl (val_field fo_27_3 (lk rfl)) ?_
  refine wl_v rfl (val_load1 t1_22 (lk rfl) (cell_own (.head _) fun _ => rfl)) ?_
  refine wl_v rfl (val_len es_22 (lk rfl)) ?_
  refine wl_v rfl (val_move lkc) ?_
  refine wl_nil ?_
  refine px_then ?_
  refine wc_block ?_
  refine wc_trim (l' := [(1, _), (2, _), (22, _), (23, _), (24, _)]) ⟨rfl, rfl, rfl, rfl, rfl, trivial⟩ ?_
  refine wc_loop0 (X := Nat) (fun k => k ≤ s.nets.length ∧ ∀ i, i < k → inAt s.nets i = true) (fun k => [(24, (true, .int .i64 (k : Nat)))]) (fun k => s.nets.length - k) 0 (⟨Nat.zero_le _, fun i h => absurd h (Nat.not_lt_zero i)⟩) ⟨rfl, rfl, rfl, rfl, rfl, rfl, trivial⟩ ?_
  rintro k ⟨hk, ht⟩
  refine wc_seq ?_
  refine wc_region ?_
  refine wl_v rfl (val_lss (lk rfl) (lk rfl)) ?_
  refine wl_nil ?_
  refine px_then ?_
  refine wc_seq ?_
  refine wc_cond (lk rfl) (fun hc1 => ?_) (fun hc1 => ?_)
  · have hlt : k < s.nets.length := by have := of_decide_eq_true hc1; omega
    refine wc_skip ?_
    refine px_then ?_
    refine wc_seq ?_
    refine wc_block ?_
    refine wc_seq ?_
    refine wc_region ?_
    refine wl_v rfl (val_index es_22 (lk rfl) (lk rfl) (fun hG => hs.hd encI_len (by decide) (i := k) (by first | omega | (have h9 := of_decide_eq_true hG; omega) | (simp at hG; omega))) (fun hG => by first | omega | (have h9 := of_decide_eq_true hG; omega) | (simp at hG; omega))) ?_
    refine wl_v rfl (val_load1 t1_3 (lk rfl) (cell_old rfl fun hG => hs.fld encI_len d0I (i := k) (f := 0) (by first | omega | (have h9 := of_decide_eq_true hG; omega) | (simp at hG; omega)) (by decide) rfl)) ?_
    refine wl_v rfl (val_assign (lk rfl)) ?_
    refine wl_nil ?_
    refine px_then ?_
    refine wc_seq ?_
    refine wc_region ?_
    refine wl_v rfl (val_move (lk rfl)) ?_
    refine wl_call gd_none rfl ci_42 (args3 (lk rfl) lkc lkc) (fun hG w1 hw => InRange_c _ _ _ w1) ?_
    refine wl_v rfl (val_not (lk rfl)) ?_
    refine wl_nil ?_
    refine px_then ?_
    refine wc_cond (lk rfl) (fun hc2 => ?_) (fun hc2 => ?_)
    · refine wc_seq ?_
      refine wc_region ?_
      refine wl_v rfl (val_assign lkc) ?_
      refine wl_nil ?_
      refine px_then ?_
      refine wc_ret ?_
      refine px_block_ret ?_
      refine px_then_ret ?_
      refine px_then_ret ?_
      refine px_block_ret ?_
      refine px_then_ret ?_
      refine fin1 rfl (res_tmp rfl) (fun w1 hw => ?_)
      exact ⟨by rw [Sub.ok, allAt_no hlt (show inAt s.nets k = false by simpa [inAt] using hc2)]; simp, hw.drop rfl⟩
    refine wc_skip ?_
    refine px_block ?_
    refine px_then ?_
    refine wc_region ?_
    refine wl_v rfl (val_inc (lk rfl) (by omega)) ?_
    refine wl_v rfl (val_move (lk rfl)) ?_
    refine wl_nil ?_
    refine px_round0 (k + 1) (⟨by omega, fun i hi => by
        rcases Nat.lt_succ_iff_lt_or_eq.1 hi with h | rfl
        · exact ht i h
        · simpa [inAt] using hc2⟩) (by omega) (⟨rfl, rfl, rfl, rfl, rfl, rfl, trivial⟩) (fun _ h => h.dropN 0 rfl)
  have hge : k = s.nets.length := by have := of_decide_eq_false hc1; omega
  subst hge
  refine wc_exit ?_
  refine px_then_exit ?_
  refine px_then_exit ?_
  refine px_block_exit ?_
  refine px_then ?_
  refine wc_seq ?_
  refine wc_region ?_
  refine wl_v rfl (val_field fo_27_3 (lk rfl)) ?_
  refine wl_v rfl (val_load1 t1_22 (lk rfl) (cell_own (.head _) fun _ => rfl)) ?_
  refine wl_call gd_none rfl ci_43 (args1 (lk rfl)) (fun hG w1 hw => Asc_c _ _ _ _ _ w1 (hs.hp hw rfl) (by omega)) ?_
  refine wl_v rfl (val_assign (lk rfl)) ?_
  refine wl_nil ?_
  refine px_then ?_
  refine wc_ret ?_
  refine fin1 rfl (res_tmp rfl) (fun w1 hw => ?_)
  exact ⟨by rw [Sub.ok, hhd, allAt_yes ht]; rfl, hw.drop rfl⟩

theorem sLim_c (s : Sub) (A : Option Addr) (c : Nat) (r : Bear) (w : World) :
    Calls Try.prog 19 #[s.val A c, .agg (recV encB r).toArray] w fun e w' => e = .returned (.agg (recV encB (limB s r)).toArray) ∧ HP w [] w' := by
  refine calls_entry [] _ Try.func19 rfl Try.ntmps19 (HP.refl w) (env2 rfl) ?_
  refine wc_seq ?_
  refine wc_region ?_
  refine wl_box (lk rfl) rfl fun b1 => ?_
  refine wl_box (lk rfl) rfl fun b2 => ?_
  refine wl_alloc zc_36 rfl fun b3 => ?_
  refine wl_nil ?_
  refine px_then ?_
  refine wc_seq ?_
  refine wc_region_aL 13 14 mo_ rfl ?_
  refine wa_take 0 rfl (by kernel_rfl) (by kernel_rfl) (by kernel_rfl) (by kernel_rfl) (fun _ h => h.dropN 0 rfl) gd_none rfl (val_field fo_36_0 (lk rfl)) ?_
  refine wa_take 1 rfl (by kernel_rfl) (by kernel_rfl) (by kernel_rfl) (by kernel_rfl) (fun _ h => h.dropN 0 rfl) gd_none rfl (val_load1 t1_3 (lk rfl) (cell_own (.tail _ (.head _)) fun _ => rfl)) ?_
  refine wa_take 2 rfl (by kernel_rfl) (by kernel_rfl) (by kernel_rfl) (by kernel_rfl) (fun _ h => h.dropN 0 rfl) gd_none rfl (val_field fo_27_1 (lk rfl)) ?_
  refine wa_take 3 rfl (by kernel_rfl) (by kernel_rfl) (by kernel_rfl) (by kernel_rfl) (fun _ h => h.dropN 0 rfl) gd_none rfl (val_load1 t1_3 (lk rfl) (cell_own (.tail _ (.tail _ (.head _))) fun _ => rfl)) ?_
  refine wa_take 4 rfl (by kernel_rfl) (by kernel_rfl) (by kernel_rfl) (by kernel_rfl) (fun _ h => h.dropN 0 rfl) gd_none rfl (val_field fo_36_1 (lk rfl)) ?_
  refine wa_take 5 rfl (by kernel_rfl) (by kernel_rfl) (by kernel_rfl) (by kernel_rfl) (fun _ h => h.dropN 0 rfl) gd_none rfl (val_load1 t1_3 (lk rfl) (cell_own (.tail _ (.head _)) fun _ => rfl)) ?_
  refine wa_take 7 rfl (by kernel_rfl) (by kernel_rfl) (by kernel_rfl) (by kernel_rfl) (fun _ h => h.dropN 0 rfl) gd_none rfl (val_field fo_27_0 (lk rfl)) ?_
  refine wa_take 8 rfl (by kernel_rfl) (by kernel_rfl) (by kernel_rfl) (by kernel_rfl) (fun _ h => h.dropN 0 rfl) gd_none rfl (val_load1 t1_3 (lk rfl) (cell_own (.tail _ (.tail _ (.head _))) fun _ => rfl)) ?_
  refine wa_take 9 rfl (by kernel_rfl) (by kernel_rfl) (by kernel_rfl) (by kernel_rfl) (fun _ h => h.dropN 0 rfl) gd_none rfl (val_field fo_36_2 (lk rfl)) ?_
  refine wa_take 10 rfl (by kernel_rfl) (by kernel_rfl) (by kernel_rfl) (by kernel_rfl) (fun _ h => h.dropN 0 rfl) gd_none rfl (val_load1 t1_3 (lk rfl) (cell_own (.tail _ (.head _)) fun _ => rfl)) ?_
  refine wa_only 6 (by kernel_rfl) rfl ?_
  refine wl_call gd_none rfl ci_46 (args2 (lk rfl) (lk rfl)) (fun hG w1 hw => sMax_c _ _ w1) ?_
  refine wl_nil (px_qn (fun _ h => h.dropN 0 rfl) ?_)
  refine wa_only 11 (by kernel_rfl) rfl ?_
  refine wl_call gd_none rfl ci_47 (args2 (lk rfl) (lk rfl)) (fun hG w1 hw => sMin_c _ _ w1) ?_
  refine wl_nil (px_qn (fun _ h => h.dropN 0 rfl) ?_)
  refine wa_take 12 rfl (by kernel_rfl) (by kernel_rfl) (by kernel_rfl) (by kernel_rfl) (fun _ h => h.dropN 0 rfl) gd_none rfl (val_buildP (partsC (lk rfl) (partsC (lk rfl) (partsC (lk rfl) parts0))) (bl_36_0_1_2 _ _ _)) ?_
  refine wa_only 13 (by kernel_rfl) rfl ?_
  refine wl_storeB 0 rfl (lk rfl) (lk rfl) ag_36 rfl rfl ?_
  refine wl_nil (px_ql ?_)
  refine wa_done (by kernel_rfl) ?_
  refine px_then ?_
  refine wc_ret ?_
  refine fin1 rfl (res_cell rfl (.head _) ag_36) (fun w1 hw => ?_)
  exact ⟨by rw [limB, imax_comm, imin_comm]; rfl, hw.drop rfl⟩

theorem Lim_c (s : Sub) (A : Option Addr) (c : Nat) (r : Bear) (w : World) :
    Calls Try.prog 21 #[s.val A c, .agg (recV encB r).toArray] w fun e w' => e = .returned (.agg (recV encB (limB s r)).toArray) ∧ HP w [] w' := by
  refine calls_entry [] _ Try.func21 rfl Try.ntmps21 (HP.refl w) (env2 rfl) ?_
  refine wc_seq ?_
  refine wc_region ?_
  refine wl_box (lk rfl) rfl fun b1 => ?_
  refine wl_box (lk rfl) rfl fun b2 => ?_
  refine wl_alloc zc_36 rfl fun b3 => ?_
  refine wl_nil ?_
  refine px_then ?_
  refine wc_seq ?_
  refine wc_region ?_
  refine wl_v rfl (val_field fo_36_1 (lk rfl)) ?_
  refine wl_v rfl (val_load1 t1_3 (lk rfl) (cell_own (.tail _ (.head _)) fun _ => rfl)) ?_
  refine wl_v rfl (val_field fo_27_1 (lk rfl)) ?_
  refine wl_v rfl (val_load1 t1_3 (lk rfl) (cell_own (.tail _ (.tail _ (.head _))) fun _ => rfl)) ?_
  refine wl_call gd_none rfl ci_48 (args2 (lk rfl) (lk rfl)) (fun hG w1 hw => Max_c _ _ w1) ?_
  refine wl_v rfl (val_field fo_36_1 (lk rfl)) ?_
  refine wl_store1 1 rfl (lk rfl) (lk rfl) t1_3 rfl (rfl) ?_
  refine wl_nil ?_
  refine px_then ?_
  refine wc_seq ?_
  refine wc_region ?_
  refine wl_v rfl (val_field fo_36_2 (lk rfl)) ?_
  refine wl_v rfl (val_load1 t1_3 (lk rfl) (cell_own (.tail _ (.head _)) fun _ => rfl)) ?_
  refine wl_v rfl (val_field fo_27_0 (lk rfl)) ?_
  refine wl_v rfl (val_load1 t1_3 (lk rfl) (cell_own (.tail _ (.tail _ (.head _))) fun _ => rfl)) ?_
  refine wl_call gd_none rfl ci_49 (args2 (lk rfl) (lk rfl)) (fun hG w1 hw => Min_c _ _ w1) ?_
  refine wl_v rfl (val_field fo_36_2 (lk rfl)) ?_
  refine wl_store1 1 rfl (lk rfl) (lk rfl) t1_3 rfl (rfl) ?_
  refine wl_nil ?_
  refine px_then ?_
  refine wc_seq ?_
  refine wc_region ?_
  refine wl_v rfl (val_loadB (.tail _ (.head _)) (lk rfl) ag_36) ?_
  refine wl_storeB 0 rfl (lk rfl) (lk rfl) ag_36 rfl rfl ?_
  refine wl_nil ?_
  refine px_then ?_
  refine wc_ret ?_
  refine fin1 rfl (res_cell rfl (.head _) ag_36) (fun w1 hw => ?_)
  exact ⟨rfl, hw.drop rfl⟩

theorem sWithin_c (s : Sub) (rs : List Bear) (A A2 : Option Addr) (b o c b2 o2 c2 : Nat) (w : World) (hsr : Sl w A2 b2 o2 (flat encB rs)) (hlr : rs.length ≤ 2097152) :
    Calls Try.prog 24 #[s.val A c, .slice A2 rs.length c2] w fun e w' => e = .returned (.bool (allAt (fitAt s rs) rs.length)) ∧ HP w [] w' := by
  refine calls_entry [] _ Try.func24 rfl Try.ntmps24 (HP.refl w) (env2 rfl) ?_
  refine wc_seq ?_
  refine wc_region ?_
  refine wl_box (lk rfl) rfl fun b1 => ?_
  refine wl_v rfl (val_assign lkc) ?_
  refine wl_nil ?_
  refine px_then ?_
  refine wc_seq ?_
  refine wc_seq ?_
  refine wc_region ?_
  refine wl_v rfl (val_assign lkc) ?_
  refine wl_nil ?_
  refine px_then ?_
  refine wc_block ?_
  refine wc_trim (l' := [(1, _), (2, _), (4, _), (5, _)]) ⟨rfl, rfl, rfl, rfl, trivial⟩ ?_
  refine wc_loop0 (X := Nat) (fun k => k ≤ rs.length ∧ ∀ i, i < k → fitAt s rs i = true) (fun k => [(5, (true, .int .i64 (k : Nat)))]) (fun k => rs.length - k) 0 (⟨Nat.zero_le _, fun i h => absurd h (Nat.not_lt_zero i)⟩) ⟨rfl, rfl, rfl, rfl, rfl, trivial⟩ ?_
  rintro k ⟨hk, ht⟩
  refine wc_seq ?_
  refine wc_seq ?_
  refine wc_region ?_
  refine wl_v rfl (val_move (lk rfl)) ?_
  refine wl_v rfl (val_move (lk rfl)) ?_
  refine wl_v rfl (val_len es_44 (lk rfl)) ?_
  refine wl_v rfl (val_lss (lk rfl) (lk rfl)) ?_
  refine wl_nil ?_
  refine px_then ?_
  refine wc_cond (lk rfl) (fun hc0 => ?_) (fun hc0 => ?_)
  · have hlt : k < rs.length := by have := of_decide_eq_true hc0; omega
    refine wc_skip ?_
    refine px_then ?_
    refine wc_seq ?_
    refine wc_block ?_
    refine wc_seq ?_
    refine wc_region_q mo_ (by kernel_rfl) ?_
    refine wq_v rfl (val_move (lk rfl)) ?_
    refine wq_v rfl (val_move (lk rfl)) ?_
    refine wq_v rfl (val_index es_44 (lk rfl) (lk rfl) (fun hG => hsr.hd encB_len (by decide) (i := k) (by first | omega | (have h9 := of_decide_eq_true hG; omega) | (simp at hG; omega))) (fun hG => by first | omega | (have h9 := of_decide_eq_true hG; omega) | (simp at hG; omega))) ?_
    refine wq_v rfl (val_loadN ag_36 (lk rfl) rfl (hsr.rec_ rfl encB_len d0B (fun hG => by first | omega | (have h9 := of_decide_eq_true hG; omega) | (simp at hG; omega)))) ?_
    refine wq_v rfl (val_loadB (.head _) (lk rfl) ag_27) ?_
    refine wq_v rfl (val_move (lk rfl)) ?_
    refine wq_v rfl (val_move (lk rfl)) ?_
    refine wq_v rfl (val_index es_44 (lk rfl) (lk rfl) (fun hG => hsr.hd encB_len (by decide) (i := k) (by first | omega | (have h9 := of_decide_eq_true hG; omega) | (simp at hG; omega))) (fun hG => by first | omega | (have h9 := of_decide_eq_true hG; omega) | (simp at hG; omega))) ?_
    refine wq_v rfl (val_loadN ag_36 (lk rfl) rfl (hsr.rec_ rfl encB_len d0B (fun hG => by first | omega | (have h9 := of_decide_eq_true hG; omega) | (simp at hG; omega)))) ?_
    refine wq_call gd_none rfl ci_19 (args2 (lk rfl) (lk rfl)) (fun hG w1 hw => sLim_c s _ _ (nth d0B rs k) w1) ?_
    refine wq_v rfl (val_neqK eqk_36 ist_36 egt_36 (lk rfl) (lk rfl) rfl rfl) ?_
    refine wq_nil ?_
    refine px_then ?_
    refine wc_cond (lk rfl) (fun hc1 => ?_) (fun hc1 => ?_)
    · refine wc_seq ?_
      refine wc_region ?_
      refine wl_v rfl (val_assign lkc) ?_
      refine wl_nil ?_
      refine px_then ?_
      refine wc_ret ?_
      refine px_block_ret ?_
      refine px_then_ret ?_
      refine px_then_ret ?_
      refine px_block_ret ?_
      refine px_then_ret ?_
      refine fin1 rfl (res_tmp rfl) (fun w1 hw => ?_)
      exact ⟨by rw [allAt_no hlt (show fitAt s rs k = false by simpa [fitAt, bne] using hc1)], hw.drop rfl⟩
    refine wc_skip ?_
    refine px_block ?_
    refine px_then ?_
    refine wc_region ?_
    refine wl_v rfl (val_move (lk rfl)) ?_
    refine wl_v rfl (val_inc (lk rfl) (by omega)) ?_
    refine wl_v rfl (val_assign (lk rfl)) ?_
    refine wl_nil ?_
    refine px_round0 (k + 1) (⟨by omega, fun i hi => by
        rcases Nat.lt_succ_iff_lt_or_eq.1 hi with h | rfl
        · exact ht i h
        · simpa [fitAt, bne] using hc1⟩) (by omega) (⟨rfl, rfl, rfl, rfl, rfl, trivial⟩) (fun _ h => h.dropN 0 rfl)
  have hge : k = rs.length := by have := of_decide_eq_false hc0; omega
  subst hge
  refine wc_exit ?_
  refine px_then_exit ?_
  refine px_then_exit ?_
  refine px_block_exit ?_
  refine px_then ?_
  refine wc_seq ?_
  refine wc_region ?_
  refine wl_v rfl (val_assign lkc) ?_
  refine wl_nil ?_
  refine px_then ?_
  refine wc_ret ?_
  refine fin1 rfl (res_tmp rfl) (fun w1 hw => ?_)
  exact ⟨by rw [allAt_yes ht], hw.drop rfl⟩

theorem Within_c (s : Sub) (rs : List Bear) (A A2 : Option Addr) (b o c b2 o2 c2 : Nat) (w : World) (hsr : Sl w A2 b2 o2 (flat encB rs)) (hlr : rs.length ≤ 2097152) :
    Calls Try.prog 26 #[s.val A c, .slice A2 rs.length c2] w fun e w' => e = .returned (.bool (allAt (fitAt s rs) rs.length)) ∧ HP w [] w' := by
  refine calls_entry [] _ Try.func26 rfl Try.ntmps26 (HP.refl w) (env2 rfl) ?_
  refine wc_seq ?_
  refine wc_region ?_
  refine wl_box (lk rfl) rfl fun b1 => ?_
  refine wl_v rfl (val_assign lkc) ?_
  refine wl_nil ?_
  refine px_then ?_
  refine wc_seq ?_
  refine wc_seq ?_
  refine wc_region ?_
  refine wl_v rfl (val_move (lk rfl)) ?_
  refine wl_v rfl (val_len es_44 (lk rfl)) ?_
  refine wl_v rfl (val_move lkc) ?_
  refine wl_nil ?_
  refine px_then ?_
  refine wc_block ?_
  refine wc_trim (l' := [(2, _), (4, _), (7, _), (8, _), (9, _)]) ⟨rfl, rfl, rfl, rfl, rfl, trivial⟩ ?_
  refine wc_loop0 (X := Nat) (fun k => k ≤ rs.length ∧ ∀ i, i < k → fitAt s rs i = true) (fun k => [(9, (true, .int .i64 (k : Nat)))]) (fun k => rs.length - k) 0 (⟨Nat.zero_le _, fun i h => absurd h (Nat.not_lt_zero i)⟩) ⟨rfl, rfl, rfl, rfl, rfl, rfl, trivial⟩ ?_
  rintro k ⟨hk, ht⟩
  refine wc_seq ?_
  refine wc_region ?_
  refine wl_v rfl (val_lss (lk rfl) (lk rfl)) ?_
  refine wl_nil ?_
  refine px_then ?_
  refine wc_seq ?_
  refine wc_cond (lk rfl) (fun hc0 => ?_) (fun hc0 => ?_)
  · have hlt : k < rs.length := by have := of_decide_eq_true hc0; omega
    refine wc_skip ?_
    refine px_then ?_
    refine wc_seq ?_
    refine wc_block ?_
    refine wc_seq ?_
    refine wc_region ?_
    refine wl_v rfl (val_index es_44 (lk rfl) (lk rfl) (fun hG => hsr.hd encB_len (by decide) (i := k) (by first | omega | (have h9 := of_decide_eq_true hG; omega) | (simp at hG; omega))) (fun hG => by first | omega | (have h9 := of_decide_eq_true hG; omega) | (simp at hG; omega))) ?_
    refine wl_v rfl (val_loadN ag_36 (lk rfl) rfl (hsr.rec_ rfl encB_len d0B (fun hG => by first | omega | (have h9 := of_decide_eq_true hG; omega) | (simp at hG; omega)))) ?_
    refine wl_alloc zc_36 rfl fun b2 => ?_
    refine wl_storeB 0 rfl (lk rfl) (lk rfl) ag_36 rfl rfl ?_
    refine wl_nil ?_
    refine px_then ?_
    refine wc_seq ?_
    refine wc_region_q mo_ (by kernel_rfl) ?_
    refine wq_v rfl (val_loadB (.tail _ (.head _)) (lk rfl) ag_27) ?_
    refine wq_v rfl (val_loadB (.head _) (lk rfl) ag_36) ?_
    refine wq_call gd_none rfl ci_21 (args2 (lk rfl) (lk rfl)) (fun hG w1 hw => Lim_c s _ _ (nth d0B rs k) w1) ?_
    refine wq_v rfl (val_loadB (.head _) (lk rfl) ag_36) ?_
    refine wq_v rfl (val_neqK eqk_36 ist_36 egt_36 (lk rfl) (lk rfl) rfl rfl) ?_
    refine wq_nil ?_
    refine px_then ?_
    refine wc_cond (lk rfl) (fun hc1 => ?_) (fun hc1 => ?_)
    · refine wc_seq ?_
      refine wc_region ?_
      refine wl_v rfl (val_assign lkc) ?_
      refine wl_nil ?_
      refine px_then ?_
      refine wc_ret ?_
      refine px_block_ret ?_
      refine px_then_ret ?_
      refine px_then_ret ?_
      refine px_block_ret ?_
      refine px_then_ret ?_
      refine fin1 rfl (res_tmp rfl) (fun w1 hw => ?_)
      exact ⟨by rw [allAt_no hlt (show fitAt s rs k = false by have h9 := hc1; simp only [bne, Bool.not_eq_true', beq_eq_false_iff_ne] at h9; simp [fitAt, Ne.symm h9])], hw.drop rfl⟩
    refine wc_skip ?_
    refine px_block ?_
    refine px_then ?_
    refine wc_region ?_
    refine wl_v rfl (val_inc (lk rfl) (by omega)) ?_
    refine wl_v rfl (val_move (lk rfl)) ?_
    refine wl_nil ?_
    refine px_round0 (k + 1) (⟨by omega, fun i hi => by
        rcases Nat.lt_succ_iff_lt_or_eq.1 hi with h | rfl
        · exact ht i h
        · have h9 := hc1; simp only [bne, Bool.not_eq_false', beq_iff_eq] at h9; simp [fitAt, h9]⟩) (by omega) (⟨rfl, rfl, rfl, rfl, rfl, rfl, trivial⟩) (fun _ h => h.dropN 1 rfl)
  have hge : k = rs.length := by have := of_decide_eq_false hc0; omega
  subst hge
  refine wc_exit ?_
  refine px_then_exit ?_
  refine px_then_exit ?_
  refine px_block_exit ?_
  refine px_then ?_
  refine wc_seq ?_
  refine wc_region ?_
  refine wl_v rfl (val_assign lkc) ?_
  refine wl_nil ?_
  refine px_then ?_
  refine wc_ret ?_
  refine fin1 rfl (res_tmp rfl) (fun w1 hw => ?_)
  exact ⟨by rw [allAt_yes ht], hw.drop rfl⟩

theorem sLims_c (s : Sub) (rs : List Bear) (A A2 : Option Addr) (b o c b2 o2 c2 : Nat) (w : World) (hsr : Sl w A2 b2 o2 (flat encB rs)) (hlr : rs.length ≤ 2097152) :
    Calls Try.prog 28 #[s.val A c, .slice A2 rs.length c2] w fun e w' => ∃ x : Nat × Nat × List Value, ((flat encB (limS s rs rs.length) ++ x.2.2).length = x.2.1 * 3 ∧ x.2.1 ≤ 9223372036854775807) ∧ e = .returned (.slice (some ⟨x.1, 0, none⟩) (limS s rs rs.length).length x.2.1) ∧ HP w [⟨x.1, true, 36, flat encB (limS s rs rs.length) ++ x.2.2⟩] w' := by
  refine calls_entry [] _ Try.func28 rfl Try.ntmps28 (HP.refl w) (env2 rfl) ?_
  refine wc_seq ?_
  refine wc_region ?_
  refine wl_box (lk rfl) rfl fun b1 => ?_
  refine wl_v rfl (val_assign lkc) ?_
  refine wl_nil ?_
  refine px_then ?_
  refine wc_seq ?_
  refine wc_region ?_
  refine wl_bslice parts0 bsl_44_0_ rfl fun b2 => ?_
  refine wl_v rfl (val_assign (lk rfl)) ?_
  refine wl_nil ?_
  refine px_then ?_
  refine wc_seq ?_
  refine wc_seq ?_
  refine wc_region ?_
  refine wl_v rfl (val_assign lkc) ?_
  refine wl_nil ?_
  refine px_then ?_
  refine wc_block ?_
  refine wc_trim (l' := [(1, _), (2, _), (4, _), (5, _), (6, _)]) ⟨rfl, rfl, rfl, rfl, rfl, trivial⟩ ?_
  refine wc_loopl (X := Nat × Nat × Nat × List Value) (fun x => x.1 ≤ rs.length ∧ (flat encB (limS s rs x.1) ++ x.2.2.2).length = x.2.2.1 * 3 ∧ x.2.2.1 ≤ 9223372036854775807) (fun x => [(5, (true, .slice (some ⟨x.2.1, 0, none⟩) (limS s rs x.1).length x.2.2.1)), (6, (true, .int .i64 (x.1 : Nat)))]) (fun x => [⟨x.2.1, true, 36, flat encB (limS s rs x.1) ++ x.2.2.2⟩, ⟨b1, true, 27, (s.val A c).cells.toList⟩]) (fun x => rs.length - x.1) (0, b2, 0, []) (⟨Nat.zero_le _, rfl, Nat.zero_le _⟩) ⟨rfl, rfl, rfl, rfl, rfl, rfl, rfl, trivial⟩ (fun _ h => h) ?_
  rintro ⟨k, gb, gc, gs⟩ ⟨hk, hgl, hgc⟩
  refine wc_seq ?_
  refine wc_seq ?_
  refine wc_region ?_
  refine wl_v rfl (val_move (lk rfl)) ?_
  refine wl_v rfl (val_move (lk rfl)) ?_
  refine wl_v rfl (val_len es_44 (lk rfl)) ?_
  refine wl_v rfl (val_lss (lk rfl) (lk rfl)) ?_
  refine wl_nil ?_
  refine px_then ?_
  refine wc_cond (lk rfl) (fun hc0 => ?_) (fun hc0 => ?_)
  · have hlt : k < rs.length := by have := of_decide_eq_true hc0; omega
    have hln : (limS s rs k).length = k := limS_len s rs hk
    refine wc_skip ?_
    refine px_then ?_
    refine wc_seq ?_
    refine wc_block ?_
    refine wc_region_am [false, true] 10 mo_ rfl ?_
    refine wa_take 0 rfl (by kernel_rfl) (by kernel_rfl) (by kernel_rfl) (by kernel_rfl) (fun _ h => h.mask [false, true] rfl) gd_none rfl (val_move (lk rfl)) ?_
    refine wa_take 1 rfl (by kernel_rfl) (by kernel_rfl) (by kernel_rfl) (by kernel_rfl) (fun _ h => h.mask [false, true] rfl) gd_none rfl (val_loadB (.head _) (lk rfl) ag_27) ?_
    refine wa_take 2 rfl (by kernel_rfl) (by kernel_rfl) (by kernel_rfl) (by kernel_rfl) (fun _ h => h.mask [false, true] rfl) gd_none rfl (val_move (lk rfl)) ?_
    refine wa_take 3 rfl (by kernel_rfl) (by kernel_rfl) (by kernel_rfl) (by kernel_rfl) (fun _ h => h.mask [false, true] rfl) gd_none rfl (val_move (lk rfl)) ?_
    refine wa_take 4 rfl (by kernel_rfl) (by kernel_rfl) (by kernel_rfl) (by kernel_rfl) (fun _ h => h.mask [false, true] rfl) gd_none rfl (val_index es_44 (lk rfl) (lk rfl) (fun hG => hsr.hd encB_len (by decide) (i := k) (by first | omega | (have h9 := of_decide_eq_true hG; omega) | (simp at hG; omega))) (fun hG => by first | omega | (have h9 := of_decide_eq_true hG; omega) | (simp at hG; omega))) ?_
    refine wa_take 5 rfl (by kernel_rfl) (by kernel_rfl) (by kernel_rfl) (by kernel_rfl) (fun _ h => h.mask [false, true] rfl) gd_none rfl (val_loadN ag_36 (lk rfl) rfl (hsr.rec_ rfl encB_len d0B (fun hG => by first | omega | (have h9 := of_decide_eq_true hG; omega) | (simp at hG; omega)))) ?_
    refine wa_only 6 (by kernel_rfl) rfl ?_
    refine wl_call gd_none rfl ci_19 (args2 (lk rfl) (lk rfl)) (fun hG w1 hw => sLim_c s _ _ (nth d0B rs k) w1) ?_
    refine wl_nil (px_qn (fun _ h => h.mask [false, true] rfl) ?_)
    refine wa_only 7 (by kernel_rfl) rfl ?_
    refine wl_bslice (partsC (lk rfl) parts0) (bsl_44_1_0 _ _ _) rfl fun b3 => ?_
    refine wl_nil (px_qn (fun _ h => h.mask [false, false, true] rfl) ?_)
    refine wa_only 8 (by kernel_rfl) rfl ?_
    refine wl_appendR encB_len (by decide) (limS s rs k) [limB s (nth d0B rs k)] 1 es_44 zc_36 rfl eb_36 (lk rfl) rfl hgl hgc (lk rfl) (fun _ hw => Sl.own' (vs := flat encB [limB s (nth d0B rs k)]) hw (.head _)) (by first | omega | (simp only [List.length_nil]; omega) | (simp only [List.length_cons, List.length_nil]; omega)) (by first | omega | (simp only [List.length_nil]; omega) | (simp only [List.length_cons, List.length_nil]; omega)) rfl fun a22 ac22 as22 hal22 ham22 => ?_
    refine wl_nil (px_qn (fun _ h => h.mask [false, false, true] rfl) ?_)
    refine wa_take 9 rfl (by kernel_rfl) (by kernel_rfl) (by kernel_rfl) (by kernel_rfl) (fun _ h => h.mask [false, false, true] rfl) gd_none rfl (val_assign (lk rfl)) ?_
    refine wa_done (by kernel_rfl) ?_
    refine px_block ?_
    refine px_then ?_
    refine wc_region ?_
    refine wl_v rfl (val_move (lk rfl)) ?_
    refine wl_v rfl (val_inc (lk rfl) (by omega)) ?_
    refine wl_v rfl (val_assign (lk rfl)) ?_
    refine wl_nil ?_
    have hst := limS_step s rs hlt
    refine px_round ((k + 1, a22, ac22, as22)) (⟨by omega, by show (flat encB (limS s rs (k + 1)) ++ _).length = _; rw [hst]; exact hal22, ham22⟩) (by show rs.length - (k + 1) < rs.length - k; omega) (⟨slotS (congrArg List.length hst.symm), rfl, rfl, rfl, rfl, slotS (congrArg List.length hst.symm), rfl, trivial⟩) (fun w1 h => by
      have h2 := h.mask [true, false, true] rfl
      show HP w [⟨_, true, 36, flat encB (limS s rs (k + 1)) ++ _⟩, _] w1
      rw [hst]
      exact h2)
  have hge : k = rs.length := by have := of_decide_eq_false hc0; omega
  subst hge
  refine wc_exit ?_
  refine px_then_exit ?_
  refine px_then_exit ?_
  refine px_block_exit ?_
  refine px_then ?_
  refine wc_seq ?_
  refine wc_region ?_
  refine wl_v rfl (val_move (lk rfl)) ?_
  refine wl_v rfl (val_assign (lk rfl)) ?_
  refine wl_nil ?_
  refine px_then ?_
  refine wc_ret ?_
  refine fin1 rfl (res_tmp rfl) (fun w1 hw => ?_)
  exact ⟨(gb, gc, gs), ⟨hgl, hgc⟩, rfl, hw.mask [true, false] rfl⟩

theorem Lims_c (s : Sub) (rs : List Bear) (A A2 : Option Addr) (b o c b2 o2 c2 : Nat) (w : World) (hsr : Sl w A2 b2 o2 (flat encB rs)) (hlr : rs.length ≤ 2097152) :
    Calls Try.prog 29 #[s.val A c, .slice A2 rs.length c2] w fun e w' => ∃ x : Nat × Nat × List Value, ((flat encB (limS s rs rs.length) ++ x.2.2).length = x.2.1 * 3 ∧ x.2.1 ≤ 9223372036854775807) ∧ e = .returned (.slice (some ⟨x.1, 0, none⟩) (limS s rs rs.length).length x.2.1) ∧ HP w [⟨x.1, true, 36, flat encB (limS s rs rs.length) ++ x.2.2⟩] w' := by
  refine calls_entry [] _ Try.func29 rfl Try.ntmps29 (HP.refl w) (env2 rfl) ?_
  refine wc_seq ?_
  refine wc_region ?_
  refine wl_box (lk rfl) rfl fun b1 => ?_
  refine wl_v rfl (val_assign lkc) ?_
  refine wl_nil ?_
  refine px_then ?_
  refine wc_seq ?_
  refine wc_region ?_
  refine wl_v rfl (val_move (lk rfl)) ?_
  refine wl_v rfl (val_len es_44 (lk rfl)) ?_
  refine wl_make es_44 zc_36 eb_36 (by omega) (by omega) (lk rfl) (lk rfl) rfl fun b2 csb2 hcsb2 => ?_
  refine wl_v rfl (val_assign (lk rfl)) ?_
  refine wl_nil ?_
  refine px_then ?_
  refine wc_seq ?_
  refine wc_seq ?_
  refine wc_region ?_
  refine wl_v rfl (val_move (lk rfl)) ?_
  refine wl_v rfl (val_len es_44 (lk rfl)) ?_
  refine wl_v rfl (val_move lkc) ?_
  refine wl_nil ?_
  refine px_then ?_
  refine wc_block ?_
  refine wc_trim (l' := [(2, _), (4, _), (5, _), (11, _), (12, _), (13, _)]) ⟨rfl, rfl, rfl, rfl, rfl, rfl, trivial⟩ ?_
  refine wc_loopl (X := Nat) (fun k => k ≤ rs.length) (fun k => [(13, (true, .int .i64 (k : Nat)))]) (fun k => [⟨b2, true, 36, flat encB (limS s rs k) ++ csb2.drop (k * 3)⟩, ⟨b1, true, 27, (s.val A c).cells.toList⟩]) (fun k => rs.length - k) 0 (Nat.zero_le _) ⟨rfl, rfl, rfl, rfl, rfl, rfl, rfl, trivial⟩ (fun _ h => by simpa [flat, limS] using h) ?_
  intro k hk
  refine wc_seq ?_
  refine wc_region ?_
  refine wl_v rfl (val_lss (lk rfl) (lk rfl)) ?_
  refine wl_nil ?_
  refine px_then ?_
  refine wc_seq ?_
  refine wc_cond (lk rfl) (fun hc0 => ?_) (fun hc0 => ?_)
  · have hlt : k < rs.length := by have := of_decide_eq_true hc0; omega
    refine wc_skip ?_
    refine px_then ?_
    refine wc_seq ?_
    refine wc_block ?_
    refine wc_seq ?_
    refine wc_region ?_
    refine wl_v rfl (val_move (lk rfl)) ?_
    refine wl_v rfl (val_index es_44 (lk rfl) (lk rfl) (fun hG => hsr.hd encB_len (by decide) (i := k) (by first | omega | (have h9 := of_decide_eq_true hG; omega) | (simp at hG; omega))) (fun hG => by first | omega | (have h9 := of_decide_eq_true hG; omega) | (simp at hG; omega))) ?_
    refine wl_v rfl (val_loadN ag_36 (lk rfl) rfl (hsr.rec_ rfl encB_len d0B (fun hG => by first | omega | (have h9 := of_decide_eq_true hG; omega) | (simp at hG; omega)))) ?_
    refine wl_alloc zc_36 rfl fun b3 => ?_
    refine wl_v rfl (val_assign (lk rfl)) ?_
    refine wl_storeB 0 rfl (lk rfl) (lk rfl) ag_36 rfl rfl ?_
    refine wl_nil ?_
    refine px_then ?_
    refine wc_region ?_
    refine wl_v rfl (val_move (lk rfl)) ?_
    refine wl_v rfl (val_move (lk rfl)) ?_
    refine wl_v rfl (val_loadB (.tail _ (.tail _ (.head _))) (lk rfl) ag_27) ?_
    refine wl_v rfl (val_loadB (.head _) (lk rfl) ag_36) ?_
    refine wl_call gd_none rfl ci_21 (args2 (lk rfl) (lk rfl)) (fun hG w1 hw => Lim_c s _ _ (nth d0B rs k) w1) ?_
    refine wl_v rfl (val_index es_44 (lk rfl) (lk rfl) (fun hG => rfl) (fun hG => hlt)) ?_
    refine wl_storeN 1 ag_36 (lk rfl) (lk rfl) rfl rfl rfl (by have := fill_lenB s rs csb2 k (by omega) hcsb2; omega) ?_
    refine wl_nil ?_
    refine px_block ?_
    refine px_then ?_
    refine wc_region ?_
    refine wl_v rfl (val_inc (lk rfl) (by omega)) ?_
    refine wl_v rfl (val_move (lk rfl)) ?_
    refine wl_nil ?_
    have hfs := fill_stepB s rs csb2 k hlt
    refine px_round (k + 1) (by omega) (by omega) (⟨rfl, rfl, rfl, rfl, rfl, rfl, rfl, trivial⟩) (fun w1 h => by
      have h' := h.mask [false, true, true] rfl
      simp only [Nat.zero_add] at h'
      have h2 : HP w [⟨b2, true, 36, (flat encB (limS s rs k) ++ csb2.drop (k * 3)).take (k * 3) ++ recV encB (limB s (nth d0B rs k)) ++ (flat encB (limS s rs k) ++ csb2.drop (k * 3)).drop (k * 3 + 3)⟩, ⟨b1, true, 27, (s.val A c).cells.toList⟩] w1 := h'
      rw [hfs] at h2
      exact h2)
  have hge : k = rs.length := by have := of_decide_eq_false hc0; omega
  subst hge
  refine wc_exit ?_
  refine px_then_exit ?_
  refine px_then_exit ?_
  refine px_block_exit ?_
  refine px_then ?_
  refine wc_seq ?_
  refine wc_region ?_
  refine wl_v rfl (val_move (lk rfl)) ?_
  refine wl_v rfl (val_assign (lk rfl)) ?_
  refine wl_nil ?_
  refine px_then ?_
  refine wc_ret ?_
  refine fin1 rfl (res_tmp rfl) (fun w1 hw => ?_)
  exact ⟨(b2, rs.length, []), ⟨by rw [List.append_nil, flat_len encB_len, limS_len s rs (Nat.le_refl _)], by show rs.length ≤ _; omega⟩, by rw [limS_len s rs (Nat.le_refl _)], by
    have h' : HP w [⟨b2, true, 36, flat encB (limS s rs rs.length) ++ csb2.drop (rs.length * 3)⟩] w1 := hw.mask [true, false] rfl
    rw [List.drop_of_length_le (Nat.le_of_eq hcsb2)] at h'
    exact h'⟩

end Go.Proofs.Ytlpiogbbplfliaa
