/- Subscriptions: what the functions of the program and of the reference compute, walked. -/
import Derived.Test.YtlejciainnlfeaaDoorSxM
namespace Go.Proofs.YtlejciainnlfeaaDoor
open Go.RowKit


structure Sub where
  rate : Int
  best : Int
  grant : Int
  nets : List Int
def Sub.val (s : Sub) (A : Option Addr) (c : Nat) : Value := .agg #[.int .i64 s.rate, .int .i64 s.best, .int .i64 s.grant, .slice A s.nets.length c]
def Sub.eqb (s t : Sub) : Bool := (s.rate == t.rate) && (s.best == t.best) && (s.grant == t.grant) && eqRows eqI s.nets t.nets
theorem Sub.eqb_refl (s : Sub) : s.eqb s = true := by simp [Sub.eqb, eqRows_refl eqI_refl]
def inAt (xs : List Int) (k : Nat) : Bool := inRange (nth d0I xs k) 0 3
def ascAt (xs : List Int) (k : Nat) : Bool := !(decide ((0 : Int) < (k : Nat)) && decide (nth d0I xs k ≤ nth d0I xs (k - 1)))
def allAt (p : Nat → Bool) (n : Nat) : Bool := (List.range n).all p
theorem slotS {A : Option Addr} {m n c : Nat} (h : m = n) : some (true, Value.slice A m c) = some (true, Value.slice A n c) := by rw [h]
theorem allAt_no {p : Nat → Bool} {n k : Nat} (h : k < n) (hp : p k = false) : allAt p n = false := by
  rw [allAt, List.all_eq_false]
  exact ⟨k, by simpa using h, by simp [hp]⟩
theorem allAt_yes {p : Nat → Bool} {n : Nat} (h : ∀ i, i < n → p i = true) : allAt p n = true := List.all_eq_true.2 fun i hi => h i (by simpa using hi)
def Sub.hd (s : Sub) : Bool := inRange s.rate 1 1000 && inRange s.best 1 4 && inRange s.grant 1 100000
def Sub.ok (s : Sub) : Bool := s.hd && allAt (inAt s.nets) s.nets.length && allAt (ascAt s.nets) s.nets.length
def hasI (xs : List Int) (n : Int) : Bool := decide (0 ≤ findI (fun x => x == n) 0 xs)
def Sub.may (s : Sub) (home net : Int) : Bool := (net == home) || hasI s.nets net
def limB (s : Sub) (r : Bear) : Bear := ⟨r.id, imax r.cls s.best, imin r.rate s.rate⟩
def limS (s : Sub) (rs : List Bear) (k : Nat) : List Bear := (rs.take k).map (limB s)
theorem limS_len (s : Sub) (rs : List Bear) {k : Nat} (h : k ≤ rs.length) : (limS s rs k).length = k := by simp [limS]; omega
theorem limS_step (s : Sub) (rs : List Bear) {k : Nat} (h : k < rs.length) : limS s rs (k + 1) = limS s rs k ++ [limB s (nth d0B rs k)] := by rw [limS, take_nth (d := d0B) h, List.map_append]; rfl
theorem fill_stepB (s : Sub) (rs : List Bear) (cs0 : List Value) (m : Nat) (hm : m < rs.length) :
    (flat encB (limS s rs m) ++ cs0.drop (m * 3)).take (m * 3) ++ recV encB (limB s (nth d0B rs m)) ++ (flat encB (limS s rs m) ++ cs0.drop (m * 3)).drop (m * 3 + 3) = flat encB (limS s rs (m + 1)) ++ cs0.drop ((m + 1) * 3) := by
  have h := fill_step (enc := encB) encB_len d0B (rs.map (limB s)) cs0 m (by simpa using hm)
  have e1 : (rs.map (limB s)).take m = limS s rs m := by rw [limS, List.map_take]
  have e2 : (rs.map (limB s)).take (m + 1) = limS s rs (m + 1) := by rw [limS, List.map_take]
  have e3 : nth d0B (rs.map (limB s)) m = limB s (nth d0B rs m) := by rw [nth_eq (by simpa using hm), nth_eq hm]; simp
  rw [e1, e2, e3] at h
  exact h
theorem fill_lenB (s : Sub) (rs : List Bear) (cs0 : List Value) (m : Nat) (hm : m ≤ rs.length) (h0 : cs0.length = rs.length * 3) : (flat encB (limS s rs m) ++ cs0.drop (m * 3)).length = rs.length * 3 := by
  rw [List.length_append, flat_len encB_len, limS_len s rs hm, List.length_drop, h0]
  omega
def fitAt (s : Sub) (rs : List Bear) (k : Nat) : Bool := encB (nth d0B rs k) == encB (limB s (nth d0B rs k))

theorem eqSub_c (s t : Sub) (A B : Option Addr) (b o c b2 o2 c2 : Nat) (w : World) (hs : Sl w A b o (flat encI s.nets)) (hs2 : Sl w B b2 o2 (flat encI t.nets)) (hl : s.nets.length ≤ 2097152) :
    Calls Tryd.prog 8 #[s.val A c, t.val B c2] w fun e w' => e = .returned (.bool (s.eqb t)) ∧ HP w [] w' := by
  refine calls_entry [] _ Tryd.func8 rfl Tryd.ntmps8 (HP.refl w) (env2 rfl) ?_
  refine wc_seq ?_
  refine wc_region ?_
  refine wl_box (lk rfl) rfl fun b1 => ?_
  refine wl_box (lk rfl) rfl fun b2 => ?_
  refine wl_v rfl (val_assign lkc) ?_
  refine wl_nil ?_
  refine px_then ?_
  refine wc_seq ?_
  refine wc_seq ?_
  refine wc_region ?_
  refine wl_v rfl (val_field fo_27_0 (lk rfl)) ?_
  refine wl_v rfl (val_load1 t1_3 (lk rfl) (cell_own (.tail _ (.head _)) fun _ => rfl)) ?_
  refine wl_v rfl (val_field fo_27_0 (lk rfl)) ?_
  refine wl_v rfl (val_load1 t1_3 (lk rfl) (cell_own (.head _) fun _ => rfl)) ?_
  refine wl_v rfl (val_neq (lk rfl) (lk rfl)) ?_
  refine wl_nil ?_
  refine px_then ?_
  refine wc_cond (lk rfl) (fun hc0 => ?_) (fun hc0 => ?_)
  · refine wc_seq ?_
    refine wc_region ?_
    refine wl_v rfl (val_assign lkc) ?_
    refine wl_nil ?_
    refine px_then ?_
    refine wc_ret ?_
    refine px_then_ret ?_
    refine fin1 rfl (res_tmp rfl) (fun w1 hw => ?_)
    exact ⟨by simp_all [Sub.eqb], hw.drop rfl⟩
  refine wc_skip ?_
  refine px_then ?_
  refine wc_seq ?_
  refine wc_seq ?_
  refine wc_region ?_
  refine wl_v rfl (val_field fo_27_1 (lk rfl)) ?_
  refine wl_v rfl (val_load1 t1_3 (lk rfl) (cell_own (.tail _ (.head _)) fun _ => rfl)) ?_
  refine wl_v rfl (val_field fo_27_1 (lk rfl)) ?_
  refine wl_v rfl (val_load1 t1_3 (lk rfl) (cell_own (.head _) fun _ => rfl)) ?_
  refine wl_v rfl (val_neq (lk rfl) (lk rfl)) ?_
  refine wl_nil ?_
  refine px_then ?_
  refine wc_cond (lk rfl) (fun hc1 => ?_) (fun hc1 => ?_)
  · refine wc_seq ?_
    refine wc_region ?_
    refine wl_v rfl (val_assign lkc) ?_
    refine wl_nil ?_
    refine px_then ?_
    refine wc_ret ?_
    refine px_then_ret ?_
    refine fin1 rfl (res_tmp rfl) (fun w1 hw => ?_)
    exact ⟨by simp_all [Sub.eqb], hw.drop rfl⟩
  refine wc_skip ?_
  refine px_then ?_
  refine wc_seq ?_
  refine wc_seq ?_
  refine wc_region ?_
  refine wl_v rfl (val_field fo_27_2 (lk rfl)) ?_
  refine wl_v rfl (val_load1 t1_3 (lk rfl) (cell_own (.tail _ (.head _)) fun _ => rfl)) ?_
  refine wl_v rfl (val_field fo_27_2 (lk rfl)) ?_
  refine wl_v rfl (val_load1 t1_3 (lk rfl) (cell_own (.head _) fun _ => rfl)) ?_
  refine wl_v rfl (val_neq (lk rfl) (lk rfl)) ?_
  refine wl_nil ?_
  refine px_then ?_
  refine wc_cond (lk rfl) (fun hc2 => ?_) (fun hc2 => ?_)
  · refine wc_seq ?_
    refine wc_region ?_
    refine wl_v rfl (val_assign lkc) ?_
    refine wl_nil ?_
    refine px_then ?_
    refine wc_ret ?_
    refine px_then_ret ?_
    refine fin1 rfl (res_tmp rfl) (fun w1 hw => ?_)
    exact ⟨by simp_all [Sub.eqb], hw.drop rfl⟩
  refine wc_skip ?_
  refine px_then ?_
  refine wc_seq ?_
  refine wc_seq ?_
  refine wc_region ?_
  refine wl_v rfl (val_field fo_27_3 (lk rfl)) ?_
  refine wl_v rfl (val_load1 t1_22 (lk rfl) (cell_own (.tail _ (.head _)) fun _ => rfl)) ?_
  refine wl_v rfl (val_field fo_27_3 (lk rfl)) ?_
  refine wl_v rfl (val_load1 t1_22 (lk rfl) (cell_own (.head _) fun _ => rfl)) ?_
  refine wl_call gd_none rfl ci_14 (args2 (lk rfl) (lk rfl)) (fun hG w1 hw => eqIntS_c _ _ _ _ _ _ _ _ _ _ w1 (hs.hp hw rfl) (hs2.hp hw rfl) (by omega)) ?_
  refine wl_v rfl (val_not (lk rfl)) ?_
  refine wl_nil ?_
  refine px_then ?_
  refine wc_cond (lk rfl) (fun hc3 => ?_) (fun hc3 => ?_)
  · refine wc_seq ?_
    refine wc_region ?_
    refine wl_v rfl (val_assign lkc) ?_
    refine wl_nil ?_
    refine px_then ?_
    refine wc_ret ?_
    refine px_then_ret ?_
    refine fin1 rfl (res_tmp rfl) (fun w1 hw => ?_)
    exact ⟨by simp_all [Sub.eqb], hw.drop rfl⟩
  refine wc_skip ?_
  refine px_then ?_
  refine wc_seq ?_
  refine wc_region ?_
  refine wl_v rfl (val_assign lkc) ?_
  refine wl_nil ?_
  refine px_then ?_
  refine wc_ret ?_
  refine fin1 rfl (res_tmp rfl) (fun w1 hw => ?_)
  exact ⟨by simp_all [Sub.eqb], hw.drop rfl⟩

theorem szSub_c (s : Sub) (A : Option Addr) (c : Nat) (m : Int) (w : World) (h0 : 0 ≤ m ∧ m ≤ 1048576) (hn : s.nets.length ≤ 9223372036854775807) :
    Calls Tryd.prog 4 #[s.val A c, .int .i64 m] w fun e w' => e = .returned (.int .i64 (szN m s.nets.length)) ∧ HP w [] w' := by
  refine calls_entry [] _ Tryd.func4 rfl Tryd.ntmps4 (HP.refl w) (env2 rfl) ?_
  refine wc_seq ?_
  refine wc_region ?_
  refine wl_box (lk rfl) rfl fun b1 => ?_
  refine wl_v rfl (val_assign lkc) ?_
  refine wl_nil ?_
  refine px_then ?_
  refine wc_seq ?_
  refine wc_region ?_
  refine wl_v rfl (val_field fo_24_3 (lk rfl)) ?_
  refine wl_v rfl (val_load1 t1_22 (lk rfl) (cell_own (.head _) fun _ => rfl)) ?_
  refine wl_v rfl (val_move (lk rfl)) ?_
  refine wl_call gd_none rfl ci_9 (args2 (lk rfl) (lk rfl)) (fun hG w1 hw => szIntS_c _ _ _ _ w1 (by omega) (by omega)) ?_
  refine wl_v rfl (val_assign (lk rfl)) ?_
  refine wl_nil ?_
  refine px_then ?_
  refine wc_seq ?_
  refine wc_seq ?_
  refine wc_region ?_
  refine wl_v rfl (val_move (lk rfl)) ?_
  refine wl_v rfl (val_lss (lk rfl) lkc) ?_
  refine wl_nil ?_
  refine px_then ?_
  refine wc_cond (lk rfl) (fun hc0 => ?_) (fun hc0 => ?_)
  · refine wc_seq ?_
    refine wc_region ?_
    refine wl_v rfl (val_assign lkc) ?_
    refine wl_nil ?_
    refine px_then ?_
    refine wc_ret ?_
    refine px_then_ret ?_
    refine fin1 rfl (res_tmp rfl) (fun w1 hw => ?_)
    exact ⟨by rw [szN] at hc0 ⊢; split at hc0 <;> simp_all, hw.drop rfl⟩
  refine wc_skip ?_
  refine px_then ?_
  refine wc_seq ?_
  refine wc_region ?_
  refine wl_v rfl (val_move (lk rfl)) ?_
  refine wl_v rfl (val_assign (lk rfl)) ?_
  refine wl_nil ?_
  refine px_then ?_
  refine wc_ret ?_
  refine fin1 rfl (res_tmp rfl) (fun w1 hw => ?_)
  exact ⟨rfl, hw.drop rfl⟩

theorem toSub_c (s : Sub) (A : Option Addr) (b o c : Nat) (w : World) (hs : Sl w A b o (flat encI s.nets)) (hl : s.nets.length ≤ 2097152) :
    Calls Tryd.prog 6 #[s.val A c] w fun e w' => ∃ x : Nat × Nat × List Value, ((flat encI s.nets ++ x.2.2).length = x.2.1 * 1 ∧ x.2.1 ≤ 9223372036854775807) ∧ e = .returned (s.val (some ⟨x.1, 0, none⟩) x.2.1) ∧ HP w [⟨x.1, true, 3, flat encI s.nets ++ x.2.2⟩] w' := by
  refine calls_entry [] _ Tryd.func6 rfl Tryd.ntmps6 (HP.refl w) (env1 rfl) ?_
  refine wc_seq ?_
  refine wc_region ?_
  refine wl_box (lk rfl) rfl fun b1 => ?_
  refine wl_alloc zc_27 rfl fun b2 => ?_
  refine wl_nil ?_
  refine px_then ?_
  refine wc_seq ?_
  refine wc_region ?_
  refine wl_alloc zc_27 rfl fun b3 => ?_
  refine wl_nil ?_
  refine px_then ?_
  refine wc_seq ?_
  refine wc_region ?_
  refine wl_v rfl (val_field fo_24_0 (lk rfl)) ?_
  refine wl_v rfl (val_load1 t1_3 (lk rfl) (cell_own (.tail _ (.tail _ (.head _))) fun _ => rfl)) ?_
  refine wl_v rfl (val_field fo_27_0 (lk rfl)) ?_
  refine wl_store1 0 rfl (lk rfl) (lk rfl) t1_3 rfl (rfl) ?_
  refine wl_nil ?_
  refine px_then ?_
  refine wc_seq ?_
  refine wc_region ?_
  refine wl_v rfl (val_field fo_24_1 (lk rfl)) ?_
  refine wl_v rfl (val_load1 t1_3 (lk rfl) (cell_own (.tail _ (.tail _ (.head _))) fun _ => rfl)) ?_
  refine wl_v rfl (val_field fo_27_1 (lk rfl)) ?_
  refine wl_store1 0 rfl (lk rfl) (lk rfl) t1_3 rfl (rfl) ?_
  refine wl_nil ?_
  refine px_then ?_
  refine wc_seq ?_
  refine wc_region ?_
  refine wl_v rfl (val_field fo_24_2 (lk rfl)) ?_
  refine wl_v rfl (val_load1 t1_3 (lk rfl) (cell_own (.tail _ (.tail _ (.head _))) fun _ => rfl)) ?_
  refine wl_v rfl (val_field fo_27_2 (lk rfl)) ?_
  refine wl_store1 0 rfl (lk rfl) (lk rfl) t1_3 rfl (rfl) ?_
  refine wl_nil ?_
  refine px_then ?_
  refine wc_seq ?_
  refine wc_region ?_
  refine wl_v rfl (val_field fo_24_3 (lk rfl)) ?_
  refine wl_v rfl (val_load1 t1_22 (lk rfl) (cell_own (.tail _ (.tail _ (.head _))) fun _ => rfl)) ?_
  refine wl_callx rfl ci_12 (args1 (lk rfl)) (fun w1 hw => toIntS_c _ _ _ _ _ w1 (hs.hp hw rfl) (by omega)) (fun _ => rfl) ?_
  rintro ⟨gb15, gc15, gs15⟩ ⟨hgl15, hgc15⟩
  refine wl_v rfl (val_field fo_27_3 (lk rfl)) ?_
  refine wl_store1 1 rfl (lk rfl) (lk rfl) t1_22 rfl (rfl) ?_
  refine wl_nil ?_
  refine px_then ?_
  refine wc_seq ?_
  refine wc_region ?_
  refine wl_v rfl (val_loadB (.tail _ (.head _)) (lk rfl) ag_27) ?_
  refine wl_storeB 2 rfl (lk rfl) (lk rfl) ag_27 rfl rfl ?_
  refine wl_nil ?_
  refine px_then ?_
  refine wc_ret ?_
  refine fin1 rfl (res_cell rfl (.tail _ (.tail _ (.head _))) ag_27) (fun w1 hw => ?_)
  exact ⟨(gb15, gc15, gs15), ⟨hgl15, hgc15⟩, rfl, hw.mask [true, false, false, false] rfl⟩

end Go.Proofs.YtlejciainnlfeaaDoor
