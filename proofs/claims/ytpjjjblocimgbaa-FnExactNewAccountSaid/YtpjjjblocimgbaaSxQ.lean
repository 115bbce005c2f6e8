/- The quota functions: what each computes, walked. -/
import Derived.Test.YtpjjjblocimgbaaSxF
namespace Go.Proofs.Ytpjjjblocimgbaa
open Go.RowKit


def inRange (n a b : Int) : Bool := decide (a ≤ n) && decide (n ≤ b)
def imin (a b : Int) : Int := if b < a then b else a
def imax (a b : Int) : Int := if a < b then b else a
structure Quota where
  sid : Int
  granted : Int
  used : Int
def Quota.val (q : Quota) : Value := .agg #[.int .i64 q.sid, .int .i64 q.granted, .int .i64 q.used]
def Quota.ok (q : Quota) : Bool := decide (0 ≤ q.sid) && inRange q.granted 0 100000 && inRange q.used 0 q.granted
def Quota.rem (q : Quota) : Int := if q.ok then IntKind.i64.wrap (q.granted - q.used) else 0
/-- may n be used? -/
def Quota.may (q : Quota) (n : Int) : Bool := q.ok && inRange n 0 (IntKind.i64.wrap (q.granted - q.used))
def Quota.use (q : Quota) (n : Int) : Quota := if q.may n then ⟨q.sid, q.granted, IntKind.i64.wrap (q.used + n)⟩ else q
def Quota.eqb (q r : Quota) : Bool := (q.sid == r.sid) && (q.granted == r.granted) && (q.used == r.used)
theorem Quota.eqb_refl (q : Quota) : q.eqb q = true := by simp [Quota.eqb]

theorem l1In_c (a b c : Int) (w : World) :
    Calls Try.prog 48 #[.int .i64 a, .int .i64 b, .int .i64 c] w fun e w' => e = .returned (.bool (inRange a b c)) ∧ HP w [] w' := by
  refine calls_entry [] _ Try.func48 rfl Try.ntmps48 (HP.refl w) (env3 rfl) ?_
  refine wc_seq ?_
  refine wc_region ?_
  refine wl_v rfl (val_assign lkc) ?_
  refine wl_nil ?_
  refine px_then ?_
  refine wc_seq ?_
  refine wc_region ?_
  refine wl_v rfl (val_move (lk rfl)) ?_
  refine wl_v rfl (val_move (lk rfl)) ?_
  refine wl_v rfl (val_geq (lk rfl) (lk rfl)) ?_
  refine wl_v rfl (val_move (lk rfl)) ?_
  refine wl_val (gd_t rfl rfl rfl) rfl (val_move (lk rfl)) ?_
  refine wl_val (gd_t rfl rfl rfl) rfl (val_move (lk rfl)) ?_
  refine wl_val (gd_t rfl rfl rfl) rfl (val_leq (lkg rfl) (lkg rfl)) ?_
  refine wl_v rfl (val_and (lk rfl) (lkg rfl)) ?_
  refine wl_v rfl (val_assign (lk rfl)) ?_
  refine wl_nil ?_
  refine px_then ?_
  refine wc_ret ?_
  refine fin1 rfl (res_tmp rfl) (fun w1 hw => ?_)
  exact ⟨rfl, hw.drop rfl⟩

theorem InRange_c (a b c : Int) (w : World) :
    Calls Try.prog 49 #[.int .i64 a, .int .i64 b, .int .i64 c] w fun e w' => e = .returned (.bool (inRange a b c)) ∧ HP w [] w' := by
  refine calls_entry [] _ Try.func49 rfl Try.ntmps49 (HP.refl w) (env3 rfl) ?_
  refine wc_seq ?_
  refine wc_region ?_
  refine wl_v rfl (val_assign lkc) ?_
  refine wl_nil ?_
  refine px_then ?_
  refine wc_seq ?_
  refine wc_region ?_
  refine wl_v rfl (val_move (lk rfl)) ?_
  refine wl_v rfl (val_move (lk rfl)) ?_
  refine wl_v rfl (val_leq (lk rfl) (lk rfl)) ?_
  refine wl_v rfl (val_move (lk rfl)) ?_
  refine wl_val (gd_t rfl rfl rfl) rfl (val_move (lk rfl)) ?_
  refine wl_val (gd_t rfl rfl rfl) rfl (val_move (lk rfl)) ?_
  refine wl_val (gd_t rfl rfl rfl) rfl (val_leq (lkg rfl) (lkg rfl)) ?_
  refine wl_v rfl (val_and (lk rfl) (lkg rfl)) ?_
  refine wl_v rfl (val_assign (lk rfl)) ?_
  refine wl_nil ?_
  refine px_then ?_
  refine wc_ret ?_
  refine fin1 rfl (res_tmp rfl) (fun w1 hw => ?_)
  exact ⟨rfl, hw.drop rfl⟩

theorem Min_c (a b : Int) (w : World) :
    Calls Try.prog 73 #[.int .i64 a, .int .i64 b] w fun e w' => e = .returned (.int .i64 (imin a b)) ∧ HP w [] w' := by
  refine calls_entry [] _ Try.func73 rfl Try.ntmps73 (HP.refl w) (env2 rfl) ?_
  refine wc_seq ?_
  refine wc_region ?_
  refine wl_v rfl (val_assign lkc) ?_
  refine wl_nil ?_
  refine px_then ?_
  refine wc_seq ?_
  refine wc_seq ?_
  refine wc_region ?_
  refine wl_v rfl (val_move (lk rfl)) ?_
  refine wl_v rfl (val_move (lk rfl)) ?_
  refine wl_v rfl (val_lss (lk rfl) (lk rfl)) ?_
  refine wl_nil ?_
  refine px_then ?_
  refine wc_cond (lk rfl) (fun hc0 => ?_) (fun hc0 => ?_)
  · refine wc_seq ?_
    refine wc_region ?_
    refine wl_v rfl (val_move (lk rfl)) ?_
    refine wl_v rfl (val_assign (lk rfl)) ?_
    refine wl_nil ?_
    refine px_then ?_
    refine wc_ret ?_
    refine px_then_ret ?_
    refine fin1 rfl (res_tmp rfl) (fun w1 hw => ?_)
    exact ⟨by rw [imin, if_pos (by simpa using hc0)], hw.drop rfl⟩
  refine wc_skip ?_
  refine px_then ?_
  refine wc_seq ?_
  refine wc_region ?_
  refine wl_v rfl (val_move (lk rfl)) ?_
  refine wl_v rfl (val_assign (lk rfl)) ?_
  refine wl_nil ?_
  refine px_then ?_
  refine wc_ret ?_
  refine fin1 rfl (res_tmp rfl) (fun w1 hw => ?_)
  exact ⟨by rw [imin, if_neg (by simpa using hc0)], hw.drop rfl⟩

theorem sMin_c (a b : Int) (w : World) :
    Calls Try.prog 78 #[.int .i64 a, .int .i64 b] w fun e w' => e = .returned (.int .i64 (imin a b)) ∧ HP w [] w' := by
  refine calls_entry [] _ Try.func78 rfl Try.ntmps78 (HP.refl w) (env2 rfl) ?_
  refine wc_seq ?_
  refine wc_region ?_
  refine wl_v rfl (val_assign lkc) ?_
  refine wl_nil ?_
  refine px_then ?_
  refine wc_seq ?_
  refine wc_seq ?_
  refine wc_region ?_
  refine wl_v rfl (val_move (lk rfl)) ?_
  refine wl_v rfl (val_move (lk rfl)) ?_
  refine wl_v rfl (val_lss (lk rfl) (lk rfl)) ?_
  refine wl_nil ?_
  refine px_then ?_
  refine wc_cond (lk rfl) (fun hc0 => ?_) (fun hc0 => ?_)
  · refine wc_seq ?_
    refine wc_region ?_
    refine wl_v rfl (val_move (lk rfl)) ?_
    refine wl_v rfl (val_assign (lk rfl)) ?_
    refine wl_nil ?_
    refine px_then ?_
    refine wc_ret ?_
    refine px_then_ret ?_
    refine fin1 rfl (res_tmp rfl) (fun w1 hw => ?_)
    exact ⟨by rw [imin, if_pos (by simpa using hc0)], hw.drop rfl⟩
  refine wc_skip ?_
  refine px_then ?_
  refine wc_seq ?_
  refine wc_region ?_
  refine wl_v rfl (val_move (lk rfl)) ?_
  refine wl_v rfl (val_assign (lk rfl)) ?_
  refine wl_nil ?_
  refine px_then ?_
  refine wc_ret ?_
  refine fin1 rfl (res_tmp rfl) (fun w1 hw => ?_)
  exact ⟨by rw [imin, if_neg (by simpa using hc0)], hw.drop rfl⟩

theorem toQuota_c (q : Quota) (w : World) :
    Calls Try.prog 16 #[q.val] w fun e w' => e = .returned q.val ∧ HP w [] w' := by
  refine calls_entry [] _ Try.func16 rfl Try.ntmps16 (HP.refl w) (env1 rfl) ?_
  refine wc_seq ?_
  refine wc_region ?_
  refine wl_box (lk rfl) rfl fun b1 => ?_
  refine wl_alloc zc_25 rfl fun b2 => ?_
  refine wl_nil ?_
  refine px_then ?_
  refine wc_seq ?_
  refine wc_region ?_
  refine wl_alloc zc_25 rfl fun b3 => ?_
  refine wl_nil ?_
  refine px_then ?_
  refine wc_seq ?_
  refine wc_region ?_
  refine wl_v rfl (val_field fo_23_0 (lk rfl)) ?_
  refine wl_v rfl (val_load1 t1_3 (lk rfl) (cell_own (.tail _ (.tail _ (.head _))) fun _ => rfl)) ?_
  refine wl_v rfl (val_field fo_25_0 (lk rfl)) ?_
  refine wl_store1 0 rfl (lk rfl) (lk rfl) t1_3 rfl (rfl) ?_
  refine wl_nil ?_
  refine px_then ?_
  refine wc_seq ?_
  refine wc_region ?_
  refine wl_v rfl (val_field fo_23_1 (lk rfl)) ?_
  refine wl_v rfl (val_load1 t1_3 (lk rfl) (cell_own (.tail _ (.tail _ (.head _))) fun _ => rfl)) ?_
  refine wl_v rfl (val_field fo_25_1 (lk rfl)) ?_
  refine wl_store1 0 rfl (lk rfl) (lk rfl) t1_3 rfl (rfl) ?_
  refine wl_nil ?_
  refine px_then ?_
  refine wc_seq ?_
  refine wc_region ?_
  refine wl_v rfl (val_field fo_23_2 (lk rfl)) ?_
  refine wl_v rfl (val_load1 t1_3 (lk rfl) (cell_own (.tail _ (.tail _ (.head _))) fun _ => rfl)) ?_
  refine wl_v rfl (val_field fo_25_2 (lk rfl)) ?_
  refine wl_store1 0 rfl (lk rfl) (lk rfl) t1_3 rfl (rfl) ?_
  refine wl_nil ?_
  refine px_then ?_
  refine wc_seq ?_
  refine wc_region ?_
  refine wl_v rfl (val_loadB (.head _) (lk rfl) ag_25) ?_
  refine wl_storeB 1 rfl (lk rfl) (lk rfl) ag_25 rfl rfl ?_
  refine wl_nil ?_
  refine px_then ?_
  refine wc_ret ?_
  refine fin1 rfl (res_cell rfl (.tail _ (.head _)) ag_25) (fun w1 hw => ?_)
  exact ⟨rfl, hw.drop rfl⟩

theorem sIsValidQuota_c (q : Quota) (w : World) :
    Calls Try.prog 15 #[q.val] w fun e w' => e = .returned (.bool q.ok) ∧ HP w [] w' := by
  refine calls_entry [] _ Try.func15 rfl Try.ntmps15 (HP.refl w) (env1 rfl) ?_
  refine wc_seq ?_
  refine wc_region ?_
  refine wl_box (lk rfl) rfl fun b1 => ?_
  refine wl_v rfl (val_assign lkc) ?_
  refine wl_nil ?_
  refine px_then ?_
  refine wc_seq ?_
  refine wc_region ?_
  refine wl_v rfl (val_field fo_25_0 (lk rfl)) ?_
  refine wl_v rfl (val_load1 t1_3 (lk rfl) (cell_own (.head _) fun _ => rfl)) ?_
  refine wl_v rfl (val_geq (lk rfl) lkc) ?_
  refine wl_v rfl (val_move (lk rfl)) ?_
  refine wl_val (gd_t rfl rfl rfl) rfl (val_field fo_25_1 (lk rfl)) ?_
  refine wl_val (gd_t rfl rfl rfl) rfl (val_load1 t1_3 (lkg rfl) (cell_own (.head _) fun _ => rfl)) ?_
  refine wl_call (gd_t rfl rfl rfl) rfl ci_48 (args3 (lkg rfl) lkc lkc) (fun hG w1 hw => l1In_c _ _ _ w1) ?_
  refine wl_v rfl (val_and (lk rfl) (lkg rfl)) ?_
  refine wl_v rfl (val_move (lk rfl)) ?_
  refine wl_val (gd_t rfl rfl rfl) rfl (val_field fo_25_2 (lk rfl)) ?_
  refine wl_val (gd_t rfl rfl rfl) rfl (val_load1 t1_3 (lkg rfl) (cell_own (.head _) fun _ => rfl)) ?_
  refine wl_val (gd_t rfl rfl rfl) rfl (val_field fo_25_1 (lk rfl)) ?_
  refine wl_val (gd_t rfl rfl rfl) rfl (val_load1 t1_3 (lkg rfl) (cell_own (.head _) fun _ => rfl)) ?_
  refine wl_call (gd_t rfl rfl rfl) rfl ci_48 (args3 (lkg rfl) lkc (lkg rfl)) (fun hG w1 hw => l1In_c _ _ _ w1) ?_
  refine wl_v rfl (val_and (lk rfl) (lkg rfl)) ?_
  refine wl_v rfl (val_assign (lk rfl)) ?_
  refine wl_nil ?_
  refine px_then ?_
  refine wc_ret ?_
  refine fin1 rfl (res_tmp rfl) (fun w1 hw => ?_)
  exact ⟨rfl, hw.drop rfl⟩

theorem IsValidQuota_c (q : Quota) (w : World) :
    Calls Try.prog 17 #[q.val] w fun e w' => e = .returned (.bool q.ok) ∧ HP w [] w' := by
  refine calls_entry [] _ Try.func17 rfl Try.ntmps17 (HP.refl w) (env1 rfl) ?_
  refine wc_seq ?_
  refine wc_region ?_
  refine wl_box (lk rfl) rfl fun b1 => ?_
  refine wl_v rfl (val_assign lkc) ?_
  refine wl_nil ?_
  refine px_then ?_
  refine wc_seq ?_
  refine wc_region ?_
  refine wl_v rfl (val_field fo_25_0 (lk rfl)) ?_
  refine wl_v rfl (val_load1 t1_3 (lk rfl) (cell_own (.head _) fun _ => rfl)) ?_
  refine wl_v rfl (val_geq (lk rfl) lkc) ?_
  refine wl_v rfl (val_move (lk rfl)) ?_
  refine wl_val (gd_t rfl rfl rfl) rfl (val_field fo_25_2 (lk rfl)) ?_
  refine wl_val (gd_t rfl rfl rfl) rfl (val_load1 t1_3 (lkg rfl) (cell_own (.head _) fun _ => rfl)) ?_
  refine wl_val (gd_t rfl rfl rfl) rfl (val_leq lkc (lkg rfl)) ?_
  refine wl_v rfl (val_and (lk rfl) (lkg rfl)) ?_
  refine wl_v rfl (val_move (lk rfl)) ?_
  refine wl_val (gd_t rfl rfl rfl) rfl (val_field fo_25_2 (lk rfl)) ?_
  refine wl_val (gd_t rfl rfl rfl) rfl (val_load1 t1_3 (lkg rfl) (cell_own (.head _) fun _ => rfl)) ?_
  refine wl_val (gd_t rfl rfl rfl) rfl (val_field fo_25_1 (lk rfl)) ?_
  refine wl_val (gd_t rfl rfl rfl) rfl (val_load1 t1_3 (lkg rfl) (cell_own (.head _) fun _ => rfl)) ?_
  refine wl_val (gd_t rfl rfl rfl) rfl (val_leq (lkg rfl) (lkg rfl)) ?_
  refine wl_v rfl (val_and (lk rfl) (lkg rfl)) ?_
  refine wl_v rfl (val_move (lk rfl)) ?_
  refine wl_val (gd_t rfl rfl rfl) rfl (val_field fo_25_1 (lk rfl)) ?_
  refine wl_val (gd_t rfl rfl rfl) rfl (val_load1 t1_3 (lkg rfl) (cell_own (.head _) fun _ => rfl)) ?_
  refine wl_val (gd_t rfl rfl rfl) rfl (val_leq (lkg rfl) lkc) ?_
  refine wl_v rfl (val_and (lk rfl) (lkg rfl)) ?_
  refine wl_v rfl (val_assign (lk rfl)) ?_
  refine wl_nil ?_
  refine px_then ?_
  refine wc_ret ?_
  refine fin1 rfl (res_tmp rfl) (fun w1 hw => ?_)
  exact ⟨by rw [Quota.ok]; simp only [inRange]; congr 2; rw [Bool.eq_iff_iff]; simp; omega, hw.drop rfl⟩

theorem sRemainingQuota_c (q : Quota) (w : World) :
    Calls Try.prog 18 #[q.val] w fun e w' => e = .returned (.int .i64 q.rem) ∧ HP w [] w' := by
  refine calls_entry [] _ Try.func18 rfl Try.ntmps18 (HP.refl w) (env1 rfl) ?_
  refine wc_seq ?_
  refine wc_region ?_
  refine wl_box (lk rfl) rfl fun b1 => ?_
  refine wl_v rfl (val_assign lkc) ?_
  refine wl_nil ?_
  refine px_then ?_
  refine wc_seq ?_
  refine wc_seq ?_
  refine wc_region ?_
  refine wl_v rfl (val_loadB (.head _) (lk rfl) ag_25) ?_
  refine wl_call gd_none rfl ci_15 (args1 (lk rfl)) (fun hG w1 hw => sIsValidQuota_c q w1) ?_
  refine wl_v rfl (val_not (lk rfl)) ?_
  refine wl_nil ?_
  refine px_then ?_
  refine wc_cond (lk rfl) (fun hc0 => ?_) (fun hc0 => ?_)
  · refine wc_seq ?_
    refine wc_region ?_
    refine wl_v rfl (val_assign lkc) ?_
    refine wl_nil ?_
    refine px_then ?_
    refine wc_ret ?_
    refine px_then_ret ?_
    refine fin1 rfl (res_tmp rfl) (fun w1 hw => ?_)
    exact ⟨by simp_all [Quota.rem], hw.drop rfl⟩
  refine wc_skip ?_
  refine px_then ?_
  refine wc_seq ?_
  refine wc_region ?_
  refine wl_v rfl (val_field fo_25_1 (lk rfl)) ?_
  refine wl_v rfl (val_load1 t1_3 (lk rfl) (cell_own (.head _) fun _ => rfl)) ?_
  refine wl_v rfl (val_field fo_25_2 (lk rfl)) ?_
  refine wl_v rfl (val_load1 t1_3 (lk rfl) (cell_own (.head _) fun _ => rfl)) ?_
  refine wl_v rfl (val_sub (lk rfl) (lk rfl)) ?_
  refine wl_v rfl (val_assign (lk rfl)) ?_
  refine wl_nil ?_
  refine px_then ?_
  refine wc_ret ?_
  refine fin1 rfl (res_tmp rfl) (fun w1 hw => ?_)
  exact ⟨by simp_all [Quota.rem], hw.drop rfl⟩

theorem RemainingQuota_c (q : Quota) (w : World) :
    Calls Try.prog 19 #[q.val] w fun e w' => e = .returned (.int .i64 q.rem) ∧ HP w [] w' := by
  refine calls_entry [] _ Try.func19 rfl Try.ntmps19 (HP.refl w) (env1 rfl) ?_
  refine wc_seq ?_
  refine wc_region ?_
  refine wl_box (lk rfl) rfl fun b1 => ?_
  refine wl_v rfl (val_assign lkc) ?_
  refine wl_nil ?_
  refine px_then ?_
  refine wc_seq ?_
  refine wc_seq ?_
  refine wc_region ?_
  refine wl_v rfl (val_loadB (.head _) (lk rfl) ag_25) ?_
  refine wl_call gd_none rfl ci_17 (args1 (lk rfl)) (fun hG w1 hw => IsValidQuota_c q w1) ?_
  refine wl_v rfl (val_not (lk rfl)) ?_
  refine wl_nil ?_
  refine px_then ?_
  refine wc_cond (lk rfl) (fun hc0 => ?_) (fun hc0 => ?_)
  · refine wc_seq ?_
    refine wc_region ?_
    refine wl_v rfl (val_assign lkc) ?_
    refine wl_nil ?_
    refine px_then ?_
    refine wc_ret ?_
    refine px_then_ret ?_
    refine fin1 rfl (res_tmp rfl) (fun w1 hw => ?_)
    exact ⟨by simp_all [Quota.rem], hw.drop rfl⟩
  refine wc_skip ?_
  refine px_then ?_
  refine wc_seq ?_
  refine wc_region ?_
  refine wl_v rfl (val_field fo_25_1 (lk rfl)) ?_
  refine wl_v rfl (val_load1 t1_3 (lk rfl) (cell_own (.head _) fun _ => rfl)) ?_
  refine wl_v rfl (val_field fo_25_2 (lk rfl)) ?_
  refine wl_v rfl (val_load1 t1_3 (lk rfl) (cell_own (.head _) fun _ => rfl)) ?_
  refine wl_v rfl (val_sub (lk rfl) (lk rfl)) ?_
  refine wl_v rfl (val_assign (lk rfl)) ?_
  refine wl_nil ?_
  refine px_then ?_
  refine wc_ret ?_
  refine fin1 rfl (res_tmp rfl) (fun w1 hw => ?_)
  exact ⟨by simp_all [Quota.rem], hw.drop rfl⟩

theorem sConsumeQuota_c (q : Quota) (n : Int) (w : World) :
    Calls Try.prog 20 #[q.val, .int .i64 n] w fun e w' => e = .returned (.tuple #[(q.use n).val, .bool (q.may n)]) ∧ HP w [] w' := by
  refine calls_entry [] _ Try.func20 rfl Try.ntmps20 (HP.refl w) (env2 rfl) ?_
  refine wc_seq ?_
  refine wc_region ?_
  refine wl_box (lk rfl) rfl fun b1 => ?_
  refine wl_alloc zc_25 rfl fun b2 => ?_
  refine wl_v rfl (val_assign lkc) ?_
  refine wl_nil ?_
  refine px_then ?_
  refine wc_seq ?_
  refine wc_seq ?_
  refine wc_region ?_
  refine wl_v rfl (val_loadB (.tail _ (.head _)) (lk rfl) ag_25) ?_
  refine wl_call gd_none rfl ci_15 (args1 (lk rfl)) (fun hG w1 hw => sIsValidQuota_c q w1) ?_
  refine wl_v rfl (val_not (lk rfl)) ?_
  refine wl_v rfl (val_move (lk rfl)) ?_
  refine wl_val (gd_f rfl rfl rfl) rfl (val_move (lk rfl)) ?_
  refine wl_val (gd_f rfl rfl rfl) rfl (val_field fo_25_1 (lk rfl)) ?_
  refine wl_val (gd_f rfl rfl rfl) rfl (val_load1 t1_3 (lkg rfl) (cell_own (.tail _ (.head _)) fun _ => rfl)) ?_
  refine wl_val (gd_f rfl rfl rfl) rfl (val_field fo_25_2 (lk rfl)) ?_
  refine wl_val (gd_f rfl rfl rfl) rfl (val_load1 t1_3 (lkg rfl) (cell_own (.tail _ (.head _)) fun _ => rfl)) ?_
  refine wl_val (gd_f rfl rfl rfl) rfl (val_sub (lkg rfl) (lkg rfl)) ?_
  refine wl_call (gd_f rfl rfl rfl) rfl ci_48 (args3 (lkg rfl) lkc (lkg rfl)) (fun hG w1 hw => l1In_c _ _ _ w1) ?_
  refine wl_val (gd_f rfl rfl rfl) rfl (val_not (lkg rfl)) ?_
  refine wl_v rfl (val_or (lk rfl) (lkg rfl)) ?_
  refine wl_nil ?_
  refine px_then ?_
  refine wc_cond (lk rfl) (fun hc0 => ?_) (fun hc0 => ?_)
  · refine wc_seq ?_
    refine wc_region ?_
    refine wl_v rfl (val_loadB (.tail _ (.head _)) (lk rfl) ag_25) ?_
    refine wl_storeB 0 rfl (lk rfl) (lk rfl) ag_25 rfl rfl ?_
    refine wl_v rfl (val_assign lkc) ?_
    refine wl_nil ?_
    refine px_then ?_
    refine wc_ret ?_
    refine px_then_ret ?_
    refine fin2 rfl (res_cell rfl (.head _) ag_25) (res_tmp rfl) (fun w1 hw => ?_)
    exact ⟨by rw [Quota.use, show q.may n = false from by cases h1 : q.ok <;> simp_all [Quota.may]]; rfl, hw.drop rfl⟩
  refine wc_skip ?_
  refine px_then ?_
  refine wc_seq ?_
  refine wc_region ?_
  refine wl_v rfl (val_loadB (.tail _ (.head _)) (lk rfl) ag_25) ?_
  refine wl_alloc zc_25 rfl fun b3 => ?_
  refine wl_storeB 0 rfl (lk rfl) (lk rfl) ag_25 rfl rfl ?_
  refine wl_nil ?_
  refine px_then ?_
  refine wc_seq ?_
  refine wc_region ?_
  refine wl_v rfl (val_field fo_25_2 (lk rfl)) ?_
  refine wl_v rfl (val_load1 t1_3 (lk rfl) (cell_own (.tail _ (.tail _ (.head _))) fun _ => rfl)) ?_
  refine wl_v rfl (val_move (lk rfl)) ?_
  refine wl_v rfl (val_add (lk rfl) (lk rfl)) ?_
  refine wl_v rfl (val_field fo_25_2 (lk rfl)) ?_
  refine wl_store1 0 rfl (lk rfl) (lk rfl) t1_3 rfl (rfl) ?_
  refine wl_nil ?_
  refine px_then ?_
  refine wc_seq ?_
  refine wc_region ?_
  refine wl_v rfl (val_loadB (.head _) (lk rfl) ag_25) ?_
  refine wl_storeB 1 rfl (lk rfl) (lk rfl) ag_25 rfl rfl ?_
  refine wl_v rfl (val_assign lkc) ?_
  refine wl_nil ?_
  refine px_then ?_
  refine wc_ret ?_
  refine fin2 rfl (res_cell rfl (.tail _ (.head _)) ag_25) (res_tmp rfl) (fun w1 hw => ?_)
  exact ⟨by rw [Quota.use, show q.may n = true from by simp_all [Quota.may]]; rfl, hw.drop rfl⟩

theorem ConsumeQuota_c (q : Quota) (n : Int) (w : World) :
    Calls Try.prog 21 #[q.val, .int .i64 n] w fun e w' => e = .returned (.tuple #[(q.use n).val, .bool (q.may n)]) ∧ HP w [] w' := by
  refine calls_entry [] _ Try.func21 rfl Try.ntmps21 (HP.refl w) (env2 rfl) ?_
  refine wc_seq ?_
  refine wc_region ?_
  refine wl_box (lk rfl) rfl fun b1 => ?_
  refine wl_alloc zc_25 rfl fun b2 => ?_
  refine wl_v rfl (val_assign lkc) ?_
  refine wl_nil ?_
  refine px_then ?_
  refine wc_seq ?_
  refine wc_seq ?_
  refine wc_region ?_
  refine wl_v rfl (val_loadB (.tail _ (.head _)) (lk rfl) ag_25) ?_
  refine wl_call gd_none rfl ci_17 (args1 (lk rfl)) (fun hG w1 hw => IsValidQuota_c q w1) ?_
  refine wl_v rfl (val_not (lk rfl)) ?_
  refine wl_v rfl (val_move (lk rfl)) ?_
  refine wl_val (gd_f rfl rfl rfl) rfl (val_move (lk rfl)) ?_
  refine wl_val (gd_f rfl rfl rfl) rfl (val_field fo_25_1 (lk rfl)) ?_
  refine wl_val (gd_f rfl rfl rfl) rfl (val_load1 t1_3 (lkg rfl) (cell_own (.tail _ (.head _)) fun _ => rfl)) ?_
  refine wl_val (gd_f rfl rfl rfl) rfl (val_field fo_25_2 (lk rfl)) ?_
  refine wl_val (gd_f rfl rfl rfl) rfl (val_load1 t1_3 (lkg rfl) (cell_own (.tail _ (.head _)) fun _ => rfl)) ?_
  refine wl_val (gd_f rfl rfl rfl) rfl (val_sub (lkg rfl) (lkg rfl)) ?_
  refine wl_call (gd_f rfl rfl rfl) rfl ci_49 (args3 (lkg rfl) lkc (lkg rfl)) (fun hG w1 hw => InRange_c _ _ _ w1) ?_
  refine wl_val (gd_f rfl rfl rfl) rfl (val_not (lkg rfl)) ?_
  refine wl_v rfl (val_or (lk rfl) (lkg rfl)) ?_
  refine wl_nil ?_
  refine px_then ?_
  refine wc_cond (lk rfl) (fun hc0 => ?_) (fun hc0 => ?_)
  · refine wc_seq ?_
    refine wc_region ?_
    refine wl_v rfl (val_loadB (.tail _ (.head _)) (lk rfl) ag_25) ?_
    refine wl_storeB 0 rfl (lk rfl) (lk rfl) ag_25 rfl rfl ?_
    refine wl_v rfl (val_assign lkc) ?_
    refine wl_nil ?_
    refine px_then ?_
    refine wc_ret ?_
    refine px_then_ret ?_
    refine fin2 rfl (res_cell rfl (.head _) ag_25) (res_tmp rfl) (fun w1 hw => ?_)
    exact ⟨by rw [Quota.use, show q.may n = false from by cases h1 : q.ok <;> simp_all [Quota.may]]; rfl, hw.drop rfl⟩
  refine wc_skip ?_
  refine px_then ?_
  refine wc_seq ?_
  refine wc_region ?_
  refine wl_v rfl (val_field fo_25_2 (lk rfl)) ?_
  refine wl_v rfl (val_load1 t1_3 (lk rfl) (cell_own (.tail _ (.head _)) fun _ => rfl)) ?_
  refine wl_v rfl (val_move (lk rfl)) ?_
  refine wl_v rfl (val_add (lk rfl) (lk rfl)) ?_
  refine wl_v rfl (val_field fo_25_2 (lk rfl)) ?_
  refine wl_store1 1 rfl (lk rfl) (lk rfl) t1_3 rfl (rfl) ?_
  refine wl_nil ?_
  refine px_then ?_
  refine wc_seq ?_
  refine wc_region ?_
  refine wl_v rfl (val_loadB (.tail _ (.head _)) (lk rfl) ag_25) ?_
  refine wl_storeB 0 rfl (lk rfl) (lk rfl) ag_25 rfl rfl ?_
  refine wl_v rfl (val_assign lkc) ?_
  refine wl_nil ?_
  refine px_then ?_
  refine wc_ret ?_
  refine fin2 rfl (res_cell rfl (.head _) ag_25) (res_tmp rfl) (fun w1 hw => ?_)
  exact ⟨by rw [Quota.use, show q.may n = true from by simp_all [Quota.may]]; rfl, hw.drop rfl⟩

theorem eqQuota_c (q r : Quota) (w : World) :
    Calls Try.prog 22 #[q.val, r.val] w fun e w' => e = .returned (.bool (q.eqb r)) ∧ HP w [] w' := by
  refine calls_entry [] _ Try.func22 rfl Try.ntmps22 (HP.refl w) (env2 rfl) ?_
  refine wc_seq ?_
  refine wc_region ?_
  refine wl_box (lk rfl) rfl fun b1 => ?_
  refine wl_box (lk rfl) rfl fun b2 => ?_
  refine wl_v rfl (val_assign lkc) ?_
  refine wl_nil ?_
  refine px_then ?_
  refine wc_seq ?_
  refine wc_seq ?_
  refine wc_region ?_
  refine wl_v rfl (val_field fo_25_0 (lk rfl)) ?_
  refine wl_v rfl (val_load1 t1_3 (lk rfl) (cell_own (.tail _ (.head _)) fun _ => rfl)) ?_
  refine wl_v rfl (val_field fo_25_0 (lk rfl)) ?_
  refine wl_v rfl (val_load1 t1_3 (lk rfl) (cell_own (.head _) fun _ => rfl)) ?_
  refine wl_v rfl (val_neq (lk rfl) (lk rfl)) ?_
  refine wl_nil ?_
  refine px_then ?_
  refine wc_cond (lk rfl) (fun hc0 => ?_) (fun hc0 => ?_)
  · refine wc_seq ?_
    refine wc_region ?_
    refine wl_v rfl (val_assign lkc) ?_
    refine wl_nil ?_
    refine px_then ?_
    refine wc_ret ?_
    refine px_then_ret ?_
    refine fin1 rfl (res_tmp rfl) (fun w1 hw => ?_)
    exact ⟨by simp_all [Quota.eqb], hw.drop rfl⟩
  refine wc_skip ?_
  refine px_then ?_
  refine wc_seq ?_
  refine wc_seq ?_
  refine wc_region ?_
  refine wl_v rfl (val_field fo_25_1 (lk rfl)) ?_
  refine wl_v rfl (val_load1 t1_3 (lk rfl) (cell_own (.tail _ (.head _)) fun _ => rfl)) ?_
  refine wl_v rfl (val_field fo_25_1 (lk rfl)) ?_
  refine wl_v rfl (val_load1 t1_3 (lk rfl) (cell_own (.head _) fun _ => rfl)) ?_
  refine wl_v rfl (val_neq (lk rfl) (lk rfl)) ?_
  refine wl_nil ?_
  refine px_then ?_
  refine wc_cond (lk rfl) (fun hc1 => ?_) (fun hc1 => ?_)
  · refine wc_seq ?_
    refine wc_region ?_
    refine wl_v rfl (val_assign lkc) ?_
    refine wl_nil ?_
    refine px_then ?_
    refine wc_ret ?_
    refine px_then_ret ?_
    refine fin1 rfl (res_tmp rfl) (fun w1 hw => ?_)
    exact ⟨by simp_all [Quota.eqb], hw.drop rfl⟩
  refine wc_skip ?_
  refine px_then ?_
  refine wc_seq ?_
  refine wc_seq ?_
  refine wc_region ?_
  refine wl_v rfl (val_field fo_25_2 (lk rfl)) ?_
  refine wl_v rfl (val_load1 t1_3 (lk rfl) (cell_own (.tail _ (.head _)) fun _ => rfl)) ?_
  refine wl_v rfl (val_field fo_25_2 (lk rfl)) ?_
  refine wl_v rfl (val_load1 t1_3 (lk rfl) (cell_own (.head _) fun _ => rfl)) ?_
  refine wl_v rfl (val_neq (lk rfl) (lk rfl)) ?_
  refine wl_nil ?_
  refine px_then ?_
  refine wc_cond (lk rfl) (fun hc2 => ?_) (fun hc2 => ?_)
  · refine wc_seq ?_
    refine wc_region ?_
    refine wl_v rfl (val_assign lkc) ?_
    refine wl_nil ?_
    refine px_then ?_
    refine wc_ret ?_
    refine px_then_ret ?_
    refine fin1 rfl (res_tmp rfl) (fun w1 hw => ?_)
    exact ⟨by simp_all [Quota.eqb], hw.drop rfl⟩
  refine wc_skip ?_
  refine px_then ?_
  refine wc_seq ?_
  refine wc_region ?_
  refine wl_v rfl (val_assign lkc) ?_
  refine wl_nil ?_
  refine px_then ?_
  refine wc_ret ?_
  refine fin1 rfl (res_tmp rfl) (fun w1 hw => ?_)
  exact ⟨by simp_all [Quota.eqb], hw.drop rfl⟩

theorem law_IsValidQuota (q : Quota) (w : World) :
    Calls Try.prog 3 #[q.val] w fun e w' => e = .returned (.bool true) ∧ HP w [] w' := by
  refine calls_entry [] _ Try.func3 rfl Try.ntmps3 (HP.refl w) (env1 rfl) ?_
  refine wc_seq ?_
  refine wc_region ?_
  refine wl_box (lk rfl) rfl fun b1 => ?_
  refine wl_v rfl (val_assign lkc) ?_
  refine wl_nil ?_
  refine px_then ?_
  refine wc_seq ?_
  refine wc_region ?_
  refine wl_v rfl (val_loadB (.head _) (lk rfl) ag_23) ?_
  refine wl_call gd_none rfl ci_16 (args1 (lk rfl)) (fun hG w1 hw => toQuota_c q w1) ?_
  refine wl_call gd_none rfl ci_15 (args1 (lk rfl)) (fun hG w1 hw => sIsValidQuota_c q w1) ?_
  refine wl_v rfl (val_assign (lk rfl)) ?_
  refine wl_nil ?_
  refine px_then ?_
  refine wc_seq ?_
  refine wc_region ?_
  refine wl_v rfl (val_loadB (.head _) (lk rfl) ag_23) ?_
  refine wl_call gd_none rfl ci_16 (args1 (lk rfl)) (fun hG w1 hw => toQuota_c q w1) ?_
  refine wl_call gd_none rfl ci_17 (args1 (lk rfl)) (fun hG w1 hw => IsValidQuota_c q w1) ?_
  refine wl_v rfl (val_assign (lk rfl)) ?_
  refine wl_nil ?_
  refine px_then ?_
  refine wc_seq ?_
  refine wc_seq ?_
  refine wc_region ?_
  refine wl_v rfl (val_move (lk rfl)) ?_
  refine wl_v rfl (val_move (lk rfl)) ?_
  refine wl_v rfl (val_neqB Try.underlying4 (lk rfl) (lk rfl)) ?_
  refine wl_nil ?_
  refine px_then ?_
  refine wc_cond (lk rfl) (fun hc0 => ?_) (fun hc0 => ?_)
  · refine wc_seq ?_
    refine wc_region ?_
    refine wl_v rfl (val_assign lkc) ?_
    refine wl_nil ?_
    refine px_then ?_
    refine wc_ret ?_
    refine px_then_ret ?_
    refine fin1 rfl (res_tmp rfl) (fun w1 hw => ?_)
    exact ⟨by simp_all, hw.drop rfl⟩
  refine wc_skip ?_
  refine px_then ?_
  refine wc_seq ?_
  refine wc_region ?_
  refine wl_v rfl (val_assign lkc) ?_
  refine wl_nil ?_
  refine px_then ?_
  refine wc_ret ?_
  refine fin1 rfl (res_tmp rfl) (fun w1 hw => ?_)
  exact ⟨by simp_all, hw.drop rfl⟩

theorem law_RemainingQuota (q : Quota) (w : World) :
    Calls Try.prog 4 #[q.val] w fun e w' => e = .returned (.bool true) ∧ HP w [] w' := by
  refine calls_entry [] _ Try.func4 rfl Try.ntmps4 (HP.refl w) (env1 rfl) ?_
  refine wc_seq ?_
  refine wc_region ?_
  refine wl_box (lk rfl) rfl fun b1 => ?_
  refine wl_v rfl (val_assign lkc) ?_
  refine wl_nil ?_
  refine px_then ?_
  refine wc_seq ?_
  refine wc_region ?_
  refine wl_v rfl (val_loadB (.head _) (lk rfl) ag_23) ?_
  refine wl_call gd_none rfl ci_16 (args1 (lk rfl)) (fun hG w1 hw => toQuota_c q w1) ?_
  refine wl_call gd_none rfl ci_18 (args1 (lk rfl)) (fun hG w1 hw => sRemainingQuota_c q w1) ?_
  refine wl_v rfl (val_assign (lk rfl)) ?_
  refine wl_nil ?_
  refine px_then ?_
  refine wc_seq ?_
  refine wc_region ?_
  refine wl_v rfl (val_loadB (.head _) (lk rfl) ag_23) ?_
  refine wl_call gd_none rfl ci_16 (args1 (lk rfl)) (fun hG w1 hw => toQuota_c q w1) ?_
  refine wl_call gd_none rfl ci_19 (args1 (lk rfl)) (fun hG w1 hw => RemainingQuota_c q w1) ?_
  refine wl_v rfl (val_assign (lk rfl)) ?_
  refine wl_nil ?_
  refine px_then ?_
  refine wc_seq ?_
  refine wc_seq ?_
  refine wc_region ?_
  refine wl_v rfl (val_move (lk rfl)) ?_
  refine wl_v rfl (val_move (lk rfl)) ?_
  refine wl_v rfl (val_neq (lk rfl) (lk rfl)) ?_
  refine wl_nil ?_
  refine px_then ?_
  refine wc_cond (lk rfl) (fun hc0 => ?_) (fun hc0 => ?_)
  · refine wc_seq ?_
    refine wc_region ?_
    refine wl_v rfl (val_assign lkc) ?_
    refine wl_nil ?_
    refine px_then ?_
    refine wc_ret ?_
    refine px_then_ret ?_
    refine fin1 rfl (res_tmp rfl) (fun w1 hw => ?_)
    exact ⟨by simp_all, hw.drop rfl⟩
  refine wc_skip ?_
  refine px_then ?_
  refine wc_seq ?_
  refine wc_region ?_
  refine wl_v rfl (val_assign lkc) ?_
  refine wl_nil ?_
  refine px_then ?_
  refine wc_ret ?_
  refine fin1 rfl (res_tmp rfl) (fun w1 hw => ?_)
  exact ⟨by simp_all, hw.drop rfl⟩

theorem law_ConsumeQuota (q : Quota) (n : Int) (w : World) :
    Calls Try.prog 5 #[q.val, .int .i64 n] w fun e w' => e = .returned (.bool true) ∧ HP w [] w' := by
  refine calls_entry [] _ Try.func5 rfl Try.ntmps5 (HP.refl w) (env2 rfl) ?_
  refine wc_seq ?_
  refine wc_region ?_
  refine wl_box (lk rfl) rfl fun b1 => ?_
  refine wl_v rfl (val_assign lkc) ?_
  refine wl_nil ?_
  refine px_then ?_
  refine wc_seq ?_
  refine wc_region ?_
  refine wl_v rfl (val_loadB (.head _) (lk rfl) ag_23) ?_
  refine wl_call gd_none rfl ci_16 (args1 (lk rfl)) (fun hG w1 hw => toQuota_c q w1) ?_
  refine wl_v rfl (val_move (lk rfl)) ?_
  refine wl_call gd_none rfl ci_20 (args2 (lk rfl) (lk rfl)) (fun hG w1 hw => sConsumeQuota_c q n w1) ?_
  refine wl_v rfl (val_move (lk rfl)) ?_
  refine wl_v rfl (val_extract (lk rfl) rfl) ?_
  refine wl_v rfl (val_extract (lk rfl) rfl) ?_
  refine wl_alloc zc_25 rfl fun b2 => ?_
  refine wl_storeB 0 rfl (lk rfl) (lk rfl) ag_25 rfl rfl ?_
  refine wl_v rfl (val_assign (lk rfl)) ?_
  refine wl_nil ?_
  refine px_then ?_
  refine wc_seq ?_
  refine wc_region ?_
  refine wl_v rfl (val_loadB (.tail _ (.head _)) (lk rfl) ag_23) ?_
  refine wl_call gd_none rfl ci_16 (args1 (lk rfl)) (fun hG w1 hw => toQuota_c q w1) ?_
  refine wl_v rfl (val_move (lk rfl)) ?_
  refine wl_call gd_none rfl ci_21 (args2 (lk rfl) (lk rfl)) (fun hG w1 hw => ConsumeQuota_c q n w1) ?_
  refine wl_v rfl (val_move (lk rfl)) ?_
  refine wl_v rfl (val_extract (lk rfl) rfl) ?_
  refine wl_v rfl (val_extract (lk rfl) rfl) ?_
  refine wl_alloc zc_25 rfl fun b3 => ?_
  refine wl_storeB 0 rfl (lk rfl) (lk rfl) ag_25 rfl rfl ?_
  refine wl_v rfl (val_assign (lk rfl)) ?_
  refine wl_nil ?_
  refine px_then ?_
  refine wc_seq ?_
  refine wc_seq ?_
  refine wc_region ?_
  refine wl_v rfl (val_loadB (.head _) (lk rfl) ag_25) ?_
  refine wl_v rfl (val_loadB (.tail _ (.head _)) (lk rfl) ag_25) ?_
  refine wl_call gd_none rfl ci_22 (args2 (lk rfl) (lk rfl)) (fun hG w1 hw => eqQuota_c (q.use n) (q.use n) w1) ?_
  refine wl_v rfl (val_not (lk rfl)) ?_
  refine wl_v rfl (val_move (lk rfl)) ?_
  refine wl_val (gd_f rfl rfl rfl) rfl (val_move (lk rfl)) ?_
  refine wl_val (gd_f rfl rfl rfl) rfl (val_move (lk rfl)) ?_
  refine wl_val (gd_f rfl rfl rfl) rfl (val_neqB Try.underlying4 (lkg rfl) (lkg rfl)) ?_
  refine wl_v rfl (val_or (lk rfl) (lkg rfl)) ?_
  refine wl_nil ?_
  refine px_then ?_
  refine wc_cond (lk rfl) (fun hc0 => ?_) (fun hc0 => ?_)
  · refine wc_seq ?_
    refine wc_region ?_
    refine wl_v rfl (val_assign lkc) ?_
    refine wl_nil ?_
    refine px_then ?_
    refine wc_ret ?_
    refine px_then_ret ?_
    refine fin1 rfl (res_tmp rfl) (fun w1 hw => ?_)
    exact ⟨by simp_all [Quota.eqb_refl], hw.drop rfl⟩
  refine wc_skip ?_
  refine px_then ?_
  refine wc_seq ?_
  refine wc_region ?_
  refine wl_v rfl (val_assign lkc) ?_
  refine wl_nil ?_
  refine px_then ?_
  refine wc_ret ?_
  refine fin1 rfl (res_tmp rfl) (fun w1 hw => ?_)
  exact ⟨by simp_all [Quota.eqb_refl], hw.drop rfl⟩

end Go.Proofs.Ytpjjjblocimgbaa
