/- Numbers: what the helpers compute, walked. -/
import Derived.Test.YtfinobpodmdkgaaSxF
namespace Go.Proofs.Ytfinobpodmdkgaa
open Go.RowKit


def inRange (n a b : Int) : Bool := decide (a ≤ n) && decide (n ≤ b)
def imin (a b : Int) : Int := if b < a then b else a
def imax (a b : Int) : Int := if a < b then b else a

theorem l1In_c (a b c : Int) (w : World) :
    Calls Try.prog 38 #[.int .i64 a, .int .i64 b, .int .i64 c] w fun e w' => e = .returned (.bool (inRange a b c)) ∧ HP w [] w' := by
  refine calls_entry [] _ Try.func38 rfl Try.ntmps38 (HP.refl w) (env3 rfl) ?_
  refine wc_seq ?_
  refine wc_region ?_
  refine wl_v rfl (val_assign lkc) ?_
  refine wl_nil ?_
  refine px_then ?_
  refine wc_seq ?_
  refine wc_region ?_
  refine wl_v rfl (val_move (lk rfl)) ?_
  refine wl_v rfl (val_move (lk rfl)) ?_
  refine wl_v rfl (val_geq (lk rfl) (lk rfl)) ?_
  refine wl_v rfl (val_move (lk rfl)) ?_
  refine wl_val (gd_t rfl rfl rfl) rfl (val_move (lk rfl)) ?_
  refine wl_val (gd_t rfl rfl rfl) rfl (val_move (lk rfl)) ?_
  refine wl_val (gd_t rfl rfl rfl) rfl (val_leq (lkg rfl) (lkg rfl)) ?_
  refine wl_v rfl (val_and (lk rfl) (lkg rfl)) ?_
  refine wl_v rfl (val_assign (lk rfl)) ?_
  refine wl_nil ?_
  refine px_then ?_
  refine wc_ret ?_
  refine fin1 rfl (res_tmp rfl) (fun w1 hw => ?_)
  exact ⟨rfl, (hw.drop rfl)⟩

theorem InRange_c (a b c : Int) (w : World) :
    Calls Try.prog 39 #[.int .i64 a, .int .i64 b, .int .i64 c] w fun e w' => e = .returned (.bool (inRange a b c)) ∧ HP w [] w' := by
  refine calls_entry [] _ Try.func39 rfl Try.ntmps39 (HP.refl w) (env3 rfl) ?_
  refine wc_seq ?_
  refine wc_region ?_
  refine wl_v rfl (val_assign lkc) ?_
  refine wl_nil ?_
  refine px_then ?_
  refine wc_seq ?_
  refine wc_region ?_
  refine wl_v rfl (val_move (lk rfl)) ?_
  refine wl_v rfl (val_move (lk rfl)) ?_
  refine wl_v rfl (val_leq (lk rfl) (lk rfl)) ?_
  refine wl_v rfl (val_move (lk rfl)) ?_
  refine wl_val (gd_t rfl rfl rfl) rfl (val_move (lk rfl)) ?_
  refine wl_val (gd_t rfl rfl rfl) rfl (val_move (lk rfl)) ?_
  refine wl_val (gd_t rfl rfl rfl) rfl (val_leq (lkg rfl) (lkg rfl)) ?_
  refine wl_v rfl (val_and (lk rfl) (lkg rfl)) ?_
  refine wl_v rfl (val_assign (lk rfl)) ?_
  refine wl_nil ?_
  refine px_then ?_
  refine wc_ret ?_
  refine fin1 rfl (res_tmp rfl) (fun w1 hw => ?_)
  exact ⟨rfl, (hw.drop rfl)⟩

theorem sMin_c (a b : Int) (w : World) :
    Calls Try.prog 46 #[.int .i64 a, .int .i64 b] w fun e w' => e = .returned (.int .i64 (imin a b)) ∧ HP w [] w' := by
  refine calls_entry [] _ Try.func46 rfl Try.ntmps46 (HP.refl w) (env2 rfl) ?_
  refine wc_seq ?_
  refine wc_region ?_
  refine wl_v rfl (val_assign lkc) ?_
  refine wl_nil ?_
  refine px_then ?_
  refine wc_seq ?_
  refine wc_seq ?_
  refine wc_region ?_
  refine wl_v rfl (val_move (lk rfl)) ?_
  refine wl_v rfl (val_move (lk rfl)) ?_
  refine wl_v rfl (val_lss (lk rfl) (lk rfl)) ?_
  refine wl_nil ?_
  refine px_then ?_
  refine wc_cond (lk rfl) (fun hc0 => ?_) (fun hc0 => ?_)
  · refine wc_seq ?_
    refine wc_region ?_
    refine wl_v rfl (val_move (lk rfl)) ?_
    refine wl_v rfl (val_assign (lk rfl)) ?_
    refine wl_nil ?_
    refine px_then ?_
    refine wc_ret ?_
    refine px_then_ret ?_
    refine fin1 rfl (res_tmp rfl) (fun w1 hw => ?_)
    exact ⟨by rw [imin, if_pos (by simpa using hc0)], hw.drop rfl⟩
  refine wc_skip ?_
  refine px_then ?_
  refine wc_seq ?_
  refine wc_region ?_
  refine wl_v rfl (val_move (lk rfl)) ?_
  refine wl_v rfl (val_assign (lk rfl)) ?_
  refine wl_nil ?_
  refine px_then ?_
  refine wc_ret ?_
  refine fin1 rfl (res_tmp rfl) (fun w1 hw => ?_)
  exact ⟨by rw [imin, if_neg (by simpa using hc0)], hw.drop rfl⟩

theorem sMax_c (a b : Int) (w : World) :
    Calls Try.prog 45 #[.int .i64 a, .int .i64 b] w fun e w' => e = .returned (.int .i64 (imax a b)) ∧ HP w [] w' := by
  refine calls_entry [] _ Try.func45 rfl Try.ntmps45 (HP.refl w) (env2 rfl) ?_
  refine wc_seq ?_
  refine wc_region ?_
  refine wl_v rfl (val_assign lkc) ?_
  refine wl_nil ?_
  refine px_then ?_
  refine wc_seq ?_
  refine wc_seq ?_
  refine wc_region ?_
  refine wl_v rfl (val_move (lk rfl)) ?_
  refine wl_v rfl (val_move (lk rfl)) ?_
  refine wl_v rfl (val_gtr (lk rfl) (lk rfl)) ?_
  refine wl_nil ?_
  refine px_then ?_
  refine wc_cond (lk rfl) (fun hc0 => ?_) (fun hc0 => ?_)
  · refine wc_seq ?_
    refine wc_region ?_
    refine wl_v rfl (val_move (lk rfl)) ?_
    refine wl_v rfl (val_assign (lk rfl)) ?_
    refine wl_nil ?_
    refine px_then ?_
    refine wc_ret ?_
    refine px_then_ret ?_
    refine fin1 rfl (res_tmp rfl) (fun w1 hw => ?_)
    exact ⟨by rw [imax, if_pos (by simpa using hc0)], hw.drop rfl⟩
  refine wc_skip ?_
  refine px_then ?_
  refine wc_seq ?_
  refine wc_region ?_
  refine wl_v rfl (val_move (lk rfl)) ?_
  refine wl_v rfl (val_assign (lk rfl)) ?_
  refine wl_nil ?_
  refine px_then ?_
  refine wc_ret ?_
  refine fin1 rfl (res_tmp rfl) (fun w1 hw => ?_)
  exact ⟨by rw [imax, if_neg (by simpa using hc0)], hw.drop rfl⟩

theorem Min_c (a b : Int) (w : World) :
    Calls Try.prog 47 #[.int .i64 a, .int .i64 b] w fun e w' => e = .returned (.int .i64 (imin a b)) ∧ HP w [] w' := by
  refine calls_entry [] _ Try.func47 rfl Try.ntmps47 (HP.refl w) (env2 rfl) ?_
  refine wc_seq ?_
  refine wc_region ?_
  refine wl_v rfl (val_assign lkc) ?_
  refine wl_nil ?_
  refine px_then ?_
  refine wc_seq ?_
  refine wc_seq ?_
  refine wc_region ?_
  refine wl_v rfl (val_move (lk rfl)) ?_
  refine wl_v rfl (val_move (lk rfl)) ?_
  refine wl_v rfl (val_lss (lk rfl) (lk rfl)) ?_
  refine wl_nil ?_
  refine px_then ?_
  refine wc_cond (lk rfl) (fun hc0 => ?_) (fun hc0 => ?_)
  · refine wc_seq ?_
    refine wc_region ?_
    refine wl_v rfl (val_move (lk rfl)) ?_
    refine wl_v rfl (val_assign (lk rfl)) ?_
    refine wl_nil ?_
    refine px_then ?_
    refine wc_ret ?_
    refine px_then_ret ?_
    refine fin1 rfl (res_tmp rfl) (fun w1 hw => ?_)
    exact ⟨by rw [imin, if_pos (by simpa using hc0)], hw.drop rfl⟩
  refine wc_skip ?_
  refine px_then ?_
  refine wc_seq ?_
  refine wc_region ?_
  refine wl_v rfl (val_move (lk rfl)) ?_
  refine wl_v rfl (val_assign (lk rfl)) ?_
  refine wl_nil ?_
  refine px_then ?_
  refine wc_ret ?_
  refine fin1 rfl (res_tmp rfl) (fun w1 hw => ?_)
  exact ⟨by rw [imin, if_neg (by simpa using hc0)], hw.drop rfl⟩

theorem Max_c (a b : Int) (w : World) :
    Calls Try.prog 48 #[.int .i64 a, .int .i64 b] w fun e w' => e = .returned (.int .i64 (imax a b)) ∧ HP w [] w' := by
  refine calls_entry [] _ Try.func48 rfl Try.ntmps48 (HP.refl w) (env2 rfl) ?_
  refine wc_seq ?_
  refine wc_region ?_
  refine wl_v rfl (val_assign lkc) ?_
  refine wl_nil ?_
  refine px_then ?_
  refine wc_seq ?_
  refine wc_seq ?_
  refine wc_region ?_
  refine wl_v rfl (val_move (lk rfl)) ?_
  refine wl_v rfl (val_move (lk rfl)) ?_
  refine wl_v rfl (val_gtr (lk rfl) (lk rfl)) ?_
  refine wl_nil ?_
  refine px_then ?_
  refine wc_cond (lk rfl) (fun hc0 => ?_) (fun hc0 => ?_)
  · refine wc_seq ?_
    refine wc_region ?_
    refine wl_v rfl (val_move (lk rfl)) ?_
    refine wl_v rfl (val_assign (lk rfl)) ?_
    refine wl_nil ?_
    refine px_then ?_
    refine wc_ret ?_
    refine px_then_ret ?_
    refine fin1 rfl (res_tmp rfl) (fun w1 hw => ?_)
    exact ⟨by rw [imax, if_pos (by simpa using hc0)], hw.drop rfl⟩
  refine wc_skip ?_
  refine px_then ?_
  refine wc_seq ?_
  refine wc_region ?_
  refine wl_v rfl (val_move (lk rfl)) ?_
  refine wl_v rfl (val_assign (lk rfl)) ?_
  refine wl_nil ?_
  refine px_then ?_
  refine wc_ret ?_
  refine fin1 rfl (res_tmp rfl) (fun w1 hw => ?_)
  exact ⟨by rw [imax, if_neg (by simpa using hc0)], hw.drop rfl⟩

end Go.Proofs.Ytfinobpodmdkgaa
