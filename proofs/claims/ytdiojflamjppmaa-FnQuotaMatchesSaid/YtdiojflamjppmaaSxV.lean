/- Quotas and accounts: requests, reports and closing, walked. -/
import Derived.Test.YtdiojflamjppmaaSxU
namespace Go.Proofs.Ytdiojflamjppmaa
open Go.RowKit


def Acc.mat (a : Acc) (q : Quota) : Bool := a.ok && q.ok && (a.held q.sid == q.granted)
def repA (a : Acc) (q : Quota) : Acc := if a.mat q then a.deb q.sid q.used else a
def repQ (a : Acc) (q : Quota) : Quota := if a.mat q then ⟨q.sid, IntKind.i64.wrap (q.granted - q.used), 0⟩ else q
def addQ (a : Acc) (q : Quota) (n : Int) : Quota := ⟨q.sid, IntKind.i64.wrap (q.granted + a.got q.sid n), q.used⟩
def reqA (a : Acc) (q : Quota) (n : Int) : Acc := if a.mat q && (addQ a q n).ok then a.rsv q.sid n else a
def reqQ (a : Acc) (q : Quota) (n : Int) : Quota := if a.mat q && (addQ a q n).ok then addQ a q n else q
def cloA (a : Acc) (q : Quota) : Acc := if a.mat q then (repA a q).rel q.sid else a
theorem Acc.mat_parts {a : Acc} {q : Quota} (h : a.mat q = true) : a.ok = true ∧ q.ok = true ∧ a.held q.sid = q.granted := by
  simp only [Acc.mat, Bool.and_eq_true, beq_iff_eq] at h
  exact ⟨h.1.1, h.1.2, h.2⟩
theorem Quota.ok_parts {q : Quota} (h : q.ok = true) : 0 ≤ q.sid ∧ (0 ≤ q.granted ∧ q.granted ≤ 100000) ∧ (0 ≤ q.used ∧ q.used ≤ q.granted) := by
  simp only [Quota.ok, Bool.and_eq_true, inRange, decide_eq_true_eq] at h
  exact ⟨h.1.1, h.1.2, h.2⟩
theorem mat_may {a : Acc} {q : Quota} (h : a.mat q = true) : a.may q.sid q.used = true := by
  have h1 := Acc.mat_parts h
  have h2 := Quota.ok_parts h1.2.1
  rw [Acc.may, h1.1, h1.2.2]
  simp [inRange, h2]
theorem got_range {a : Acc} (id n : Int) : 0 ≤ a.got id n ∧ a.got id n ≤ 100000 := by
  unfold Acc.got
  split
  · rename_i h
    simp only [Acc.can, Bool.and_eq_true, inRange, decide_eq_true_eq] at h
    have h1 := Acc.hd_parts h.1.1.1.1
    have h2 := h.1.1.2
    unfold imin
    split <;> omega
  · omega
theorem addQ_ok {a : Acc} {q : Quota} {n : Int} (h : a.mat q = true) : (addQ a q n).ok = !decide ((100000 : Int) < IntKind.i64.wrap (q.granted + a.got q.sid n)) := by
  have h1 := Acc.mat_parts h
  have h2 := Quota.ok_parts h1.2.1
  have h3 := got_range (a := a) q.sid n
  rw [Quota.ok, addQ]
  simp only [inRange]
  rw [wrap64_in' (by omega)]
  rw [Bool.eq_iff_iff]
  simp
  omega
theorem rep_len (a : Acc) (q : Quota) : (repA a q).res.length ≤ a.res.length := by
  unfold repA
  split
  · exact deb_len _ _ _
  · exact Nat.le_refl _
theorem clo_len (a : Acc) (q : Quota) : (cloA a q).res.length ≤ a.res.length := by
  unfold cloA
  split
  · exact Nat.le_trans (Acc.rel_len _ _) (rep_len a q)
  · exact Nat.le_refl _
theorem req_len (a : Acc) (q : Quota) (n : Int) : (reqA a q n).res.length ≤ a.res.length + 1 := by
  unfold reqA
  split
  · exact rsv_len _ _ _
  · omega
theorem repQ_sid (a : Acc) (q : Quota) : (repQ a q).sid = q.sid := by
  unfold repQ
  split <;> rfl

theorem sReport_c (a : Acc) (A : Option Addr) (b o c : Nat) (q : Quota) (w : World) (hs : Sl w A b o (flat encR a.res)) (hl : a.res.length ≤ 1048576) (hc : a.res.length ≤ c) :
    Calls Try.prog 24 #[a.val A c, q.val] w fun e w' => ∃ x : Nat × Nat × List Value, ((flat encR (repA a q).res ++ x.2.2).length = x.2.1 * 2 ∧ x.2.1 ≤ 9223372036854775807) ∧ e = .returned (.tuple #[(repA a q).val (some ⟨x.1, 0, none⟩) x.2.1, (repQ a q).val]) ∧ HP w [⟨x.1, true, 71, flat encR (repA a q).res ++ x.2.2⟩] w' := by
  refine calls_entry [] _ Try.func24 rfl Try.ntmps24 (HP.refl w) (env2 rfl) ?_
  refine wc_seq ?_
  refine wc_region ?_
  refine wl_box (lk rfl) rfl fun b1 => ?_
  refine wl_box (lk rfl) rfl fun b2 => ?_
  refine wl_alloc zc_28 rfl fun b3 => ?_
  refine wl_alloc zc_41 rfl fun b4 => ?_
  refine wl_nil ?_
  refine px_then ?_
  refine wc_seq ?_
  refine wc_seq ?_
  refine wc_region ?_
  refine wl_v rfl (val_loadB (.tail _ (.tail _ (.tail _ (.head _)))) (lk rfl) ag_28) ?_
  refine wl_v rfl (val_loadB (.tail _ (.tail _ (.head _))) (lk rfl) ag_41) ?_
  refine wl_call gd_none rfl ci_65 (args2 (lk rfl) (lk rfl)) (fun hG w1 hw => sMatches_c a _ _ _ _ q w1 (hs.hp hw rfl) hl) ?_
  refine wl_v rfl (val_not (lk rfl)) ?_
  refine wl_nil ?_
  refine px_then ?_
  refine wc_cond (lk rfl) (fun hc0 => ?_) (fun hc0 => ?_)
  · have hmat : a.mat q = false := by have h9 : (!(a.mat q)) = true := hc0; simpa using h9
    refine wc_seq ?_
    refine wc_region_am [false, false, true, true] 5 mo_ rfl ?_
    refine wa_take 0 rfl (by kernel_rfl) (by kernel_rfl) (by kernel_rfl) (by kernel_rfl) (fun _ h => h.mask [false, false, true, true] rfl) gd_none rfl (val_loadB (.tail _ (.head _)) (lk rfl) ag_28) ?_
    refine wa_take 2 rfl (by kernel_rfl) (by kernel_rfl) (by kernel_rfl) (by kernel_rfl) (fun _ h => h.mask [false, false, true, true] rfl) gd_none rfl (val_loadB (.head _) (lk rfl) ag_41) ?_
    refine wa_only 1 (by kernel_rfl) rfl ?_
    refine wl_callx rfl ci_51 (args1 (lk rfl)) (fun w1 hw => sCopyAcc_c a _ _ _ _ w1 (hs.hp hw rfl) hl) (fun _ => rfl) ?_
    rintro ⟨gb13, gc13, gs13⟩ ⟨hgl13, hgc13⟩
    refine wl_nil (px_qn (fun _ h => h.mask [false, false, false, true, true] rfl) ?_)
    refine wa_only 3 (by kernel_rfl) rfl ?_
    refine wl_storeB 2 rfl (lk rfl) (lk rfl) ag_28 rfl rfl ?_
    refine wl_nil (px_qn (fun _ h => h.mask [false, false, false, true, true] rfl) ?_)
    refine wa_only 4 (by kernel_rfl) rfl ?_
    refine wl_storeB 1 rfl (lk rfl) (lk rfl) ag_41 rfl rfl ?_
    refine wl_nil (px_qn (fun _ h => h.mask [false, false, false, true, true] rfl) ?_)
    refine wa_done (by kernel_rfl) ?_
    refine px_then ?_
    refine wc_ret ?_
    refine px_then_ret ?_
    refine fin2 rfl (res_cell rfl (.tail _ (.tail _ (.head _))) ag_28) (res_cell rfl (.tail _ (.head _)) ag_41) (fun w1 hw => ?_)
    rw [repA, repQ, if_neg (by rw [hmat]; decide), if_neg (by rw [hmat]; decide)]
    exact ⟨(gb13, gc13, gs13), ⟨hgl13, hgc13⟩, rfl, hw.mask [true, false, false, false, false] rfl⟩
  have hmat : a.mat q = true := by have h9 : (!(a.mat q)) = false := hc0; simpa using h9
  refine wc_skip ?_
  refine px_then ?_
  refine wc_seq ?_
  refine wc_region ?_
  refine wl_v rfl (val_loadB (.tail _ (.tail _ (.tail _ (.head _)))) (lk rfl) ag_28) ?_
  refine wl_v rfl (val_field fo_41_0 (lk rfl)) ?_
  refine wl_v rfl (val_load1 t1_3 (lk rfl) (cell_own (.tail _ (.tail _ (.head _))) fun _ => rfl)) ?_
  refine wl_v rfl (val_field fo_41_2 (lk rfl)) ?_
  refine wl_v rfl (val_load1 t1_3 (lk rfl) (cell_own (.tail _ (.tail _ (.head _))) fun _ => rfl)) ?_
  refine wl_callx rfl ci_20 (args3 (lk rfl) (lk rfl) (lk rfl)) (fun w1 hw => sDebit_c a _ _ _ _ q.sid q.used w1 (hs.hp hw rfl) hl hc) (fun _ => rfl) ?_
  rintro ⟨gb21, gc21, gs21⟩ ⟨hgl21, hgc21⟩
  refine wl_v rfl (val_move (lk rfl)) ?_
  refine wl_v rfl (val_extract (lk rfl) rfl) ?_
  refine wl_v rfl (val_extract (lk rfl) rfl) ?_
  refine wl_alloc zc_28 rfl fun b5 => ?_
  refine wl_storeB 0 rfl (lk rfl) (lk rfl) ag_28 rfl rfl ?_
  refine wl_v rfl (val_assign (lk rfl)) ?_
  refine wl_nil ?_
  refine px_then ?_
  refine wc_seq ?_
  refine wc_region_am [true, true, false, false, true, true] 11 mo_ rfl ?_
  refine wa_take 0 rfl (by kernel_rfl) (by kernel_rfl) (by kernel_rfl) (by kernel_rfl) (fun _ h => h.mask [true, true, false, false, true, true] rfl) gd_none rfl (val_loadB (.head _) (lk rfl) ag_28) ?_
  refine wa_take 1 rfl (by kernel_rfl) (by kernel_rfl) (by kernel_rfl) (by kernel_rfl) (fun _ h => h.mask [true, true, false, false, true, true] rfl) gd_none rfl (val_field fo_41_0 (lk rfl)) ?_
  refine wa_take 2 rfl (by kernel_rfl) (by kernel_rfl) (by kernel_rfl) (by kernel_rfl) (fun _ h => h.mask [true, true, false, false, true, true] rfl) gd_none rfl (val_load1 t1_3 (lk rfl) (cell_own (.tail _ (.tail _ (.head _))) fun _ => rfl)) ?_
  refine wa_take 3 rfl (by kernel_rfl) (by kernel_rfl) (by kernel_rfl) (by kernel_rfl) (fun _ h => h.mask [true, true, false, false, true, true] rfl) gd_none rfl (val_field fo_41_1 (lk rfl)) ?_
  refine wa_take 4 rfl (by kernel_rfl) (by kernel_rfl) (by kernel_rfl) (by kernel_rfl) (fun _ h => h.mask [true, true, false, false, true, true] rfl) gd_none rfl (val_load1 t1_3 (lk rfl) (cell_own (.tail _ (.tail _ (.head _))) fun _ => rfl)) ?_
  refine wa_take 5 rfl (by kernel_rfl) (by kernel_rfl) (by kernel_rfl) (by kernel_rfl) (fun _ h => h.mask [true, true, false, false, true, true] rfl) gd_none rfl (val_field fo_41_2 (lk rfl)) ?_
  refine wa_take 6 rfl (by kernel_rfl) (by kernel_rfl) (by kernel_rfl) (by kernel_rfl) (fun _ h => h.mask [true, true, false, false, true, true] rfl) gd_none rfl (val_load1 t1_3 (lk rfl) (cell_own (.tail _ (.tail _ (.head _))) fun _ => rfl)) ?_
  refine wa_take 7 rfl (by kernel_rfl) (by kernel_rfl) (by kernel_rfl) (by kernel_rfl) (fun _ h => h.mask [true, true, false, false, true, true] rfl) gd_none rfl (val_sub (lk rfl) (lk rfl)) ?_
  refine wa_take 8 rfl (by kernel_rfl) (by kernel_rfl) (by kernel_rfl) (by kernel_rfl) (fun _ h => h.mask [true, true, false, false, true, true] rfl) gd_none rfl (val_buildP (partsC (lk rfl) (partsC (lk rfl) parts0)) (bl_41_0_1 _ _)) ?_
  refine wa_only 9 (by kernel_rfl) rfl ?_
  refine wl_storeB 3 rfl (lk rfl) (lk rfl) ag_28 rfl rfl ?_
  refine wl_nil (px_qn (fun _ h => h.mask [true, true, false, false, true, true] rfl) ?_)
  refine wa_only 10 (by kernel_rfl) rfl ?_
  refine wl_storeB 2 rfl (lk rfl) (lk rfl) ag_41 rfl rfl ?_
  refine wl_nil (px_qn (fun _ h => h.mask [true, true, false, false, true, true] rfl) ?_)
  refine wa_done (by kernel_rfl) ?_
  refine px_then ?_
  refine wc_ret ?_
  refine fin2 rfl (res_cell rfl (.tail _ (.tail _ (.tail _ (.head _)))) ag_28) (res_cell rfl (.tail _ (.tail _ (.head _))) ag_41) (fun w1 hw => ?_)
  rw [repA, repQ, if_pos hmat, if_pos hmat]
  exact ⟨(gb21, gc21, gs21), ⟨hgl21, hgc21⟩, rfl, hw.mask [false, true, false, false, false, false] rfl⟩

theorem sRequest_c (a : Acc) (A : Option Addr) (b o c : Nat) (q : Quota) (n : Int) (w : World) (hs : Sl w A b o (flat encR a.res)) (hl : a.res.length ≤ 1048576) (hc : a.res.length ≤ c) :
    Calls Try.prog 28 #[a.val A c, q.val, .int .i64 n] w fun e w' => ∃ x : Nat × Nat × List Value, ((flat encR (reqA a q n).res ++ x.2.2).length = x.2.1 * 2 ∧ x.2.1 ≤ 9223372036854775807) ∧ e = .returned (.tuple #[(reqA a q n).val (some ⟨x.1, 0, none⟩) x.2.1, (reqQ a q n).val]) ∧ HP w [⟨x.1, true, 71, flat encR (reqA a q n).res ++ x.2.2⟩] w' := by
  refine calls_entry [] _ Try.func28 rfl Try.ntmps28 (HP.refl w) (env3 rfl) ?_
  refine wc_seq ?_
  refine wc_region ?_
  refine wl_box (lk rfl) rfl fun b1 => ?_
  refine wl_box (lk rfl) rfl fun b2 => ?_
  refine wl_alloc zc_28 rfl fun b3 => ?_
  refine wl_alloc zc_41 rfl fun b4 => ?_
  refine wl_nil ?_
  refine px_then ?_
  refine wc_seq ?_
  refine wc_region ?_
  refine wl_v rfl (val_loadB (.tail _ (.tail _ (.tail _ (.head _)))) (lk rfl) ag_28) ?_
  refine wl_v rfl (val_field fo_41_0 (lk rfl)) ?_
  refine wl_v rfl (val_load1 t1_3 (lk rfl) (cell_own (.tail _ (.tail _ (.head _))) fun _ => rfl)) ?_
  refine wl_v rfl (val_move (lk rfl)) ?_
  refine wl_callx rfl ci_22 (args3 (lk rfl) (lk rfl) (lk rfl)) (fun w1 hw => sReserve_c a _ _ _ _ q.sid n w1 (hs.hp hw rfl) hl hc) (fun _ => rfl) ?_
  rintro ⟨gb16, gc16, gs16⟩ ⟨hgl16, hgc16⟩
  refine wl_v rfl (val_move (lk rfl)) ?_
  refine wl_v rfl (val_extract (lk rfl) rfl) ?_
  refine wl_v rfl (val_extract (lk rfl) rfl) ?_
  refine wl_alloc zc_28 rfl fun b5 => ?_
  refine wl_storeB 0 rfl (lk rfl) (lk rfl) ag_28 rfl rfl ?_
  refine wl_v rfl (val_assign (lk rfl)) ?_
  refine wl_nil ?_
  refine px_then ?_
  refine wc_seq ?_
  refine wc_region ?_
  refine wl_v rfl (val_loadB (.tail _ (.tail _ (.tail _ (.tail _ (.head _))))) (lk rfl) ag_41) ?_
  refine wl_alloc zc_41 rfl fun b6 => ?_
  refine wl_storeB 0 rfl (lk rfl) (lk rfl) ag_41 rfl rfl ?_
  refine wl_nil ?_
  refine px_then ?_
  refine wc_seq ?_
  refine wc_region ?_
  refine wl_v rfl (val_field fo_41_1 (lk rfl)) ?_
  refine wl_v rfl (val_load1 t1_3 (lk rfl) (cell_own (.tail _ (.tail _ (.tail _ (.tail _ (.tail _ (.head _)))))) fun _ => rfl)) ?_
  refine wl_v rfl (val_move (lk rfl)) ?_
  refine wl_v rfl (val_add (lk rfl) (lk rfl)) ?_
  refine wl_v rfl (val_field fo_41_1 (lk rfl)) ?_
  refine wl_store1 0 rfl (lk rfl) (lk rfl) t1_3 rfl (rfl) ?_
  refine wl_nil ?_
  refine px_then ?_
  refine wc_seq ?_
  refine wc_seq ?_
  refine wc_region ?_
  refine wl_v rfl (val_loadB (.tail _ (.tail _ (.tail _ (.tail _ (.tail _ (.tail _ (.head _))))))) (lk rfl) ag_28) ?_
  refine wl_v rfl (val_loadB (.tail _ (.tail _ (.tail _ (.tail _ (.tail _ (.head _)))))) (lk rfl) ag_41) ?_
  refine wl_call gd_none rfl ci_65 (args2 (lk rfl) (lk rfl)) (fun hG w1 hw => sMatches_c a _ _ _ _ q w1 (hs.hp hw rfl) hl) ?_
  refine wl_v rfl (val_not (lk rfl)) ?_
  refine wl_v rfl (val_move (lk rfl)) ?_
  refine wl_val (gd_f rfl rfl rfl) rfl (val_loadB (.head _) (lk rfl) ag_41) ?_
  refine wl_call (gd_f rfl rfl rfl) rfl ci_35 (args1 (lkg rfl)) (fun hG w1 hw => sIsValidQuota_c (addQ a q n) w1) ?_
  refine wl_val (gd_f rfl rfl rfl) rfl (val_not (lkg rfl)) ?_
  refine wl_v rfl (val_or (lk rfl) (lkg rfl)) ?_
  refine wl_nil ?_
  refine px_then ?_
  refine wc_cond (lk rfl) (fun hc0 => ?_) (fun hc0 => ?_)
  · have hreq : (a.mat q && (addQ a q n).ok) = false := by
      have h9 : (!(a.mat q) || !(addQ a q n).ok) = true := hc0
      revert h9; cases a.mat q <;> cases (addQ a q n).ok <;> simp
    refine wc_seq ?_
    refine wc_region_am [true, true, true, false, false, true, true] 5 mo_ rfl ?_
    refine wa_take 0 rfl (by kernel_rfl) (by kernel_rfl) (by kernel_rfl) (by kernel_rfl) (fun _ h => h.mask [true, true, true, false, false, true, true] rfl) gd_none rfl (val_loadB (.tail _ (.tail _ (.tail _ (.tail _ (.head _))))) (lk rfl) ag_28) ?_
    refine wa_take 2 rfl (by kernel_rfl) (by kernel_rfl) (by kernel_rfl) (by kernel_rfl) (fun _ h => h.mask [true, true, true, false, false, true, true] rfl) gd_none rfl (val_loadB (.tail _ (.tail _ (.tail _ (.head _)))) (lk rfl) ag_41) ?_
    refine wa_only 1 (by kernel_rfl) rfl ?_
    refine wl_callx rfl ci_51 (args1 (lk rfl)) (fun w1 hw => sCopyAcc_c a _ _ _ _ w1 (hs.hp hw rfl) hl) (fun _ => rfl) ?_
    rintro ⟨gb35, gc35, gs35⟩ ⟨hgl35, hgc35⟩
    refine wl_nil (px_qn (fun _ h => h.mask [false, true, true, true, false, false, true, true] rfl) ?_)
    refine wa_only 3 (by kernel_rfl) rfl ?_
    refine wl_storeB 5 rfl (lk rfl) (lk rfl) ag_28 rfl rfl ?_
    refine wl_nil (px_qn (fun _ h => h.mask [false, true, true, true, false, false, true, true] rfl) ?_)
    refine wa_only 4 (by kernel_rfl) rfl ?_
    refine wl_storeB 4 rfl (lk rfl) (lk rfl) ag_41 rfl rfl ?_
    refine wl_nil (px_qn (fun _ h => h.mask [false, true, true, true, false, false, true, true] rfl) ?_)
    refine wa_done (by kernel_rfl) ?_
    refine px_then ?_
    refine wc_ret ?_
    refine px_then_ret ?_
    refine fin2 rfl (res_cell rfl (.tail _ (.tail _ (.tail _ (.tail _ (.tail _ (.head _)))))) ag_28) (res_cell rfl (.tail _ (.tail _ (.tail _ (.tail _ (.head _))))) ag_41) (fun w1 hw => ?_)
    rw [reqA, reqQ, if_neg (by rw [hreq]; decide), if_neg (by rw [hreq]; decide)]
    exact ⟨(gb35, gc35, gs35), ⟨hgl35, hgc35⟩, rfl, hw.mask [true, false, false, false, false, false, false, false] rfl⟩
  have hreq : (a.mat q && (addQ a q n).ok) = true := by
    have h9 : (!(a.mat q) || !(addQ a q n).ok) = false := hc0
    revert h9; cases a.mat q <;> cases (addQ a q n).ok <;> simp
  refine wc_skip ?_
  refine px_then ?_
  refine wc_seq ?_
  refine wc_region_am [true, true, true, false, false, true, true] 4 mo_ rfl ?_
  refine wa_take 0 rfl (by kernel_rfl) (by kernel_rfl) (by kernel_rfl) (by kernel_rfl) (fun _ h => h.mask [true, true, true, false, false, true, true] rfl) gd_none rfl (val_loadB (.tail _ (.head _)) (lk rfl) ag_28) ?_
  refine wa_take 1 rfl (by kernel_rfl) (by kernel_rfl) (by kernel_rfl) (by kernel_rfl) (fun _ h => h.mask [true, true, true, false, false, true, true] rfl) gd_none rfl (val_loadB (.head _) (lk rfl) ag_41) ?_
  refine wa_only 2 (by kernel_rfl) rfl ?_
  refine wl_storeB 4 rfl (lk rfl) (lk rfl) ag_28 rfl rfl ?_
  refine wl_nil (px_qn (fun _ h => h.mask [true, true, true, false, false, true, true] rfl) ?_)
  refine wa_only 3 (by kernel_rfl) rfl ?_
  refine wl_storeB 3 rfl (lk rfl) (lk rfl) ag_41 rfl rfl ?_
  refine wl_nil (px_qn (fun _ h => h.mask [true, true, true, false, false, true, true] rfl) ?_)
  refine wa_done (by kernel_rfl) ?_
  refine px_then ?_
  refine wc_ret ?_
  refine fin2 rfl (res_cell rfl (.tail _ (.tail _ (.tail _ (.tail _ (.head _))))) ag_28) (res_cell rfl (.tail _ (.tail _ (.tail _ (.head _)))) ag_41) (fun w1 hw => ?_)
  rw [reqA, reqQ, if_pos hreq, if_pos hreq]
  exact ⟨(gb16, gc16, gs16), ⟨hgl16, hgc16⟩, rfl, hw.mask [false, false, true, false, false, false, false] rfl⟩

theorem sClose_c (a : Acc) (A : Option Addr) (b o c : Nat) (q : Quota) (w : World) (hs : Sl w A b o (flat encR a.res)) (hl : a.res.length ≤ 1048576) (hc : a.res.length ≤ c) :
    Calls Try.prog 30 #[a.val A c, q.val] w fun e w' => ∃ x : Nat × Nat × List Value, ((flat encR (cloA a q).res ++ x.2.2).length = x.2.1 * 2 ∧ x.2.1 ≤ 9223372036854775807) ∧ e = .returned ((cloA a q).val (some ⟨x.1, 0, none⟩) x.2.1) ∧ HP w [⟨x.1, true, 71, flat encR (cloA a q).res ++ x.2.2⟩] w' := by
  refine calls_entry [] _ Try.func30 rfl Try.ntmps30 (HP.refl w) (env2 rfl) ?_
  refine wc_seq ?_
  refine wc_region ?_
  refine wl_box (lk rfl) rfl fun b1 => ?_
  refine wl_box (lk rfl) rfl fun b2 => ?_
  refine wl_alloc zc_28 rfl fun b3 => ?_
  refine wl_nil ?_
  refine px_then ?_
  refine wc_seq ?_
  refine wc_seq ?_
  refine wc_region ?_
  refine wl_v rfl (val_loadB (.tail _ (.tail _ (.head _))) (lk rfl) ag_28) ?_
  refine wl_v rfl (val_loadB (.tail _ (.head _)) (lk rfl) ag_41) ?_
  refine wl_call gd_none rfl ci_65 (args2 (lk rfl) (lk rfl)) (fun hG w1 hw => sMatches_c a _ _ _ _ q w1 (hs.hp hw rfl) hl) ?_
  refine wl_v rfl (val_not (lk rfl)) ?_
  refine wl_nil ?_
  refine px_then ?_
  refine wc_cond (lk rfl) (fun hc0 => ?_) (fun hc0 => ?_)
  · have hmat : a.mat q = false := by have h9 : (!(a.mat q)) = true := hc0; simpa using h9
    refine wc_seq ?_
    refine wc_region ?_
    refine wl_v rfl (val_loadB (.tail _ (.tail _ (.head _))) (lk rfl) ag_28) ?_
    refine wl_callx rfl ci_51 (args1 (lk rfl)) (fun w1 hw => sCopyAcc_c a _ _ _ _ w1 (hs.hp hw rfl) hl) (fun _ => rfl) ?_
    rintro ⟨gb12, gc12, gs12⟩ ⟨hgl12, hgc12⟩
    refine wl_storeB 1 rfl (lk rfl) (lk rfl) ag_28 rfl rfl ?_
    refine wl_nil ?_
    refine px_then ?_
    refine wc_ret ?_
    refine px_then_ret ?_
    refine fin1 rfl (res_cell rfl (.tail _ (.head _)) ag_28) (fun w1 hw => ?_)
    rw [cloA, if_neg (by rw [hmat]; decide)]
    exact ⟨(gb12, gc12, gs12), ⟨hgl12, hgc12⟩, rfl, hw.mask [true, false, false, false] rfl⟩
  have hmat : a.mat q = true := by have h9 : (!(a.mat q)) = false := hc0; simpa using h9
  refine wc_skip ?_
  refine px_then ?_
  refine wc_seq ?_
  refine wc_region ?_
  refine wl_v rfl (val_loadB (.tail _ (.tail _ (.head _))) (lk rfl) ag_28) ?_
  refine wl_v rfl (val_loadB (.tail _ (.head _)) (lk rfl) ag_41) ?_
  refine wl_callx rfl ci_24 (args2 (lk rfl) (lk rfl)) (fun w1 hw => sReport_c a _ _ _ _ q w1 (hs.hp hw rfl) hl hc) (fun _ => rfl) ?_
  rintro ⟨gb16, gc16, gs16⟩ ⟨hgl16, hgc16⟩
  refine wl_v rfl (val_move (lk rfl)) ?_
  refine wl_v rfl (val_extract (lk rfl) rfl) ?_
  refine wl_v rfl (val_extract (lk rfl) rfl) ?_
  refine wl_alloc zc_28 rfl fun b4 => ?_
  refine wl_alloc zc_41 rfl fun b5 => ?_
  refine wl_storeB 1 rfl (lk rfl) (lk rfl) ag_28 rfl rfl ?_
  refine wl_storeB 0 rfl (lk rfl) (lk rfl) ag_41 rfl rfl ?_
  refine wl_nil ?_
  refine px_then ?_
  refine wc_seq ?_
  refine wc_region ?_
  refine wl_v rfl (val_loadB (.tail _ (.head _)) (lk rfl) ag_28) ?_
  refine wl_v rfl (val_field fo_41_0 (lk rfl)) ?_
  refine wl_v rfl (val_load1 t1_3 (lk rfl) (cell_own (.tail _ (.tail _ (.tail _ (.tail _ (.head _))))) fun _ => rfl)) ?_
  refine wl_callx rfl ci_14 (args2 (lk rfl) (lk rfl)) (fun w1 hw => sRelease_c (repA a q) _ _ _ _ q.sid w1 (Sl.own hw (.tail _ (.tail _ (.head _)))) (Nat.le_trans (rep_len a q) hl) (cap_le encR_len (by decide) hgl16)) (fun _ => rfl) ?_
  rintro ⟨gb22, gc22, gs22⟩ ⟨hgl22, hgc22⟩
  refine wl_storeB 4 rfl (lk rfl) (lk rfl) ag_28 rfl rfl ?_
  refine wl_nil ?_
  refine px_then ?_
  refine wc_ret ?_
  refine fin1 rfl (res_cell rfl (.tail _ (.tail _ (.tail _ (.tail _ (.head _))))) ag_28) (fun w1 hw => ?_)
  rw [cloA, if_pos hmat]
  exact ⟨(gb22, gc22, gs22), ⟨hgl22, hgc22⟩, rfl, hw.mask [true, false, false, false, false, false, false] rfl⟩

theorem Report_c (a : Acc) (A : Option Addr) (b o c : Nat) (q : Quota) (w : World) (hs : Sl w A b o (flat encR a.res)) (hl : a.res.length ≤ 1048576) :
    Calls Try.prog 26 #[a.val A c, q.val] w fun e w' => ∃ x : Nat × Nat × List Value, ((flat encR (repA a q).res ++ x.2.2).length = x.2.1 * 2 ∧ x.2.1 ≤ 9223372036854775807) ∧ e = .returned (.tuple #[(repA a q).val (some ⟨x.1, 0, none⟩) x.2.1, (repQ a q).val]) ∧ HP w [⟨x.1, true, 71, flat encR (repA a q).res ++ x.2.2⟩] w' := by
  refine calls_entry [] _ Try.func26 rfl Try.ntmps26 (HP.refl w) (env2 rfl) ?_
  refine wc_seq ?_
  refine wc_region ?_
  refine wl_box (lk rfl) rfl fun b1 => ?_
  refine wl_box (lk rfl) rfl fun b2 => ?_
  refine wl_alloc zc_28 rfl fun b3 => ?_
  refine wl_alloc zc_41 rfl fun b4 => ?_
  refine wl_nil ?_
  refine px_then ?_
  refine wc_seq ?_
  refine wc_seq ?_
  refine wc_region ?_
  refine wl_v rfl (val_loadB (.tail _ (.tail _ (.tail _ (.head _)))) (lk rfl) ag_28) ?_
  refine wl_v rfl (val_loadB (.tail _ (.tail _ (.head _))) (lk rfl) ag_41) ?_
  refine wl_call gd_none rfl ci_41 (args2 (lk rfl) (lk rfl)) (fun hG w1 hw => Matches_c a _ _ _ _ q w1 (hs.hp hw rfl) hl) ?_
  refine wl_v rfl (val_not (lk rfl)) ?_
  refine wl_nil ?_
  refine px_then ?_
  refine wc_cond (lk rfl) (fun hc0 => ?_) (fun hc0 => ?_)
  · have hmat : a.mat q = false := by have h9 : (!(a.mat q)) = true := hc0; simpa using h9
    refine wc_seq ?_
    refine wc_region_am [false, false, true, true] 5 mo_ rfl ?_
    refine wa_take 0 rfl (by kernel_rfl) (by kernel_rfl) (by kernel_rfl) (by kernel_rfl) (fun _ h => h.mask [false, false, true, true] rfl) gd_none rfl (val_loadB (.tail _ (.head _)) (lk rfl) ag_28) ?_
    refine wa_take 2 rfl (by kernel_rfl) (by kernel_rfl) (by kernel_rfl) (by kernel_rfl) (fun _ h => h.mask [false, false, true, true] rfl) gd_none rfl (val_loadB (.head _) (lk rfl) ag_41) ?_
    refine wa_only 1 (by kernel_rfl) rfl ?_
    refine wl_callx rfl ci_55 (args1 (lk rfl)) (fun w1 hw => copyAcc_c a _ _ _ _ w1 (hs.hp hw rfl) hl) (fun _ => rfl) ?_
    rintro ⟨gb13, gc13, gs13⟩ ⟨hgl13, hgc13⟩
    refine wl_nil (px_qn (fun _ h => h.mask [false, false, false, true, true] rfl) ?_)
    refine wa_only 3 (by kernel_rfl) rfl ?_
    refine wl_storeB 2 rfl (lk rfl) (lk rfl) ag_28 rfl rfl ?_
    refine wl_nil (px_qn (fun _ h => h.mask [false, false, false, true, true] rfl) ?_)
    refine wa_only 4 (by kernel_rfl) rfl ?_
    refine wl_storeB 1 rfl (lk rfl) (lk rfl) ag_41 rfl rfl ?_
    refine wl_nil (px_qn (fun _ h => h.mask [false, false, false, true, true] rfl) ?_)
    refine wa_done (by kernel_rfl) ?_
    refine px_then ?_
    refine wc_ret ?_
    refine px_then_ret ?_
    refine fin2 rfl (res_cell rfl (.tail _ (.tail _ (.head _))) ag_28) (res_cell rfl (.tail _ (.head _)) ag_41) (fun w1 hw => ?_)
    rw [repA, repQ, if_neg (by rw [hmat]; decide), if_neg (by rw [hmat]; decide)]
    exact ⟨(gb13, gc13, gs13), ⟨hgl13, hgc13⟩, rfl, hw.mask [true, false, false, false, false] rfl⟩
  have hmat : a.mat q = true := by have h9 : (!(a.mat q)) = false := hc0; simpa using h9
  refine wc_skip ?_
  refine px_then ?_
  refine wc_seq ?_
  refine wc_region ?_
  refine wl_v rfl (val_loadB (.tail _ (.tail _ (.tail _ (.head _)))) (lk rfl) ag_28) ?_
  refine wl_v rfl (val_field fo_41_0 (lk rfl)) ?_
  refine wl_v rfl (val_load1 t1_3 (lk rfl) (cell_own (.tail _ (.tail _ (.head _))) fun _ => rfl)) ?_
  refine wl_v rfl (val_field fo_41_2 (lk rfl)) ?_
  refine wl_v rfl (val_load1 t1_3 (lk rfl) (cell_own (.tail _ (.tail _ (.head _))) fun _ => rfl)) ?_
  refine wl_callx rfl ci_21 (args3 (lk rfl) (lk rfl) (lk rfl)) (fun w1 hw => Debit_c a _ _ _ _ q.sid q.used w1 (hs.hp hw rfl) hl) (fun _ => rfl) ?_
  rintro ⟨gb21, gc21, gs21⟩ ⟨hgl21, hgc21⟩
  refine wl_v rfl (val_move (lk rfl)) ?_
  refine wl_v rfl (val_extract (lk rfl) rfl) ?_
  refine wl_v rfl (val_extract (lk rfl) rfl) ?_
  refine wl_alloc zc_28 rfl fun b5 => ?_
  refine wl_storeB 0 rfl (lk rfl) (lk rfl) ag_28 rfl rfl ?_
  refine wl_v rfl (val_assign (lk rfl)) ?_
  refine wl_nil ?_
  refine px_then ?_
  refine wc_seq ?_
  refine wc_seq ?_
  refine wc_region ?_
  refine wl_v rfl (val_move (lk rfl)) ?_
  refine wl_v rfl (val_not (lk rfl)) ?_
  refine wl_nil ?_
  refine px_then ?_
  refine wc_cond (lk rfl) (fun hc1 => ?_) (fun hc1 => ?_)
  · (exfalso; rw [mat_may hmat] at hc1; simp at hc1)
  refine wc_skip ?_
  refine px_then ?_
  refine wc_seq ?_
  refine wc_region ?_
  refine wl_v rfl (val_field fo_41_1 (lk rfl)) ?_
  refine wl_v rfl (val_load1 t1_3 (lk rfl) (cell_own (.tail _ (.tail _ (.tail _ (.tail _ (.head _))))) fun _ => rfl)) ?_
  refine wl_v rfl (val_field fo_41_2 (lk rfl)) ?_
  refine wl_v rfl (val_load1 t1_3 (lk rfl) (cell_own (.tail _ (.tail _ (.tail _ (.tail _ (.head _))))) fun _ => rfl)) ?_
  refine wl_v rfl (val_sub (lk rfl) (lk rfl)) ?_
  refine wl_v rfl (val_field fo_41_1 (lk rfl)) ?_
  refine wl_store1 4 rfl (lk rfl) (lk rfl) t1_3 rfl (rfl) ?_
  refine wl_nil ?_
  refine px_then ?_
  refine wc_seq ?_
  refine wc_region ?_
  refine wl_v rfl (val_field fo_41_2 (lk rfl)) ?_
  refine wl_store1 4 rfl (lk rfl) lkc t1_3 rfl (rfl) ?_
  refine wl_nil ?_
  refine px_then ?_
  refine wc_seq ?_
  refine wc_region_am [true, true, false, false, true, true] 4 mo_ rfl ?_
  refine wa_take 0 rfl (by kernel_rfl) (by kernel_rfl) (by kernel_rfl) (by kernel_rfl) (fun _ h => h.mask [true, true, false, false, true, true] rfl) gd_none rfl (val_loadB (.head _) (lk rfl) ag_28) ?_
  refine wa_take 1 rfl (by kernel_rfl) (by kernel_rfl) (by kernel_rfl) (by kernel_rfl) (fun _ h => h.mask [true, true, false, false, true, true] rfl) gd_none rfl (val_loadB (.tail _ (.tail _ (.head _))) (lk rfl) ag_41) ?_
  refine wa_only 2 (by kernel_rfl) rfl ?_
  refine wl_storeB 3 rfl (lk rfl) (lk rfl) ag_28 rfl rfl ?_
  refine wl_nil (px_qn (fun _ h => h.mask [true, true, false, false, true, true] rfl) ?_)
  refine wa_only 3 (by kernel_rfl) rfl ?_
  refine wl_storeB 2 rfl (lk rfl) (lk rfl) ag_41 rfl rfl ?_
  refine wl_nil (px_qn (fun _ h => h.mask [true, true, false, false, true, true] rfl) ?_)
  refine wa_done (by kernel_rfl) ?_
  refine px_then ?_
  refine wc_ret ?_
  refine fin2 rfl (res_cell rfl (.tail _ (.tail _ (.tail _ (.head _)))) ag_28) (res_cell rfl (.tail _ (.tail _ (.head _))) ag_41) (fun w1 hw => ?_)
  rw [repA, repQ, if_pos hmat, if_pos hmat]
  exact ⟨(gb21, gc21, gs21), ⟨hgl21, hgc21⟩, rfl, hw.mask [false, true, false, false, false, false] rfl⟩

theorem Request_c (a : Acc) (A : Option Addr) (b o c : Nat) (q : Quota) (n : Int) (w : World) (hs : Sl w A b o (flat encR a.res)) (hl : a.res.length ≤ 1048576) :
    Calls Try.prog 29 #[a.val A c, q.val, .int .i64 n] w fun e w' => ∃ x : Nat × Nat × List Value, ((flat encR (reqA a q n).res ++ x.2.2).length = x.2.1 * 2 ∧ x.2.1 ≤ 9223372036854775807) ∧ e = .returned (.tuple #[(reqA a q n).val (some ⟨x.1, 0, none⟩) x.2.1, (reqQ a q n).val]) ∧ HP w [⟨x.1, true, 71, flat encR (reqA a q n).res ++ x.2.2⟩] w' := by
  refine calls_entry [] _ Try.func29 rfl Try.ntmps29 (HP.refl w) (env3 rfl) ?_
  refine wc_seq ?_
  refine wc_region ?_
  refine wl_box (lk rfl) rfl fun b1 => ?_
  refine wl_box (lk rfl) rfl fun b2 => ?_
  refine wl_alloc zc_28 rfl fun b3 => ?_
  refine wl_alloc zc_41 rfl fun b4 => ?_
  refine wl_nil ?_
  refine px_then ?_
  refine wc_seq ?_
  refine wc_seq ?_
  refine wc_region ?_
  refine wl_v rfl (val_loadB (.tail _ (.tail _ (.tail _ (.head _)))) (lk rfl) ag_28) ?_
  refine wl_v rfl (val_loadB (.tail _ (.tail _ (.head _))) (lk rfl) ag_41) ?_
  refine wl_call gd_none rfl ci_41 (args2 (lk rfl) (lk rfl)) (fun hG w1 hw => Matches_c a _ _ _ _ q w1 (hs.hp hw rfl) hl) ?_
  refine wl_v rfl (val_not (lk rfl)) ?_
  refine wl_nil ?_
  refine px_then ?_
  refine wc_cond (lk rfl) (fun hc0 => ?_) (fun hc0 => ?_)
  · have hmat : a.mat q = false := by have h9 : (!(a.mat q)) = true := hc0; simpa using h9
    have hreq : (a.mat q && (addQ a q n).ok) = false := by rw [hmat]; rfl
    refine wc_seq ?_
    refine wc_region_am [false, false, true, true] 5 mo_ rfl ?_
    refine wa_take 0 rfl (by kernel_rfl) (by kernel_rfl) (by kernel_rfl) (by kernel_rfl) (fun _ h => h.mask [false, false, true, true] rfl) gd_none rfl (val_loadB (.tail _ (.head _)) (lk rfl) ag_28) ?_
    refine wa_take 2 rfl (by kernel_rfl) (by kernel_rfl) (by kernel_rfl) (by kernel_rfl) (fun _ h => h.mask [false, false, true, true] rfl) gd_none rfl (val_loadB (.head _) (lk rfl) ag_41) ?_
    refine wa_only 1 (by kernel_rfl) rfl ?_
    refine wl_callx rfl ci_55 (args1 (lk rfl)) (fun w1 hw => copyAcc_c a _ _ _ _ w1 (hs.hp hw rfl) hl) (fun _ => rfl) ?_
    rintro ⟨gb15, gc15, gs15⟩ ⟨hgl15, hgc15⟩
    refine wl_nil (px_qn (fun _ h => h.mask [false, false, false, true, true] rfl) ?_)
    refine wa_only 3 (by kernel_rfl) rfl ?_
    refine wl_storeB 2 rfl (lk rfl) (lk rfl) ag_28 rfl rfl ?_
    refine wl_nil (px_qn (fun _ h => h.mask [false, false, false, true, true] rfl) ?_)
    refine wa_only 4 (by kernel_rfl) rfl ?_
    refine wl_storeB 1 rfl (lk rfl) (lk rfl) ag_41 rfl rfl ?_
    refine wl_nil (px_qn (fun _ h => h.mask [false, false, false, true, true] rfl) ?_)
    refine wa_done (by kernel_rfl) ?_
    refine px_then ?_
    refine wc_ret ?_
    refine px_then_ret ?_
    refine fin2 rfl (res_cell rfl (.tail _ (.tail _ (.head _))) ag_28) (res_cell rfl (.tail _ (.head _)) ag_41) (fun w1 hw => ?_)
    rw [reqA, reqQ, if_neg (by rw [hreq]; decide), if_neg (by rw [hreq]; decide)]
    exact ⟨(gb15, gc15, gs15), ⟨hgl15, hgc15⟩, rfl, hw.mask [true, false, false, false, false] rfl⟩
  have hmat : a.mat q = true := by have h9 : (!(a.mat q)) = false := hc0; simpa using h9
  refine wc_skip ?_
  refine px_then ?_
  refine wc_seq ?_
  refine wc_region ?_
  refine wl_v rfl (val_loadB (.tail _ (.tail _ (.tail _ (.head _)))) (lk rfl) ag_28) ?_
  refine wl_v rfl (val_field fo_41_0 (lk rfl)) ?_
  refine wl_v rfl (val_load1 t1_3 (lk rfl) (cell_own (.tail _ (.tail _ (.head _))) fun _ => rfl)) ?_
  refine wl_v rfl (val_move (lk rfl)) ?_
  refine wl_callx rfl ci_23 (args3 (lk rfl) (lk rfl) (lk rfl)) (fun w1 hw => Reserve_c a _ _ _ _ q.sid n w1 (hs.hp hw rfl) hl) (fun _ => rfl) ?_
  rintro ⟨gb22, gc22, gs22⟩ ⟨hgl22, hgc22⟩
  refine wl_v rfl (val_move (lk rfl)) ?_
  refine wl_v rfl (val_extract (lk rfl) rfl) ?_
  refine wl_v rfl (val_extract (lk rfl) rfl) ?_
  refine wl_alloc zc_28 rfl fun b5 => ?_
  refine wl_storeB 0 rfl (lk rfl) (lk rfl) ag_28 rfl rfl ?_
  refine wl_v rfl (val_assign (lk rfl)) ?_
  refine wl_nil ?_
  refine px_then ?_
  refine wc_seq ?_
  refine wc_seq ?_
  refine wc_region ?_
  refine wl_v rfl (val_field fo_41_1 (lk rfl)) ?_
  refine wl_v rfl (val_load1 t1_3 (lk rfl) (cell_own (.tail _ (.tail _ (.tail _ (.tail _ (.head _))))) fun _ => rfl)) ?_
  refine wl_v rfl (val_move (lk rfl)) ?_
  refine wl_v rfl (val_add (lk rfl) (lk rfl)) ?_
  refine wl_v rfl (val_gtr (lk rfl) lkc) ?_
  refine wl_nil ?_
  refine px_then ?_
  refine wc_cond (lk rfl) (fun hc1 => ?_) (fun hc1 => ?_)
  · have hreq : (a.mat q && (addQ a q n).ok) = false := by rw [addQ_ok hmat, hc1, hmat]; rfl
    refine wc_seq ?_
    refine wc_region_am [true, true, false, false, true, true] 5 mo_ rfl ?_
    refine wa_take 0 rfl (by kernel_rfl) (by kernel_rfl) (by kernel_rfl) (by kernel_rfl) (fun _ h => h.mask [true, true, false, false, true, true] rfl) gd_none rfl (val_loadB (.tail _ (.tail _ (.tail _ (.head _)))) (lk rfl) ag_28) ?_
    refine wa_take 2 rfl (by kernel_rfl) (by kernel_rfl) (by kernel_rfl) (by kernel_rfl) (fun _ h => h.mask [true, true, false, false, true, true] rfl) gd_none rfl (val_loadB (.tail _ (.tail _ (.head _))) (lk rfl) ag_41) ?_
    refine wa_only 1 (by kernel_rfl) rfl ?_
    refine wl_callx rfl ci_55 (args1 (lk rfl)) (fun w1 hw => copyAcc_c a _ _ _ _ w1 (hs.hp hw rfl) hl) (fun _ => rfl) ?_
    rintro ⟨gb31, gc31, gs31⟩ ⟨hgl31, hgc31⟩
    refine wl_nil (px_qn (fun _ h => h.mask [false, true, true, false, false, true, true] rfl) ?_)
    refine wa_only 3 (by kernel_rfl) rfl ?_
    refine wl_storeB 4 rfl (lk rfl) (lk rfl) ag_28 rfl rfl ?_
    refine wl_nil (px_qn (fun _ h => h.mask [false, true, true, false, false, true, true] rfl) ?_)
    refine wa_only 4 (by kernel_rfl) rfl ?_
    refine wl_storeB 3 rfl (lk rfl) (lk rfl) ag_41 rfl rfl ?_
    refine wl_nil (px_qn (fun _ h => h.mask [false, true, true, false, false, true, true] rfl) ?_)
    refine wa_done (by kernel_rfl) ?_
    refine px_then ?_
    refine wc_ret ?_
    refine px_then_ret ?_
    refine fin2 rfl (res_cell rfl (.tail _ (.tail _ (.tail _ (.tail _ (.head _))))) ag_28) (res_cell rfl (.tail _ (.tail _ (.tail _ (.head _)))) ag_41) (fun w1 hw => ?_)
    rw [reqA, reqQ, if_neg (by rw [hreq]; decide), if_neg (by rw [hreq]; decide)]
    exact ⟨(gb31, gc31, gs31), ⟨hgl31, hgc31⟩, rfl, hw.mask [true, false, false, false, false, false, false] rfl⟩
  have hreq : (a.mat q && (addQ a q n).ok) = true := by rw [addQ_ok hmat, hc1, hmat]; rfl
  refine wc_skip ?_
  refine px_then ?_
  refine wc_seq ?_
  refine wc_region ?_
  refine wl_v rfl (val_field fo_41_1 (lk rfl)) ?_
  refine wl_v rfl (val_load1 t1_3 (lk rfl) (cell_own (.tail _ (.tail _ (.tail _ (.tail _ (.head _))))) fun _ => rfl)) ?_
  refine wl_v rfl (val_move (lk rfl)) ?_
  refine wl_v rfl (val_add (lk rfl) (lk rfl)) ?_
  refine wl_v rfl (val_field fo_41_1 (lk rfl)) ?_
  refine wl_store1 4 rfl (lk rfl) (lk rfl) t1_3 rfl (rfl) ?_
  refine wl_nil ?_
  refine px_then ?_
  refine wc_seq ?_
  refine wc_region_am [true, true, false, false, true, true] 4 mo_ rfl ?_
  refine wa_take 0 rfl (by kernel_rfl) (by kernel_rfl) (by kernel_rfl) (by kernel_rfl) (fun _ h => h.mask [true, true, false, false, true, true] rfl) gd_none rfl (val_loadB (.head _) (lk rfl) ag_28) ?_
  refine wa_take 1 rfl (by kernel_rfl) (by kernel_rfl) (by kernel_rfl) (by kernel_rfl) (fun _ h => h.mask [true, true, false, false, true, true] rfl) gd_none rfl (val_loadB (.tail _ (.tail _ (.head _))) (lk rfl) ag_41) ?_
  refine wa_only 2 (by kernel_rfl) rfl ?_
  refine wl_storeB 3 rfl (lk rfl) (lk rfl) ag_28 rfl rfl ?_
  refine wl_nil (px_qn (fun _ h => h.mask [true, true, false, false, true, true] rfl) ?_)
  refine wa_only 3 (by kernel_rfl) rfl ?_
  refine wl_storeB 2 rfl (lk rfl) (lk rfl) ag_41 rfl rfl ?_
  refine wl_nil (px_qn (fun _ h => h.mask [true, true, false, false, true, true] rfl) ?_)
  refine wa_done (by kernel_rfl) ?_
  refine px_then ?_
  refine wc_ret ?_
  refine fin2 rfl (res_cell rfl (.tail _ (.tail _ (.tail _ (.head _)))) ag_28) (res_cell rfl (.tail _ (.tail _ (.head _))) ag_41) (fun w1 hw => ?_)
  rw [reqA, reqQ, if_pos hreq, if_pos hreq]
  exact ⟨(gb22, gc22, gs22), ⟨hgl22, hgc22⟩, rfl, hw.mask [false, true, false, false, false, false] rfl⟩

theorem Close_c (a : Acc) (A : Option Addr) (b o c : Nat) (q : Quota) (w : World) (hs : Sl w A b o (flat encR a.res)) (hl : a.res.length ≤ 1048576) :
    Calls Try.prog 31 #[a.val A c, q.val] w fun e w' => ∃ x : Nat × Nat × List Value, ((flat encR (cloA a q).res ++ x.2.2).length = x.2.1 * 2 ∧ x.2.1 ≤ 9223372036854775807) ∧ e = .returned ((cloA a q).val (some ⟨x.1, 0, none⟩) x.2.1) ∧ HP w [⟨x.1, true, 71, flat encR (cloA a q).res ++ x.2.2⟩] w' := by
  refine calls_entry [] _ Try.func31 rfl Try.ntmps31 (HP.refl w) (env2 rfl) ?_
  refine wc_seq ?_
  refine wc_region ?_
  refine wl_box (lk rfl) rfl fun b1 => ?_
  refine wl_box (lk rfl) rfl fun b2 => ?_
  refine wl_alloc zc_28 rfl fun b3 => ?_
  refine wl_nil ?_
  refine px_then ?_
  refine wc_seq ?_
  refine wc_seq ?_
  refine wc_region ?_
  refine wl_v rfl (val_loadB (.tail _ (.tail _ (.head _))) (lk rfl) ag_28) ?_
  refine wl_v rfl (val_loadB (.tail _ (.head _)) (lk rfl) ag_41) ?_
  refine wl_call gd_none rfl ci_41 (args2 (lk rfl) (lk rfl)) (fun hG w1 hw => Matches_c a _ _ _ _ q w1 (hs.hp hw rfl) hl) ?_
  refine wl_v rfl (val_not (lk rfl)) ?_
  refine wl_nil ?_
  refine px_then ?_
  refine wc_cond (lk rfl) (fun hc0 => ?_) (fun hc0 => ?_)
  · have hmat : a.mat q = false := by have h9 : (!(a.mat q)) = true := hc0; simpa using h9
    refine wc_seq ?_
    refine wc_region ?_
    refine wl_v rfl (val_loadB (.tail _ (.tail _ (.head _))) (lk rfl) ag_28) ?_
    refine wl_callx rfl ci_55 (args1 (lk rfl)) (fun w1 hw => copyAcc_c a _ _ _ _ w1 (hs.hp hw rfl) hl) (fun _ => rfl) ?_
    rintro ⟨gb12, gc12, gs12⟩ ⟨hgl12, hgc12⟩
    refine wl_storeB 1 rfl (lk rfl) (lk rfl) ag_28 rfl rfl ?_
    refine wl_nil ?_
    refine px_then ?_
    refine wc_ret ?_
    refine px_then_ret ?_
    refine fin1 rfl (res_cell rfl (.tail _ (.head _)) ag_28) (fun w1 hw => ?_)
    rw [cloA, if_neg (by rw [hmat]; decide)]
    exact ⟨(gb12, gc12, gs12), ⟨hgl12, hgc12⟩, rfl, hw.mask [true, false, false, false] rfl⟩
  have hmat : a.mat q = true := by have h9 : (!(a.mat q)) = false := hc0; simpa using h9
  refine wc_skip ?_
  refine px_then ?_
  refine wc_seq ?_
  refine wc_region ?_
  refine wl_v rfl (val_loadB (.tail _ (.tail _ (.head _))) (lk rfl) ag_28) ?_
  refine wl_v rfl (val_loadB (.tail _ (.head _)) (lk rfl) ag_41) ?_
  refine wl_callx rfl ci_26 (args2 (lk rfl) (lk rfl)) (fun w1 hw => Report_c a _ _ _ _ q w1 (hs.hp hw rfl) hl) (fun _ => rfl) ?_
  rintro ⟨gb16, gc16, gs16⟩ ⟨hgl16, hgc16⟩
  refine wl_v rfl (val_move (lk rfl)) ?_
  refine wl_v rfl (val_extract (lk rfl) rfl) ?_
  refine wl_v rfl (val_extract (lk rfl) rfl) ?_
  refine wl_alloc zc_28 rfl fun b4 => ?_
  refine wl_alloc zc_41 rfl fun b5 => ?_
  refine wl_storeB 1 rfl (lk rfl) (lk rfl) ag_28 rfl rfl ?_
  refine wl_storeB 0 rfl (lk rfl) (lk rfl) ag_41 rfl rfl ?_
  refine wl_nil ?_
  refine px_then ?_
  refine wc_seq ?_
  refine wc_region ?_
  refine wl_v rfl (val_loadB (.tail _ (.head _)) (lk rfl) ag_28) ?_
  refine wl_v rfl (val_field fo_41_0 (lk rfl)) ?_
  refine wl_v rfl (val_load1 t1_3 (lk rfl) (cell_own (.head _) fun _ => rfl)) ?_
  refine wl_callx rfl ci_16 (args2 (lk rfl) (lk rfl)) (fun w1 hw => Release_c (repA a q) _ _ _ _ (repQ a q).sid w1 (Sl.own hw (.tail _ (.tail _ (.head _)))) (Nat.le_trans (rep_len a q) hl)) (fun _ => rfl) ?_
  rintro ⟨gb22, gc22, gs22⟩ ⟨hgl22, hgc22⟩
  refine wl_storeB 4 rfl (lk rfl) (lk rfl) ag_28 rfl rfl ?_
  refine wl_nil ?_
  refine px_then ?_
  refine wc_ret ?_
  refine fin1 rfl (res_cell rfl (.tail _ (.tail _ (.tail _ (.tail _ (.head _))))) ag_28) (fun w1 hw => ?_)
  rw [cloA, if_pos hmat]
  rw [repQ_sid] at hgl22 hw
  exact ⟨(gb22, gc22, gs22), ⟨hgl22, hgc22⟩, by simp only [repQ_sid]; rfl, hw.mask [true, false, false, false, false, false, false] rfl⟩

end Go.Proofs.Ytdiojflamjppmaa
