/- Drawn token buckets, walked. -/
import Derived.Test.YtbnblhpdogcmkaaSxN
namespace Go.Proofs.Ytbnblhpdogcmkaa
open Go.RowKit


structure DB where
  q : Bk
  m : Nat
  i : Nat
  h : Int

theorem l14Draw_c (A : Option Addr) (n b o c cb i : Nat) (h : Int) (w : World) (hk : Code w A n b o cb) (hb : w.heap[cb]? = some (.cells (curC A n c i h).toArray 83 (0, 0))) :
    Calls Try.prog 73 #[.pointer (some ⟨cb, 0, none⟩)] w fun e w' => ∃ x : Bk × Nat × Int, True ∧ e = .returned x.1.val ∧ HP w [⟨cb, false, 83, curC A n c x.2.1 x.2.2⟩] w' := by
  refine calls_entry [⟨cb, false, 83, curC A n c i h⟩] _ Try.func73 rfl Try.ntmps73 (HP.one hb) (env1 rfl) ?_
  refine wc_seq ?_
  refine wc_region ?_
  refine wl_alloc zc_40 rfl fun b1 => ?_
  refine wl_nil ?_
  refine px_then ?_
  refine wc_seq ?_
  refine wc_region ?_
  refine wl_v rfl (val_move (lk rfl)) ?_
  refine wl_callw 1 rfl ci_70 (args2 (lk rfl) lkc) rfl (fun w1 hw => l1Below_c _ _ _ _ _ _ _ _ _ w1 (hk.hp hw (by simp)) (hw.own _ (.tail _ (.head _)))) (fun _ => rfl) ?_
  rintro ⟨x6, i6, h6⟩ hx6
  simp only at hx6
  refine wl_v rfl (val_add lkc (lk rfl)) ?_
  refine wl_v rfl (val_move (lk rfl)) ?_
  refine wl_callw 1 rfl ci_70 (args2 (lk rfl) lkc) rfl (fun w1 hw => l1Below_c _ _ _ _ _ _ _ _ _ w1 (hk.hp hw (by simp)) (hw.own _ (.tail _ (.head _)))) (fun _ => rfl) ?_
  rintro ⟨x9, i9, h9⟩ hx9
  simp only at hx9
  refine wl_v rfl (val_add lkc (lk rfl)) ?_
  refine wl_v rfl (val_move (lk rfl)) ?_
  refine wl_callw 1 rfl ci_70 (args2 (lk rfl) lkc) rfl (fun w1 hw => l1Below_c _ _ _ _ _ _ _ _ _ w1 (hk.hp hw (by simp)) (hw.own _ (.tail _ (.head _)))) (fun _ => rfl) ?_
  rintro ⟨x12, i12, h12⟩ hx12
  simp only at hx12
  refine wl_call gd_none rfl ci_77 (args3 (lk rfl) (lk rfl) (lk rfl)) (fun hG w1 hw => sNewBk_c (IntKind.i64.wrap (1 + x6)) (IntKind.i64.wrap (1 + x9)) x12 w1) ?_
  refine wl_alloc zc_40 rfl fun b2 => ?_
  refine wl_storeB 0 rfl (lk rfl) (lk rfl) ag_40 rfl rfl ?_
  refine wl_nil ?_
  refine px_then ?_
  refine wc_seq ?_
  refine wc_seq ?_
  refine wc_region ?_
  refine wl_v rfl (val_move (lk rfl)) ?_
  refine wl_callw 2 rfl ci_70 (args2 (lk rfl) lkc) rfl (fun w1 hw => l1Below_c _ _ _ _ _ _ _ _ _ w1 (hk.hp hw (by simp)) (hw.own _ (.tail _ (.tail _ (.head _))))) (fun _ => rfl) ?_
  rintro ⟨x15, i15, h15⟩ hx15
  simp only at hx15
  refine wl_v rfl (val_assign (lk rfl)) ?_
  refine wl_nil ?_
  refine px_then ?_
  refine wc_block ?_
  refine wc_trim (l' := [(0, _), (2, _), (3, _), (4, _)]) ⟨rfl, rfl, rfl, rfl, trivial⟩ ?_
  refine wc_loopl (X := DB) (fun x => x.m ≤ 100) (fun x => [(4, (true, .int .i64 (x.m : Nat)))]) (fun x => [⟨b2, true, 40, bkC x.q⟩, ⟨b1, true, 40, [.int .i64 0, .int .i64 0, .int .i64 0, .int .i64 0]⟩, ⟨cb, false, 83, curC A n c x.i x.h⟩]) (fun x => x.m) ⟨newBk (IntKind.i64.wrap (1 + x6)) (IntKind.i64.wrap (1 + x9)) x12, x15.toNat, i15, h15⟩ (by have := hx15.2.1; show x15.toNat ≤ 100; omega) ⟨slotI (by have := hx15.1; show x15 = ((x15.toNat : Nat) : Int); omega), rfl, rfl, rfl, slotI (by have := hx15.1; show x15 = ((x15.toNat : Nat) : Int); omega), trivial⟩ (fun _ h => h) ?_
  rintro ⟨rq, m, i, h⟩ hmb
  simp only at hmb
  dsimp only
  refine wc_seq ?_
  refine wc_seq ?_
  refine wc_region ?_
  refine wl_v rfl (val_move (lk rfl)) ?_
  refine wl_v rfl (val_gtr (lk rfl) lkc) ?_
  refine wl_nil ?_
  refine px_then ?_
  refine wc_cond (lk rfl) (fun hc0 => ?_) (fun hc0 => ?_)
  · have hm0 : 0 < m := by have := of_decide_eq_true hc0; omega
    refine wc_skip ?_
    refine px_then ?_
    refine wc_seq ?_
    refine wc_block ?_
    refine wc_region_aF 1000000 2 (fun y : Nat × Int => (⟨cb, false, 83, curC A n c y.1 y.2⟩ : Blk)) [false, true, true] 13 mo_ rfl ?_
    refine wa_takeF 1 rfl (by kernel_rfl) (by kernel_rfl) (by kernel_rfl) (by kernel_rfl) (fun _ h => ⟨(_, _), h.mask [false, true, true] rfl⟩) gd_none rfl (fun _ => val_move (lk rfl)) ?_
    refine wa_takeF 3 rfl (by kernel_rfl) (by kernel_rfl) (by kernel_rfl) (by kernel_rfl) (fun _ h => ⟨(_, _), h.mask [false, true, true] rfl⟩) gd_none rfl (fun _ => val_field fo_40_3 (lk rfl)) ?_
    refine wa_takeF 5 rfl (by kernel_rfl) (by kernel_rfl) (by kernel_rfl) (by kernel_rfl) (fun _ h => ⟨(_, _), h.mask [false, true, true] rfl⟩) gd_none rfl (fun _ => val_move (lk rfl)) ?_
    refine wa_three 0 2 4 (by kernel_rfl) rfl rfl rfl ?_ ?_ ?_
    · refine wl_v rfl (val_loadB (.head _) (lk rfl) ag_40) ?_
      refine wl_nil (px_qnF (fun _ h => ⟨(_, _), h.mask [false, true, true] rfl⟩) ?_)
      refine wa_two 2 4 (by kernel_rfl) rfl rfl ?_ ?_
      · refine wl_callw 2 rfl ci_70 (args2 (lk rfl) lkc) rfl (fun w1 hw => l1Below_c _ _ _ _ _ _ _ _ _ w1 (hk.hp hw (by simp)) (hw.own _ (.tail _ (.tail _ (.head _))))) (fun _ => rfl) ?_
        rintro ⟨x23, i23, h23⟩ hx23
        simp only at hx23
        refine wl_nil (px_qnF (fun _ h => ⟨(_, _), h.mask [false, true, true] rfl⟩) ?_)
        refine wa_two 4 6 (by kernel_rfl) rfl rfl ?_ ?_
        · refine wl_v rfl (val_load1 t1_3 (lk rfl) (cell_own (.head _) fun _ => rfl)) ?_
          refine wl_nil (px_qnF (fun _ h => ⟨(_, _), h.mask [false, true, true] rfl⟩) ?_)
          refine wa_only 6 (by kernel_rfl) rfl ?_
          refine wl_callw 2 rfl ci_70 (args2 (lk rfl) lkc) rfl (fun w1 hw => l1Below_c _ _ _ _ _ _ _ _ _ w1 (hk.hp hw (by simp)) (hw.own _ (.tail _ (.tail _ (.head _))))) (fun _ => rfl) ?_
          rintro ⟨x27, i27, h27⟩ hx27
          simp only at hx27
          refine wl_nil (px_qnF (fun _ h => ⟨(_, _), h.mask [false, true, true] rfl⟩) ?_)
          refine wa_takeF 7 rfl (by kernel_rfl) (by kernel_rfl) (by kernel_rfl) (by kernel_rfl) (fun _ h => ⟨(_, _), h.mask [false, true, true] rfl⟩) gd_none rfl (fun _ => val_add (lk rfl) (lk rfl)) ?_
          refine wa_only 8 (by kernel_rfl) rfl ?_
          refine wl_call gd_none rfl ci_78 (args3 (lk rfl) (lk rfl) (lk rfl)) (fun hG w1 hw => sTake_c rq x23 _ w1) ?_
          refine wl_nil (px_qnF (fun _ h => ⟨(_, _), h.mask [false, true, true] rfl⟩) ?_)
          refine wa_takeF 9 rfl (by kernel_rfl) (by kernel_rfl) (by kernel_rfl) (by kernel_rfl) (fun _ h => ⟨(_, _), h.mask [false, true, true] rfl⟩) gd_none rfl (fun _ => val_move (lk rfl)) ?_
          refine wa_takeF 10 rfl (by kernel_rfl) (by kernel_rfl) (by kernel_rfl) (by kernel_rfl) (fun _ h => ⟨(_, _), h.mask [false, true, true] rfl⟩) gd_none rfl (fun _ => val_extract (lk rfl) rfl) ?_
          refine wa_takeF 11 rfl (by kernel_rfl) (by kernel_rfl) (by kernel_rfl) (by kernel_rfl) (fun _ h => ⟨(_, _), h.mask [false, true, true] rfl⟩) gd_none rfl (fun _ => val_extract (lk rfl) rfl) ?_
          refine wa_only 12 (by kernel_rfl) rfl ?_
          refine wl_storeB 0 rfl (lk rfl) (lk rfl) ag_40 rfl rfl ?_
          refine wl_nil (px_qnF (fun _ h => ⟨(_, _), h.mask [false, true, true] rfl⟩) ?_)
          refine wa_done (by kernel_rfl) ?_
          refine px_block ?_
          refine px_then ?_
          refine wc_region ?_
          refine wl_v rfl (val_move (lk rfl)) ?_
          refine wl_v rfl (val_dec (lk rfl) (fun hG => ⟨by omega, by omega⟩)) ?_
          refine wl_v rfl (val_assign (lk rfl)) ?_
          refine wl_nil ?_
          refine px_round (⟨(rq.srefill (IntKind.i64.wrap (rq.upd + x27))).less x23, m - 1, i27, h27⟩) (by show m - 1 ≤ 100; omega) (by show m - 1 < m; omega) (⟨rfl, rfl, rfl, rfl, rfl, trivial⟩) (fun _ h => h.dropN 0 rfl)
        · refine wl_callw 2 rfl ci_70 (args2 (lk rfl) lkc) rfl (fun w1 hw => l1Below_c _ _ _ _ _ _ _ _ _ w1 (hk.hp hw (by simp)) (hw.own _ (.tail _ (.tail _ (.head _))))) (fun _ => rfl) ?_
          rintro ⟨x27, i27, h27⟩ hx27
          simp only at hx27
          refine wl_nil (px_qnF (fun _ h => ⟨(_, _), h.mask [false, true, true] rfl⟩) ?_)
          refine wa_only 4 (by kernel_rfl) rfl ?_
          refine wl_v rfl (val_load1 t1_3 (lk rfl) (cell_own (.head _) fun _ => rfl)) ?_
          refine wl_nil (px_qnF (fun _ h => ⟨(_, _), h.mask [false, true, true] rfl⟩) ?_)
          refine wa_takeF 7 rfl (by kernel_rfl) (by kernel_rfl) (by kernel_rfl) (by kernel_rfl) (fun _ h => ⟨(_, _), h.mask [false, true, true] rfl⟩) gd_none rfl (fun _ => val_add (lk rfl) (lk rfl)) ?_
          refine wa_only 8 (by kernel_rfl) rfl ?_
          refine wl_call gd_none rfl ci_78 (args3 (lk rfl) (lk rfl) (lk rfl)) (fun hG w1 hw => sTake_c rq x23 _ w1) ?_
          refine wl_nil (px_qnF (fun _ h => ⟨(_, _), h.mask [false, true, true] rfl⟩) ?_)
          refine wa_takeF 9 rfl (by kernel_rfl) (by kernel_rfl) (by kernel_rfl) (by kernel_rfl) (fun _ h => ⟨(_, _), h.mask [false, true, true] rfl⟩) gd_none rfl (fun _ => val_move (lk rfl)) ?_
          refine wa_takeF 10 rfl (by kernel_rfl) (by kernel_rfl) (by kernel_rfl) (by kernel_rfl) (fun _ h => ⟨(_, _), h.mask [false, true, true] rfl⟩) gd_none rfl (fun _ => val_extract (lk rfl) rfl) ?_
          refine wa_takeF 11 rfl (by kernel_rfl) (by kernel_rfl) (by kernel_rfl) (by kernel_rfl) (fun _ h => ⟨(_, _), h.mask [false, true, true] rfl⟩) gd_none rfl (fun _ => val_extract (lk rfl) rfl) ?_
          refine wa_only 12 (by kernel_rfl) rfl ?_
          refine wl_storeB 0 rfl (lk rfl) (lk rfl) ag_40 rfl rfl ?_
          refine wl_nil (px_qnF (fun _ h => ⟨(_, _), h.mask [false, true, true] rfl⟩) ?_)
          refine wa_done (by kernel_rfl) ?_
          refine px_block ?_
          refine px_then ?_
          refine wc_region ?_
          refine wl_v rfl (val_move (lk rfl)) ?_
          refine wl_v rfl (val_dec (lk rfl) (fun hG => ⟨by omega, by omega⟩)) ?_
          refine wl_v rfl (val_assign (lk rfl)) ?_
          refine wl_nil ?_
          refine px_round (⟨(rq.srefill (IntKind.i64.wrap (rq.upd + x27))).less x23, m - 1, i27, h27⟩) (by show m - 1 ≤ 100; omega) (by show m - 1 < m; omega) (⟨rfl, rfl, rfl, rfl, rfl, trivial⟩) (fun _ h => h.dropN 0 rfl)
      · refine wl_v rfl (val_load1 t1_3 (lk rfl) (cell_own (.head _) fun _ => rfl)) ?_
        refine wl_nil (px_qnF (fun _ h => ⟨(_, _), h.mask [false, true, true] rfl⟩) ?_)
        refine wa_only 2 (by kernel_rfl) rfl ?_
        refine wl_callw 2 rfl ci_70 (args2 (lk rfl) lkc) rfl (fun w1 hw => l1Below_c _ _ _ _ _ _ _ _ _ w1 (hk.hp hw (by simp)) (hw.own _ (.tail _ (.tail _ (.head _))))) (fun _ => rfl) ?_
        rintro ⟨x23, i23, h23⟩ hx23
        simp only at hx23
        refine wl_nil (px_qnF (fun _ h => ⟨(_, _), h.mask [false, true, true] rfl⟩) ?_)
        refine wa_only 6 (by kernel_rfl) rfl ?_
        refine wl_callw 2 rfl ci_70 (args2 (lk rfl) lkc) rfl (fun w1 hw => l1Below_c _ _ _ _ _ _ _ _ _ w1 (hk.hp hw (by simp)) (hw.own _ (.tail _ (.tail _ (.head _))))) (fun _ => rfl) ?_
        rintro ⟨x27, i27, h27⟩ hx27
        simp only at hx27
        refine wl_nil (px_qnF (fun _ h => ⟨(_, _), h.mask [false, true, true] rfl⟩) ?_)
        refine wa_takeF 7 rfl (by kernel_rfl) (by kernel_rfl) (by kernel_rfl) (by kernel_rfl) (fun _ h => ⟨(_, _), h.mask [false, true, true] rfl⟩) gd_none rfl (fun _ => val_add (lk rfl) (lk rfl)) ?_
        refine wa_only 8 (by kernel_rfl) rfl ?_
        refine wl_call gd_none rfl ci_78 (args3 (lk rfl) (lk rfl) (lk rfl)) (fun hG w1 hw => sTake_c rq x23 _ w1) ?_
        refine wl_nil (px_qnF (fun _ h => ⟨(_, _), h.mask [false, true, true] rfl⟩) ?_)
        refine wa_takeF 9 rfl (by kernel_rfl) (by kernel_rfl) (by kernel_rfl) (by kernel_rfl) (fun _ h => ⟨(_, _), h.mask [false, true, true] rfl⟩) gd_none rfl (fun _ => val_move (lk rfl)) ?_
        refine wa_takeF 10 rfl (by kernel_rfl) (by kernel_rfl) (by kernel_rfl) (by kernel_rfl) (fun _ h => ⟨(_, _), h.mask [false, true, true] rfl⟩) gd_none rfl (fun _ => val_extract (lk rfl) rfl) ?_
        refine wa_takeF 11 rfl (by kernel_rfl) (by kernel_rfl) (by kernel_rfl) (by kernel_rfl) (fun _ h => ⟨(_, _), h.mask [false, true, true] rfl⟩) gd_none rfl (fun _ => val_extract (lk rfl) rfl) ?_
        refine wa_only 12 (by kernel_rfl) rfl ?_
        refine wl_storeB 0 rfl (lk rfl) (lk rfl) ag_40 rfl rfl ?_
        refine wl_nil (px_qnF (fun _ h => ⟨(_, _), h.mask [false, true, true] rfl⟩) ?_)
        refine wa_done (by kernel_rfl) ?_
        refine px_block ?_
        refine px_then ?_
        refine wc_region ?_
        refine wl_v rfl (val_move (lk rfl)) ?_
        refine wl_v rfl (val_dec (lk rfl) (fun hG => ⟨by omega, by omega⟩)) ?_
        refine wl_v rfl (val_assign (lk rfl)) ?_
        refine wl_nil ?_
        refine px_round (⟨(rq.srefill (IntKind.i64.wrap (rq.upd + x27))).less x23, m - 1, i27, h27⟩) (by show m - 1 ≤ 100; omega) (by show m - 1 < m; omega) (⟨rfl, rfl, rfl, rfl, rfl, trivial⟩) (fun _ h => h.dropN 0 rfl)
    · refine wl_callw 2 rfl ci_70 (args2 (lk rfl) lkc) rfl (fun w1 hw => l1Below_c _ _ _ _ _ _ _ _ _ w1 (hk.hp hw (by simp)) (hw.own _ (.tail _ (.tail _ (.head _))))) (fun _ => rfl) ?_
      rintro ⟨x23, i23, h23⟩ hx23
      simp only at hx23
      refine wl_nil (px_qnF (fun _ h => ⟨(_, _), h.mask [false, true, true] rfl⟩) ?_)
      refine wa_three 0 4 6 (by kernel_rfl) rfl rfl rfl ?_ ?_ ?_
      · refine wl_v rfl (val_loadB (.head _) (lk rfl) ag_40) ?_
        refine wl_nil (px_qnF (fun _ h => ⟨(_, _), h.mask [false, true, true] rfl⟩) ?_)
        refine wa_two 4 6 (by kernel_rfl) rfl rfl ?_ ?_
        · refine wl_v rfl (val_load1 t1_3 (lk rfl) (cell_own (.head _) fun _ => rfl)) ?_
          refine wl_nil (px_qnF (fun _ h => ⟨(_, _), h.mask [false, true, true] rfl⟩) ?_)
          refine wa_only 6 (by kernel_rfl) rfl ?_
          refine wl_callw 2 rfl ci_70 (args2 (lk rfl) lkc) rfl (fun w1 hw => l1Below_c _ _ _ _ _ _ _ _ _ w1 (hk.hp hw (by simp)) (hw.own _ (.tail _ (.tail _ (.head _))))) (fun _ => rfl) ?_
          rintro ⟨x27, i27, h27⟩ hx27
          simp only at hx27
          refine wl_nil (px_qnF (fun _ h => ⟨(_, _), h.mask [false, true, true] rfl⟩) ?_)
          refine wa_takeF 7 rfl (by kernel_rfl) (by kernel_rfl) (by kernel_rfl) (by kernel_rfl) (fun _ h => ⟨(_, _), h.mask [false, true, true] rfl⟩) gd_none rfl (fun _ => val_add (lk rfl) (lk rfl)) ?_
          refine wa_only 8 (by kernel_rfl) rfl ?_
          refine wl_call gd_none rfl ci_78 (args3 (lk rfl) (lk rfl) (lk rfl)) (fun hG w1 hw => sTake_c rq x23 _ w1) ?_
          refine wl_nil (px_qnF (fun _ h => ⟨(_, _), h.mask [false, true, true] rfl⟩) ?_)
          refine wa_takeF 9 rfl (by kernel_rfl) (by kernel_rfl) (by kernel_rfl) (by kernel_rfl) (fun _ h => ⟨(_, _), h.mask [false, true, true] rfl⟩) gd_none rfl (fun _ => val_move (lk rfl)) ?_
          refine wa_takeF 10 rfl (by kernel_rfl) (by kernel_rfl) (by kernel_rfl) (by kernel_rfl) (fun _ h => ⟨(_, _), h.mask [false, true, true] rfl⟩) gd_none rfl (fun _ => val_extract (lk rfl) rfl) ?_
          refine wa_takeF 11 rfl (by kernel_rfl) (by kernel_rfl) (by kernel_rfl) (by kernel_rfl) (fun _ h => ⟨(_, _), h.mask [false, true, true] rfl⟩) gd_none rfl (fun _ => val_extract (lk rfl) rfl) ?_
          refine wa_only 12 (by kernel_rfl) rfl ?_
          refine wl_storeB 0 rfl (lk rfl) (lk rfl) ag_40 rfl rfl ?_
          refine wl_nil (px_qnF (fun _ h => ⟨(_, _), h.mask [false, true, true] rfl⟩) ?_)
          refine wa_done (by kernel_rfl) ?_
          refine px_block ?_
          refine px_then ?_
          refine wc_region ?_
          refine wl_v rfl (val_move (lk rfl)) ?_
          refine wl_v rfl (val_dec (lk rfl) (fun hG => ⟨by omega, by omega⟩)) ?_
          refine wl_v rfl (val_assign (lk rfl)) ?_
          refine wl_nil ?_
          refine px_round (⟨(rq.srefill (IntKind.i64.wrap (rq.upd + x27))).less x23, m - 1, i27, h27⟩) (by show m - 1 ≤ 100; omega) (by show m - 1 < m; omega) (⟨rfl, rfl, rfl, rfl, rfl, trivial⟩) (fun _ h => h.dropN 0 rfl)
        · refine wl_callw 2 rfl ci_70 (args2 (lk rfl) lkc) rfl (fun w1 hw => l1Below_c _ _ _ _ _ _ _ _ _ w1 (hk.hp hw (by simp)) (hw.own _ (.tail _ (.tail _ (.head _))))) (fun _ => rfl) ?_
          rintro ⟨x27, i27, h27⟩ hx27
          simp only at hx27
          refine wl_nil (px_qnF (fun _ h => ⟨(_, _), h.mask [false, true, true] rfl⟩) ?_)
          refine wa_only 4 (by kernel_rfl) rfl ?_
          refine wl_v rfl (val_load1 t1_3 (lk rfl) (cell_own (.head _) fun _ => rfl)) ?_
          refine wl_nil (px_qnF (fun _ h => ⟨(_, _), h.mask [false, true, true] rfl⟩) ?_)
          refine wa_takeF 7 rfl (by kernel_rfl) (by kernel_rfl) (by kernel_rfl) (by kernel_rfl) (fun _ h => ⟨(_, _), h.mask [false, true, true] rfl⟩) gd_none rfl (fun _ => val_add (lk rfl) (lk rfl)) ?_
          refine wa_only 8 (by kernel_rfl) rfl ?_
          refine wl_call gd_none rfl ci_78 (args3 (lk rfl) (lk rfl) (lk rfl)) (fun hG w1 hw => sTake_c rq x23 _ w1) ?_
          refine wl_nil (px_qnF (fun _ h => ⟨(_, _), h.mask [false, true, true] rfl⟩) ?_)
          refine wa_takeF 9 rfl (by kernel_rfl) (by kernel_rfl) (by kernel_rfl) (by kernel_rfl) (fun _ h => ⟨(_, _), h.mask [false, true, true] rfl⟩) gd_none rfl (fun _ => val_move (lk rfl)) ?_
          refine wa_takeF 10 rfl (by kernel_rfl) (by kernel_rfl) (by kernel_rfl) (by kernel_rfl) (fun _ h => ⟨(_, _), h.mask [false, true, true] rfl⟩) gd_none rfl (fun _ => val_extract (lk rfl) rfl) ?_
          refine wa_takeF 11 rfl (by kernel_rfl) (by kernel_rfl) (by kernel_rfl) (by kernel_rfl) (fun _ h => ⟨(_, _), h.mask [false, true, true] rfl⟩) gd_none rfl (fun _ => val_extract (lk rfl) rfl) ?_
          refine wa_only 12 (by kernel_rfl) rfl ?_
          refine wl_storeB 0 rfl (lk rfl) (lk rfl) ag_40 rfl rfl ?_
          refine wl_nil (px_qnF (fun _ h => ⟨(_, _), h.mask [false, true, true] rfl⟩) ?_)
          refine wa_done (by kernel_rfl) ?_
          refine px_block ?_
          refine px_then ?_
          refine wc_region ?_
          refine wl_v rfl (val_move (lk rfl)) ?_
          refine wl_v rfl (val_dec (lk rfl) (fun hG => ⟨by omega, by omega⟩)) ?_
          refine wl_v rfl (val_assign (lk rfl)) ?_
          refine wl_nil ?_
          refine px_round (⟨(rq.srefill (IntKind.i64.wrap (rq.upd + x27))).less x23, m - 1, i27, h27⟩) (by show m - 1 ≤ 100; omega) (by show m - 1 < m; omega) (⟨rfl, rfl, rfl, rfl, rfl, trivial⟩) (fun _ h => h.dropN 0 rfl)
      · refine wl_v rfl (val_load1 t1_3 (lk rfl) (cell_own (.head _) fun _ => rfl)) ?_
        refine wl_nil (px_qnF (fun _ h => ⟨(_, _), h.mask [false, true, true] rfl⟩) ?_)
        refine wa_two 0 6 (by kernel_rfl) rfl rfl ?_ ?_
        · refine wl_v rfl (val_loadB (.head _) (lk rfl) ag_40) ?_
          refine wl_nil (px_qnF (fun _ h => ⟨(_, _), h.mask [false, true, true] rfl⟩) ?_)
          refine wa_only 6 (by kernel_rfl) rfl ?_
          refine wl_callw 2 rfl ci_70 (args2 (lk rfl) lkc) rfl (fun w1 hw => l1Below_c _ _ _ _ _ _ _ _ _ w1 (hk.hp hw (by simp)) (hw.own _ (.tail _ (.tail _ (.head _))))) (fun _ => rfl) ?_
          rintro ⟨x27, i27, h27⟩ hx27
          simp only at hx27
          refine wl_nil (px_qnF (fun _ h => ⟨(_, _), h.mask [false, true, true] rfl⟩) ?_)
          refine wa_takeF 7 rfl (by kernel_rfl) (by kernel_rfl) (by kernel_rfl) (by kernel_rfl) (fun _ h => ⟨(_, _), h.mask [false, true, true] rfl⟩) gd_none rfl (fun _ => val_add (lk rfl) (lk rfl)) ?_
          refine wa_only 8 (by kernel_rfl) rfl ?_
          refine wl_call gd_none rfl ci_78 (args3 (lk rfl) (lk rfl) (lk rfl)) (fun hG w1 hw => sTake_c rq x23 _ w1) ?_
          refine wl_nil (px_qnF (fun _ h => ⟨(_, _), h.mask [false, true, true] rfl⟩) ?_)
          refine wa_takeF 9 rfl (by kernel_rfl) (by kernel_rfl) (by kernel_rfl) (by kernel_rfl) (fun _ h => ⟨(_, _), h.mask [false, true, true] rfl⟩) gd_none rfl (fun _ => val_move (lk rfl)) ?_
          refine wa_takeF 10 rfl (by kernel_rfl) (by kernel_rfl) (by kernel_rfl) (by kernel_rfl) (fun _ h => ⟨(_, _), h.mask [false, true, true] rfl⟩) gd_none rfl (fun _ => val_extract (lk rfl) rfl) ?_
          refine wa_takeF 11 rfl (by kernel_rfl) (by kernel_rfl) (by kernel_rfl) (by kernel_rfl) (fun _ h => ⟨(_, _), h.mask [false, true, true] rfl⟩) gd_none rfl (fun _ => val_extract (lk rfl) rfl) ?_
          refine wa_only 12 (by kernel_rfl) rfl ?_
          refine wl_storeB 0 rfl (lk rfl) (lk rfl) ag_40 rfl rfl ?_
          refine wl_nil (px_qnF (fun _ h => ⟨(_, _), h.mask [false, true, true] rfl⟩) ?_)
          refine wa_done (by kernel_rfl) ?_
          refine px_block ?_
          refine px_then ?_
          refine wc_region ?_
          refine wl_v rfl (val_move (lk rfl)) ?_
          refine wl_v rfl (val_dec (lk rfl) (fun hG => ⟨by omega, by omega⟩)) ?_
          refine wl_v rfl (val_assign (lk rfl)) ?_
          refine wl_nil ?_
          refine px_round (⟨(rq.srefill (IntKind.i64.wrap (rq.upd + x27))).less x23, m - 1, i27, h27⟩) (by show m - 1 ≤ 100; omega) (by show m - 1 < m; omega) (⟨rfl, rfl, rfl, rfl, rfl, trivial⟩) (fun _ h => h.dropN 0 rfl)
        · refine wl_callw 2 rfl ci_70 (args2 (lk rfl) lkc) rfl (fun w1 hw => l1Below_c _ _ _ _ _ _ _ _ _ w1 (hk.hp hw (by simp)) (hw.own _ (.tail _ (.tail _ (.head _))))) (fun _ => rfl) ?_
          rintro ⟨x27, i27, h27⟩ hx27
          simp only at hx27
          refine wl_nil (px_qnF (fun _ h => ⟨(_, _), h.mask [false, true, true] rfl⟩) ?_)
          refine wa_takeF 7 rfl (by kernel_rfl) (by kernel_rfl) (by kernel_rfl) (by kernel_rfl) (fun _ h => ⟨(_, _), h.mask [false, true, true] rfl⟩) gd_none rfl (fun _ => val_add (lk rfl) (lk rfl)) ?_
          refine wa_only 0 (by kernel_rfl) rfl ?_
          refine wl_v rfl (val_loadB (.head _) (lk rfl) ag_40) ?_
          refine wl_nil (px_qnF (fun _ h => ⟨(_, _), h.mask [false, true, true] rfl⟩) ?_)
          refine wa_only 8 (by kernel_rfl) rfl ?_
          refine wl_call gd_none rfl ci_78 (args3 (lk rfl) (lk rfl) (lk rfl)) (fun hG w1 hw => sTake_c rq x23 _ w1) ?_
          refine wl_nil (px_qnF (fun _ h => ⟨(_, _), h.mask [false, true, true] rfl⟩) ?_)
          refine wa_takeF 9 rfl (by kernel_rfl) (by kernel_rfl) (by kernel_rfl) (by kernel_rfl) (fun _ h => ⟨(_, _), h.mask [false, true, true] rfl⟩) gd_none rfl (fun _ => val_move (lk rfl)) ?_
          refine wa_takeF 10 rfl (by kernel_rfl) (by kernel_rfl) (by kernel_rfl) (by kernel_rfl) (fun _ h => ⟨(_, _), h.mask [false, true, true] rfl⟩) gd_none rfl (fun _ => val_extract (lk rfl) rfl) ?_
          refine wa_takeF 11 rfl (by kernel_rfl) (by kernel_rfl) (by kernel_rfl) (by kernel_rfl) (fun _ h => ⟨(_, _), h.mask [false, true, true] rfl⟩) gd_none rfl (fun _ => val_extract (lk rfl) rfl) ?_
          refine wa_only 12 (by kernel_rfl) rfl ?_
          refine wl_storeB 0 rfl (lk rfl) (lk rfl) ag_40 rfl rfl ?_
          refine wl_nil (px_qnF (fun _ h => ⟨(_, _), h.mask [false, true, true] rfl⟩) ?_)
          refine wa_done (by kernel_rfl) ?_
          refine px_block ?_
          refine px_then ?_
          refine wc_region ?_
          refine wl_v rfl (val_move (lk rfl)) ?_
          refine wl_v rfl (val_dec (lk rfl) (fun hG => ⟨by omega, by omega⟩)) ?_
          refine wl_v rfl (val_assign (lk rfl)) ?_
          refine wl_nil ?_
          refine px_round (⟨(rq.srefill (IntKind.i64.wrap (rq.upd + x27))).less x23, m - 1, i27, h27⟩) (by show m - 1 ≤ 100; omega) (by show m - 1 < m; omega) (⟨rfl, rfl, rfl, rfl, rfl, trivial⟩) (fun _ h => h.dropN 0 rfl)
      · refine wl_callw 2 rfl ci_70 (args2 (lk rfl) lkc) rfl (fun w1 hw => l1Below_c _ _ _ _ _ _ _ _ _ w1 (hk.hp hw (by simp)) (hw.own _ (.tail _ (.tail _ (.head _))))) (fun _ => rfl) ?_
        rintro ⟨x27, i27, h27⟩ hx27
        simp only at hx27
        refine wl_nil (px_qnF (fun _ h => ⟨(_, _), h.mask [false, true, true] rfl⟩) ?_)
        refine wa_two 0 4 (by kernel_rfl) rfl rfl ?_ ?_
        · refine wl_v rfl (val_loadB (.head _) (lk rfl) ag_40) ?_
          refine wl_nil (px_qnF (fun _ h => ⟨(_, _), h.mask [false, true, true] rfl⟩) ?_)
          refine wa_only 4 (by kernel_rfl) rfl ?_
          refine wl_v rfl (val_load1 t1_3 (lk rfl) (cell_own (.head _) fun _ => rfl)) ?_
          refine wl_nil (px_qnF (fun _ h => ⟨(_, _), h.mask [false, true, true] rfl⟩) ?_)
          refine wa_takeF 7 rfl (by kernel_rfl) (by kernel_rfl) (by kernel_rfl) (by kernel_rfl) (fun _ h => ⟨(_, _), h.mask [false, true, true] rfl⟩) gd_none rfl (fun _ => val_add (lk rfl) (lk rfl)) ?_
          refine wa_only 8 (by kernel_rfl) rfl ?_
          refine wl_call gd_none rfl ci_78 (args3 (lk rfl) (lk rfl) (lk rfl)) (fun hG w1 hw => sTake_c rq x23 _ w1) ?_
          refine wl_nil (px_qnF (fun _ h => ⟨(_, _), h.mask [false, true, true] rfl⟩) ?_)
          refine wa_takeF 9 rfl (by kernel_rfl) (by kernel_rfl) (by kernel_rfl) (by kernel_rfl) (fun _ h => ⟨(_, _), h.mask [false, true, true] rfl⟩) gd_none rfl (fun _ => val_move (lk rfl)) ?_
          refine wa_takeF 10 rfl (by kernel_rfl) (by kernel_rfl) (by kernel_rfl) (by kernel_rfl) (fun _ h => ⟨(_, _), h.mask [false, true, true] rfl⟩) gd_none rfl (fun _ => val_extract (lk rfl) rfl) ?_
          refine wa_takeF 11 rfl (by kernel_rfl) (by kernel_rfl) (by kernel_rfl) (by kernel_rfl) (fun _ h => ⟨(_, _), h.mask [false, true, true] rfl⟩) gd_none rfl (fun _ => val_extract (lk rfl) rfl) ?_
          refine wa_only 12 (by kernel_rfl) rfl ?_
          refine wl_storeB 0 rfl (lk rfl) (lk rfl) ag_40 rfl rfl ?_
          refine wl_nil (px_qnF (fun _ h => ⟨(_, _), h.mask [false, true, true] rfl⟩) ?_)
          refine wa_done (by kernel_rfl) ?_
          refine px_block ?_
          refine px_then ?_
          refine wc_region ?_
          refine wl_v rfl (val_move (lk rfl)) ?_
          refine wl_v rfl (val_dec (lk rfl) (fun hG => ⟨by omega, by omega⟩)) ?_
          refine wl_v rfl (val_assign (lk rfl)) ?_
          refine wl_nil ?_
          refine px_round (⟨(rq.srefill (IntKind.i64.wrap (rq.upd + x27))).less x23, m - 1, i27, h27⟩) (by show m - 1 ≤ 100; omega) (by show m - 1 < m; omega) (⟨rfl, rfl, rfl, rfl, rfl, trivial⟩) (fun _ h => h.dropN 0 rfl)
        · refine wl_v rfl (val_load1 t1_3 (lk rfl) (cell_own (.head _) fun _ => rfl)) ?_
          refine wl_nil (px_qnF (fun _ h => ⟨(_, _), h.mask [false, true, true] rfl⟩) ?_)
          refine wa_takeF 7 rfl (by kernel_rfl) (by kernel_rfl) (by kernel_rfl) (by kernel_rfl) (fun _ h => ⟨(_, _), h.mask [false, true, true] rfl⟩) gd_none rfl (fun _ => val_add (lk rfl) (lk rfl)) ?_
          refine wa_only 0 (by kernel_rfl) rfl ?_
          refine wl_v rfl (val_loadB (.head _) (lk rfl) ag_40) ?_
          refine wl_nil (px_qnF (fun _ h => ⟨(_, _), h.mask [false, true, true] rfl⟩) ?_)
          refine wa_only 8 (by kernel_rfl) rfl ?_
          refine wl_call gd_none rfl ci_78 (args3 (lk rfl) (lk rfl) (lk rfl)) (fun hG w1 hw => sTake_c rq x23 _ w1) ?_
          refine wl_nil (px_qnF (fun _ h => ⟨(_, _), h.mask [false, true, true] rfl⟩) ?_)
          refine wa_takeF 9 rfl (by kernel_rfl) (by kernel_rfl) (by kernel_rfl) (by kernel_rfl) (fun _ h => ⟨(_, _), h.mask [false, true, true] rfl⟩) gd_none rfl (fun _ => val_move (lk rfl)) ?_
          refine wa_takeF 10 rfl (by kernel_rfl) (by kernel_rfl) (by kernel_rfl) (by kernel_rfl) (fun _ h => ⟨(_, _), h.mask [false, true, true] rfl⟩) gd_none rfl (fun _ => val_extract (lk rfl) rfl) ?_
          refine wa_takeF 11 rfl (by kernel_rfl) (by kernel_rfl) (by kernel_rfl) (by kernel_rfl) (fun _ h => ⟨(_, _), h.mask [false, true, true] rfl⟩) gd_none rfl (fun _ => val_extract (lk rfl) rfl) ?_
          refine wa_only 12 (by kernel_rfl) rfl ?_
          refine wl_storeB 0 rfl (lk rfl) (lk rfl) ag_40 rfl rfl ?_
          refine wl_nil (px_qnF (fun _ h => ⟨(_, _), h.mask [false, true, true] rfl⟩) ?_)
          refine wa_done (by kernel_rfl) ?_
          refine px_block ?_
          refine px_then ?_
          refine wc_region ?_
          refine wl_v rfl (val_move (lk rfl)) ?_
          refine wl_v rfl (val_dec (lk rfl) (fun hG => ⟨by omega, by omega⟩)) ?_
          refine wl_v rfl (val_assign (lk rfl)) ?_
          refine wl_nil ?_
          refine px_round (⟨(rq.srefill (IntKind.i64.wrap (rq.upd + x27))).less x23, m - 1, i27, h27⟩) (by show m - 1 ≤ 100; omega) (by show m - 1 < m; omega) (⟨rfl, rfl, rfl, rfl, rfl, trivial⟩) (fun _ h => h.dropN 0 rfl)
    · refine wl_v rfl (val_load1 t1_3 (lk rfl) (cell_own (.head _) fun _ => rfl)) ?_
      refine wl_nil (px_qnF (fun _ h => ⟨(_, _), h.mask [false, true, true] rfl⟩) ?_)
      refine wa_two 0 2 (by kernel_rfl) rfl rfl ?_ ?_
      · refine wl_v rfl (val_loadB (.head _) (lk rfl) ag_40) ?_
        refine wl_nil (px_qnF (fun _ h => ⟨(_, _), h.mask [false, true, true] rfl⟩) ?_)
        refine wa_only 2 (by kernel_rfl) rfl ?_
        refine wl_callw 2 rfl ci_70 (args2 (lk rfl) lkc) rfl (fun w1 hw => l1Below_c _ _ _ _ _ _ _ _ _ w1 (hk.hp hw (by simp)) (hw.own _ (.tail _ (.tail _ (.head _))))) (fun _ => rfl) ?_
        rintro ⟨x23, i23, h23⟩ hx23
        simp only at hx23
        refine wl_nil (px_qnF (fun _ h => ⟨(_, _), h.mask [false, true, true] rfl⟩) ?_)
        refine wa_only 6 (by kernel_rfl) rfl ?_
        refine wl_callw 2 rfl ci_70 (args2 (lk rfl) lkc) rfl (fun w1 hw => l1Below_c _ _ _ _ _ _ _ _ _ w1 (hk.hp hw (by simp)) (hw.own _ (.tail _ (.tail _ (.head _))))) (fun _ => rfl) ?_
        rintro ⟨x27, i27, h27⟩ hx27
        simp only at hx27
        refine wl_nil (px_qnF (fun _ h => ⟨(_, _), h.mask [false, true, true] rfl⟩) ?_)
        refine wa_takeF 7 rfl (by kernel_rfl) (by kernel_rfl) (by kernel_rfl) (by kernel_rfl) (fun _ h => ⟨(_, _), h.mask [false, true, true] rfl⟩) gd_none rfl (fun _ => val_add (lk rfl) (lk rfl)) ?_
        refine wa_only 8 (by kernel_rfl) rfl ?_
        refine wl_call gd_none rfl ci_78 (args3 (lk rfl) (lk rfl) (lk rfl)) (fun hG w1 hw => sTake_c rq x23 _ w1) ?_
        refine wl_nil (px_qnF (fun _ h => ⟨(_, _), h.mask [false, true, true] rfl⟩) ?_)
        refine wa_takeF 9 rfl (by kernel_rfl) (by kernel_rfl) (by kernel_rfl) (by kernel_rfl) (fun _ h => ⟨(_, _), h.mask [false, true, true] rfl⟩) gd_none rfl (fun _ => val_move (lk rfl)) ?_
        refine wa_takeF 10 rfl (by kernel_rfl) (by kernel_rfl) (by kernel_rfl) (by kernel_rfl) (fun _ h => ⟨(_, _), h.mask [false, true, true] rfl⟩) gd_none rfl (fun _ => val_extract (lk rfl) rfl) ?_
        refine wa_takeF 11 rfl (by kernel_rfl) (by kernel_rfl) (by kernel_rfl) (by kernel_rfl) (fun _ h => ⟨(_, _), h.mask [false, true, true] rfl⟩) gd_none rfl (fun _ => val_extract (lk rfl) rfl) ?_
        refine wa_only 12 (by kernel_rfl) rfl ?_
        refine wl_storeB 0 rfl (lk rfl) (lk rfl) ag_40 rfl rfl ?_
        refine wl_nil (px_qnF (fun _ h => ⟨(_, _), h.mask [false, true, true] rfl⟩) ?_)
        refine wa_done (by kernel_rfl) ?_
        refine px_block ?_
        refine px_then ?_
        refine wc_region ?_
        refine wl_v rfl (val_move (lk rfl)) ?_
        refine wl_v rfl (val_dec (lk rfl) (fun hG => ⟨by omega, by omega⟩)) ?_
        refine wl_v rfl (val_assign (lk rfl)) ?_
        refine wl_nil ?_
        refine px_round (⟨(rq.srefill (IntKind.i64.wrap (rq.upd + x27))).less x23, m - 1, i27, h27⟩) (by show m - 1 ≤ 100; omega) (by show m - 1 < m; omega) (⟨rfl, rfl, rfl, rfl, rfl, trivial⟩) (fun _ h => h.dropN 0 rfl)
      · refine wl_callw 2 rfl ci_70 (args2 (lk rfl) lkc) rfl (fun w1 hw => l1Below_c _ _ _ _ _ _ _ _ _ w1 (hk.hp hw (by simp)) (hw.own _ (.tail _ (.tail _ (.head _))))) (fun _ => rfl) ?_
        rintro ⟨x23, i23, h23⟩ hx23
        simp only at hx23
        refine wl_nil (px_qnF (fun _ h => ⟨(_, _), h.mask [false, true, true] rfl⟩) ?_)
        refine wa_two 0 6 (by kernel_rfl) rfl rfl ?_ ?_
        · refine wl_v rfl (val_loadB (.head _) (lk rfl) ag_40) ?_
          refine wl_nil (px_qnF (fun _ h => ⟨(_, _), h.mask [false, true, true] rfl⟩) ?_)
          refine wa_only 6 (by kernel_rfl) rfl ?_
          refine wl_callw 2 rfl ci_70 (args2 (lk rfl) lkc) rfl (fun w1 hw => l1Below_c _ _ _ _ _ _ _ _ _ w1 (hk.hp hw (by simp)) (hw.own _ (.tail _ (.tail _ (.head _))))) (fun _ => rfl) ?_
          rintro ⟨x27, i27, h27⟩ hx27
          simp only at hx27
          refine wl_nil (px_qnF (fun _ h => ⟨(_, _), h.mask [false, true, true] rfl⟩) ?_)
          refine wa_takeF 7 rfl (by kernel_rfl) (by kernel_rfl) (by kernel_rfl) (by kernel_rfl) (fun _ h => ⟨(_, _), h.mask [false, true, true] rfl⟩) gd_none rfl (fun _ => val_add (lk rfl) (lk rfl)) ?_
          refine wa_only 8 (by kernel_rfl) rfl ?_
          refine wl_call gd_none rfl ci_78 (args3 (lk rfl) (lk rfl) (lk rfl)) (fun hG w1 hw => sTake_c rq x23 _ w1) ?_
          refine wl_nil (px_qnF (fun _ h => ⟨(_, _), h.mask [false, true, true] rfl⟩) ?_)
          refine wa_takeF 9 rfl (by kernel_rfl) (by kernel_rfl) (by kernel_rfl) (by kernel_rfl) (fun _ h => ⟨(_, _), h.mask [false, true, true] rfl⟩) gd_none rfl (fun _ => val_move (lk rfl)) ?_
          refine wa_takeF 10 rfl (by kernel_rfl) (by kernel_rfl) (by kernel_rfl) (by kernel_rfl) (fun _ h => ⟨(_, _), h.mask [false, true, true] rfl⟩) gd_none rfl (fun _ => val_extract (lk rfl) rfl) ?_
          refine wa_takeF 11 rfl (by kernel_rfl) (by kernel_rfl) (by kernel_rfl) (by kernel_rfl) (fun _ h => ⟨(_, _), h.mask [false, true, true] rfl⟩) gd_none rfl (fun _ => val_extract (lk rfl) rfl) ?_
          refine wa_only 12 (by kernel_rfl) rfl ?_
          refine wl_storeB 0 rfl (lk rfl) (lk rfl) ag_40 rfl rfl ?_
          refine wl_nil (px_qnF (fun _ h => ⟨(_, _), h.mask [false, true, true] rfl⟩) ?_)
          refine wa_done (by kernel_rfl) ?_
          refine px_block ?_
          refine px_then ?_
          refine wc_region ?_
          refine wl_v rfl (val_move (lk rfl)) ?_
          refine wl_v rfl (val_dec (lk rfl) (fun hG => ⟨by omega, by omega⟩)) ?_
          refine wl_v rfl (val_assign (lk rfl)) ?_
          refine wl_nil ?_
          refine px_round (⟨(rq.srefill (IntKind.i64.wrap (rq.upd + x27))).less x23, m - 1, i27, h27⟩) (by show m - 1 ≤ 100; omega) (by show m - 1 < m; omega) (⟨rfl, rfl, rfl, rfl, rfl, trivial⟩) (fun _ h => h.dropN 0 rfl)
        · refine wl_callw 2 rfl ci_70 (args2 (lk rfl) lkc) rfl (fun w1 hw => l1Below_c _ _ _ _ _ _ _ _ _ w1 (hk.hp hw (by simp)) (hw.own _ (.tail _ (.tail _ (.head _))))) (fun _ => rfl) ?_
          rintro ⟨x27, i27, h27⟩ hx27
          simp only at hx27
          refine wl_nil (px_qnF (fun _ h => ⟨(_, _), h.mask [false, true, true] rfl⟩) ?_)
          refine wa_takeF 7 rfl (by kernel_rfl) (by kernel_rfl) (by kernel_rfl) (by kernel_rfl) (fun _ h => ⟨(_, _), h.mask [false, true, true] rfl⟩) gd_none rfl (fun _ => val_add (lk rfl) (lk rfl)) ?_
          refine wa_only 0 (by kernel_rfl) rfl ?_
          refine wl_v rfl (val_loadB (.head _) (lk rfl) ag_40) ?_
          refine wl_nil (px_qnF (fun _ h => ⟨(_, _), h.mask [false, true, true] rfl⟩) ?_)
          refine wa_only 8 (by kernel_rfl) rfl ?_
          refine wl_call gd_none rfl ci_78 (args3 (lk rfl) (lk rfl) (lk rfl)) (fun hG w1 hw => sTake_c rq x23 _ w1) ?_
          refine wl_nil (px_qnF (fun _ h => ⟨(_, _), h.mask [false, true, true] rfl⟩) ?_)
          refine wa_takeF 9 rfl (by kernel_rfl) (by kernel_rfl) (by kernel_rfl) (by kernel_rfl) (fun _ h => ⟨(_, _), h.mask [false, true, true] rfl⟩) gd_none rfl (fun _ => val_move (lk rfl)) ?_
          refine wa_takeF 10 rfl (by kernel_rfl) (by kernel_rfl) (by kernel_rfl) (by kernel_rfl) (fun _ h => ⟨(_, _), h.mask [false, true, true] rfl⟩) gd_none rfl (fun _ => val_extract (lk rfl) rfl) ?_
          refine wa_takeF 11 rfl (by kernel_rfl) (by kernel_rfl) (by kernel_rfl) (by kernel_rfl) (fun _ h => ⟨(_, _), h.mask [false, true, true] rfl⟩) gd_none rfl (fun _ => val_extract (lk rfl) rfl) ?_
          refine wa_only 12 (by kernel_rfl) rfl ?_
          refine wl_storeB 0 rfl (lk rfl) (lk rfl) ag_40 rfl rfl ?_
          refine wl_nil (px_qnF (fun _ h => ⟨(_, _), h.mask [false, true, true] rfl⟩) ?_)
          refine wa_done (by kernel_rfl) ?_
          refine px_block ?_
          refine px_then ?_
          refine wc_region ?_
          refine wl_v rfl (val_move (lk rfl)) ?_
          refine wl_v rfl (val_dec (lk rfl) (fun hG => ⟨by omega, by omega⟩)) ?_
          refine wl_v rfl (val_assign (lk rfl)) ?_
          refine wl_nil ?_
          refine px_round (⟨(rq.srefill (IntKind.i64.wrap (rq.upd + x27))).less x23, m - 1, i27, h27⟩) (by show m - 1 ≤ 100; omega) (by show m - 1 < m; omega) (⟨rfl, rfl, rfl, rfl, rfl, trivial⟩) (fun _ h => h.dropN 0 rfl)
  have hm0 : m = 0 := by have := of_decide_eq_false hc0; omega
  refine wc_exit ?_
  refine px_then_exit ?_
  refine px_then_exit ?_
  refine px_block_exit ?_
  refine px_then ?_
  refine wc_seq ?_
  refine wc_region ?_
  refine wl_v rfl (val_loadB (.head _) (lk rfl) ag_40) ?_
  refine wl_storeB 1 rfl (lk rfl) (lk rfl) ag_40 rfl rfl ?_
  refine wl_nil ?_
  refine px_then ?_
  refine wc_ret ?_
  refine fin1 rfl (res_cell rfl (.tail _ (.head _)) ag_40) (fun w1 hw => ?_)
  exact ⟨(rq, i, h), trivial, rfl, hw.mask [false, false, true] rfl⟩

theorem l14Any_c (A : Option Addr) (n b o c cb i : Nat) (h : Int) (w : World) (hk : Code w A n b o cb) (hb : w.heap[cb]? = some (.cells (curC A n c i h).toArray 83 (0, 0))) :
    Calls Try.prog 69 #[.pointer (some ⟨cb, 0, none⟩)] w fun e w' => ∃ x : Bk × Nat × Int, True ∧ e = .returned x.1.val ∧ HP w [⟨cb, false, 83, curC A n c x.2.1 x.2.2⟩] w' := by
  refine calls_entry [⟨cb, false, 83, curC A n c i h⟩] _ Try.func69 rfl Try.ntmps69 (HP.one hb) (env1 rfl) ?_
  refine wc_seq ?_
  refine wc_region ?_
  refine wl_alloc zc_40 rfl fun b1 => ?_
  refine wl_nil ?_
  refine px_then ?_
  refine wc_seq ?_
  refine wc_region ?_
  refine wl_v rfl (val_move (lk rfl)) ?_
  refine wl_callw 1 rfl ci_73 (args1 (lk rfl)) rfl (fun w1 hw => l14Draw_c _ _ _ _ _ _ _ _ w1 (hk.hp hw (by simp)) (hw.own _ (.tail _ (.head _)))) (fun _ => rfl) ?_
  rintro ⟨rq5, i5, h5⟩ -
  refine wl_alloc zc_40 rfl fun b2 => ?_
  refine wl_storeB 0 rfl (lk rfl) (lk rfl) ag_40 rfl rfl ?_
  refine wl_nil ?_
  refine px_then ?_
  refine wc_seq ?_
  refine wc_seq ?_
  refine wc_region ?_
  refine wl_v rfl (val_move (lk rfl)) ?_
  refine wl_callw 2 rfl ci_70 (args2 (lk rfl) lkc) rfl (fun w1 hw => l1Below_c _ _ _ _ _ _ _ _ _ w1 (hk.hp hw (by simp)) (hw.own _ (.tail _ (.tail _ (.head _))))) (fun _ => rfl) ?_
  rintro ⟨x7, i7, h7⟩ hx7
  simp only at hx7
  refine wl_nil ?_
  refine px_then ?_
  refine wc_block ?_
  refine wc_seq ?_
  refine wc_region ?_
  refine wl_v rfl (val_eql (lk rfl) lkc) ?_
  refine wl_v rfl (val_assign (lk rfl)) ?_
  refine wl_nil ?_
  refine px_then ?_
  refine wc_cond (lk rfl) (fun hc0 => ?_) (fun hc0 => ?_)
  · refine wc_region ?_
    refine wl_v rfl (val_move (lk rfl)) ?_
    refine wl_v rfl (val_field fo_40_1 (lk rfl)) ?_
    refine wl_v rfl (val_load1 t1_3 (lk rfl) (cell_own (.head _) fun _ => rfl)) ?_
    refine wl_v rfl (val_add (lk rfl) lkc) ?_
    refine wl_bslice (partsC lkc (partsC (lk rfl) parts0)) (bsl_85_2_0_1 _ _) rfl fun b3 => ?_
    refine wl_callw 3 rfl ci_74 (args2 (lk rfl) (lk rfl)) rfl (fun w1 hw => l1Int_c _ _ _ _ _ _ _ _ [-1, IntKind.i64.wrap (rq5.burst + 1)] _ _ 0 _ w1 (hk.hp hw (by simp)) (hw.own _ (.tail _ (.tail _ (.tail _ (.head _))))) (Sl.own' hw (.head _)) (by have h9 := hw.nodup; simp at h9 ⊢; omega) (by simp) (by simp)) (fun _ => rfl) ?_
    rintro ⟨x15, i15, h15⟩ hx15
    simp only at hx15
    refine wl_v rfl (val_field fo_40_2 (lk rfl)) ?_
    refine wl_store1 1 rfl (lk rfl) (lk rfl) t1_3 rfl (rfl) ?_
    refine wl_nil ?_
    refine px_block ?_
    refine px_then ?_
    refine wc_seq ?_
    refine wc_region ?_
    refine wl_v rfl (val_loadB (.tail _ (.head _)) (lk rfl) ag_40) ?_
    refine wl_storeB 2 rfl (lk rfl) (lk rfl) ag_40 rfl rfl ?_
    refine wl_nil ?_
    refine px_then ?_
    refine wc_ret ?_
    refine fin1 rfl (res_cell rfl (.tail _ (.tail _ (.head _))) ag_40) (fun w1 hw => ?_)
    exact ⟨(⟨rq5.rate, rq5.burst, nth d0I [-1, IntKind.i64.wrap (rq5.burst + 1)] x15, rq5.upd⟩, i15, h15), trivial, rfl, hw.mask [false, false, false, true] rfl⟩
  refine wc_seq ?_
  refine wc_region ?_
  refine wl_v rfl (val_eql (lk rfl) lkc) ?_
  refine wl_v rfl (val_assign (lk rfl)) ?_
  refine wl_nil ?_
  refine px_then ?_
  refine wc_cond (lk rfl) (fun hc1 => ?_) (fun hc1 => ?_)
  · refine wc_region ?_
    refine wl_v rfl (val_move (lk rfl)) ?_
    refine wl_bslice (partsC lkc (partsC lkc (partsC lkc parts0))) (bsl_85_3_0_1_2 _ _ _) rfl fun b4 => ?_
    refine wl_callw 3 rfl ci_74 (args2 (lk rfl) (lk rfl)) rfl (fun w1 hw => l1Int_c _ _ _ _ _ _ _ _ [0, 1000, 1001] _ _ 0 _ w1 (hk.hp hw (by simp)) (hw.own _ (.tail _ (.tail _ (.tail _ (.head _))))) (Sl.own' hw (.head _)) (by have h9 := hw.nodup; simp at h9 ⊢; omega) (by simp) (by simp)) (fun _ => rfl) ?_
    rintro ⟨x21, i21, h21⟩ hx21
    simp only at hx21
    refine wl_v rfl (val_field fo_40_0 (lk rfl)) ?_
    refine wl_store1 1 rfl (lk rfl) (lk rfl) t1_3 rfl (rfl) ?_
    refine wl_nil ?_
    refine px_block ?_
    refine px_then ?_
    refine wc_seq ?_
    refine wc_region ?_
    refine wl_v rfl (val_loadB (.tail _ (.head _)) (lk rfl) ag_40) ?_
    refine wl_storeB 2 rfl (lk rfl) (lk rfl) ag_40 rfl rfl ?_
    refine wl_nil ?_
    refine px_then ?_
    refine wc_ret ?_
    refine fin1 rfl (res_cell rfl (.tail _ (.tail _ (.head _))) ag_40) (fun w1 hw => ?_)
    exact ⟨(⟨nth d0I [0, 1000, 1001] x21, rq5.burst, rq5.tok, rq5.upd⟩, i21, h21), trivial, rfl, hw.mask [false, false, false, true] rfl⟩
  refine wc_seq ?_
  refine wc_region ?_
  refine wl_v rfl (val_eql (lk rfl) lkc) ?_
  refine wl_v rfl (val_assign (lk rfl)) ?_
  refine wl_nil ?_
  refine px_then ?_
  refine wc_cond (lk rfl) (fun hc2 => ?_) (fun hc2 => ?_)
  · refine wc_region ?_
    refine wl_v rfl (val_move (lk rfl)) ?_
    refine wl_bslice (partsC lkc (partsC lkc (partsC lkc parts0))) (bsl_85_3_0_1_2 _ _ _) rfl fun b5 => ?_
    refine wl_callw 3 rfl ci_74 (args2 (lk rfl) (lk rfl)) rfl (fun w1 hw => l1Int_c _ _ _ _ _ _ _ _ [0, 1000, 1001] _ _ 0 _ w1 (hk.hp hw (by simp)) (hw.own _ (.tail _ (.tail _ (.tail _ (.head _))))) (Sl.own' hw (.head _)) (by have h9 := hw.nodup; simp at h9 ⊢; omega) (by simp) (by simp)) (fun _ => rfl) ?_
    rintro ⟨x27, i27, h27⟩ hx27
    simp only at hx27
    refine wl_v rfl (val_field fo_40_1 (lk rfl)) ?_
    refine wl_store1 1 rfl (lk rfl) (lk rfl) t1_3 rfl (rfl) ?_
    refine wl_nil ?_
    refine px_block ?_
    refine px_then ?_
    refine wc_seq ?_
    refine wc_region ?_
    refine wl_v rfl (val_loadB (.tail _ (.head _)) (lk rfl) ag_40) ?_
    refine wl_storeB 2 rfl (lk rfl) (lk rfl) ag_40 rfl rfl ?_
    refine wl_nil ?_
    refine px_then ?_
    refine wc_ret ?_
    refine fin1 rfl (res_cell rfl (.tail _ (.tail _ (.head _))) ag_40) (fun w1 hw => ?_)
    exact ⟨(⟨rq5.rate, nth d0I [0, 1000, 1001] x27, rq5.tok, rq5.upd⟩, i27, h27), trivial, rfl, hw.mask [false, false, false, true] rfl⟩
  refine wc_seq ?_
  refine wc_region ?_
  refine wl_v rfl (val_eql (lk rfl) lkc) ?_
  refine wl_v rfl (val_assign (lk rfl)) ?_
  refine wl_nil ?_
  refine px_then ?_
  refine wc_cond (lk rfl) (fun hc3 => ?_) (fun hc3 => ?_)
  · refine wc_region ?_
    refine wl_v rfl (val_move (lk rfl)) ?_
    refine wl_bslice (partsC lkc (partsC lkc parts0)) (bsl_85_2_0_1 _ _) rfl fun b6 => ?_
    refine wl_callw 3 rfl ci_74 (args2 (lk rfl) (lk rfl)) rfl (fun w1 hw => l1Int_c _ _ _ _ _ _ _ _ [-1, 1000000000000] _ _ 0 _ w1 (hk.hp hw (by simp)) (hw.own _ (.tail _ (.tail _ (.tail _ (.head _))))) (Sl.own' hw (.head _)) (by have h9 := hw.nodup; simp at h9 ⊢; omega) (by simp) (by simp)) (fun _ => rfl) ?_
    rintro ⟨x33, i33, h33⟩ hx33
    simp only at hx33
    refine wl_v rfl (val_field fo_40_3 (lk rfl)) ?_
    refine wl_store1 1 rfl (lk rfl) (lk rfl) t1_3 rfl (rfl) ?_
    refine wl_nil ?_
    refine px_block ?_
    refine px_then ?_
    refine wc_seq ?_
    refine wc_region ?_
    refine wl_v rfl (val_loadB (.tail _ (.head _)) (lk rfl) ag_40) ?_
    refine wl_storeB 2 rfl (lk rfl) (lk rfl) ag_40 rfl rfl ?_
    refine wl_nil ?_
    refine px_then ?_
    refine wc_ret ?_
    refine fin1 rfl (res_cell rfl (.tail _ (.tail _ (.head _))) ag_40) (fun w1 hw => ?_)
    exact ⟨(⟨rq5.rate, rq5.burst, rq5.tok, nth d0I [-1, 1000000000000] x33⟩, i33, h33), trivial, rfl, hw.mask [false, false, false, true] rfl⟩
  refine wc_skip ?_
  refine px_block ?_
  refine px_then ?_
  refine wc_seq ?_
  refine wc_region ?_
  refine wl_v rfl (val_loadB (.head _) (lk rfl) ag_40) ?_
  refine wl_storeB 1 rfl (lk rfl) (lk rfl) ag_40 rfl rfl ?_
  refine wl_nil ?_
  refine px_then ?_
  refine wc_ret ?_
  refine fin1 rfl (res_cell rfl (.tail _ (.head _)) ag_40) (fun w1 hw => ?_)
  exact ⟨(rq5, i7, h7), trivial, rfl, hw.mask [false, false, true] rfl⟩

theorem l14Trio_c (A : Option Addr) (n b o c : Nat) (w : World) (hk : Cod w A n b o) :
    Calls Try.prog 50 #[.slice A n c] w fun e w' => ∃ x : Bk × Int × Int, True ∧ e = .returned (.tuple #[x.1.val, .int .i64 x.2.1, .int .i64 x.2.2]) ∧ HP w [] w' := by
  refine calls_entry [] _ Try.func50 rfl Try.ntmps50 (HP.refl w) (env1 rfl) ?_
  refine wc_seq ?_
  refine wc_region ?_
  refine wl_alloc zc_40 rfl fun b1 => ?_
  refine wl_v rfl (val_assign lkc) ?_
  refine wl_v rfl (val_assign lkc) ?_
  refine wl_nil ?_
  refine px_then ?_
  refine wc_seq ?_
  refine wc_region ?_
  refine wl_v rfl (val_move (lk rfl)) ?_
  refine wl_callx rfl ci_68 (args1 (lk rfl)) (fun w1 hw => l1New_c _ _ _ _ _ w1 (hk.hp hw rfl)) (fun _ => rfl) ?_
  rintro ⟨gc9, h9⟩ -
  refine wl_v rfl (val_assign (lk rfl)) ?_
  refine wl_nil ?_
  refine px_then ?_
  refine wc_seq ?_
  refine wc_region ?_
  refine wl_v rfl (val_move (lk rfl)) ?_
  refine wl_callw 0 rfl ci_69 (args1 (lk rfl)) rfl (fun w1 hw => l14Any_c _ _ _ _ _ _ _ _ w1 (hk.cur hw rfl (.head _)) (hw.own _ (.head _))) (fun _ => rfl) ?_
  rintro ⟨rq11, i11, h11⟩ -
  refine wl_alloc zc_40 rfl fun b2 => ?_
  refine wl_storeB 0 rfl (lk rfl) (lk rfl) ag_40 rfl rfl ?_
  refine wl_nil ?_
  refine px_then ?_
  refine wc_seq ?_
  refine wc_region ?_
  refine wl_v rfl (val_move (lk rfl)) ?_
  refine wl_callw 1 rfl ci_70 (args2 (lk rfl) lkc) rfl (fun w1 hw => l1Below_c _ _ _ _ _ _ _ _ _ w1 (hk.cur hw rfl (.tail _ (.head _))) (hw.own _ (.tail _ (.head _)))) (fun _ => rfl) ?_
  rintro ⟨x13, i13, h13⟩ hx13
  simp only at hx13
  refine wl_v rfl (val_sub (lk rfl) lkc) ?_
  refine wl_v rfl (val_assign (lk rfl)) ?_
  refine wl_nil ?_
  refine px_then ?_
  refine wc_seq ?_
  refine wc_region_am [true, false, false] 11 mo_ rfl ?_
  refine wa_take 0 rfl (by kernel_rfl) (by kernel_rfl) (by kernel_rfl) (by kernel_rfl) (fun _ h => h.mask [true, false, false] rfl) gd_none rfl (val_loadB (.head _) (lk rfl) ag_40) ?_
  refine wa_take 1 rfl (by kernel_rfl) (by kernel_rfl) (by kernel_rfl) (by kernel_rfl) (fun _ h => h.mask [true, false, false] rfl) gd_none rfl (val_move (lk rfl)) ?_
  refine wa_take 2 rfl (by kernel_rfl) (by kernel_rfl) (by kernel_rfl) (by kernel_rfl) (fun _ h => h.mask [true, false, false] rfl) gd_none rfl (val_field fo_40_3 (lk rfl)) ?_
  refine wa_take 3 rfl (by kernel_rfl) (by kernel_rfl) (by kernel_rfl) (by kernel_rfl) (fun _ h => h.mask [true, false, false] rfl) gd_none rfl (val_load1 t1_3 (lk rfl) (cell_own (.head _) fun _ => rfl)) ?_
  refine wa_take 4 rfl (by kernel_rfl) (by kernel_rfl) (by kernel_rfl) (by kernel_rfl) (fun _ h => h.mask [true, false, false] rfl) gd_none rfl (val_move (lk rfl)) ?_
  refine wa_only 5 (by kernel_rfl) rfl ?_
  refine wl_callw 1 rfl ci_70 (args2 (lk rfl) lkc) rfl (fun w1 hw => l1Below_c _ _ _ _ _ _ _ _ _ w1 (hk.cur hw rfl (.tail _ (.head _))) (hw.own _ (.tail _ (.head _)))) (fun _ => rfl) ?_
  rintro ⟨x20, i20, h20⟩ hx20
  simp only at hx20
  refine wl_nil (px_qn (fun _ h => h.mask [true, false, false] rfl) ?_)
  refine wa_take 6 rfl (by kernel_rfl) (by kernel_rfl) (by kernel_rfl) (by kernel_rfl) (fun _ h => h.mask [true, false, false] rfl) gd_none rfl (val_add (lk rfl) (lk rfl)) ?_
  refine wa_take 7 rfl (by kernel_rfl) (by kernel_rfl) (by kernel_rfl) (by kernel_rfl) (fun _ h => h.mask [true, false, false] rfl) gd_none rfl (val_sub (lk rfl) lkc) ?_
  refine wa_only 8 (by kernel_rfl) rfl ?_
  refine wl_storeB 2 rfl (lk rfl) (lk rfl) ag_40 rfl rfl ?_
  refine wl_nil (px_qn (fun _ h => h.mask [true, false, false] rfl) ?_)
  refine wa_take 9 rfl (by kernel_rfl) (by kernel_rfl) (by kernel_rfl) (by kernel_rfl) (fun _ h => h.mask [true, false, false] rfl) gd_none rfl (val_assign (lk rfl)) ?_
  refine wa_take 10 rfl (by kernel_rfl) (by kernel_rfl) (by kernel_rfl) (by kernel_rfl) (fun _ h => h.mask [true, false, false] rfl) gd_none rfl (val_assign (lk rfl)) ?_
  refine wa_done (by kernel_rfl) ?_
  refine px_then ?_
  refine wc_ret ?_
  refine fin3 rfl (res_cell rfl (.tail _ (.tail _ (.head _))) ag_40) (res_tmp rfl) (res_tmp rfl) (fun w1 hw => ?_)
  exact ⟨(rq11, _, _), trivial, rfl, hw.drop rfl⟩

theorem DrawTicks_c (A : Option Addr) (n b o c : Nat) (w : World) (hk : Cod w A n b o) :
    Calls Try.prog 23 #[.slice A n c] w fun e w' => ∃ x : Bk × Int × Int, True ∧ e = .returned (.tuple #[x.1.val, .int .i64 x.2.1, .int .i64 x.2.2]) ∧ HP w [] w' := by
  refine calls_entry [] _ Try.func23 rfl Try.ntmps23 (HP.refl w) (env1 rfl) ?_
  refine wc_seq ?_
  refine wc_region ?_
  refine wl_alloc zc_40 rfl fun b1 => ?_
  refine wl_v rfl (val_assign lkc) ?_
  refine wl_v rfl (val_assign lkc) ?_
  refine wl_nil ?_
  refine px_then ?_
  refine wc_seq ?_
  refine wc_region ?_
  refine wl_v rfl (val_move (lk rfl)) ?_
  refine wl_callx rfl ci_50 (args1 (lk rfl)) (fun w1 hw => l14Trio_c _ _ _ _ _ w1 (hk.hp hw rfl)) (fun _ => rfl) ?_
  rintro ⟨rq6, rn6, rt6⟩ -
  refine wl_v rfl (val_extract (lk rfl) rfl) ?_
  refine wl_v rfl (val_extract (lk rfl) rfl) ?_
  refine wl_v rfl (val_extract (lk rfl) rfl) ?_
  refine wl_storeB 0 rfl (lk rfl) (lk rfl) ag_40 rfl rfl ?_
  refine wl_v rfl (val_assign (lk rfl)) ?_
  refine wl_v rfl (val_assign (lk rfl)) ?_
  refine wl_nil ?_
  refine px_then ?_
  refine wc_ret ?_
  refine fin3 rfl (res_cell rfl (.head _) ag_40) (res_tmp rfl) (res_tmp rfl) (fun w1 hw => ?_)
  exact ⟨(rq6, rn6, rt6), trivial, rfl, hw.drop rfl⟩

end Go.Proofs.Ytbnblhpdogcmkaa
