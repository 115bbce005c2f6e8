/- Drawn accounts and quotas, walked. -/
import Derived.Test.YtdiojflamjppmaaSxW
namespace Go.Proofs.Ytdiojflamjppmaa
open Go.RowKit


def RA (rs : List (Int × Int)) (A : Option Addr) (c g : Nat) (T : TypeId) (cs : List Value) : Prop := RowG encR 2 71 rs A c g T cs
theorem RA.sl {w0 w : World} {bs : List Blk} {nw : Bool} {rs : List (Int × Int)} {A : Option Addr} {c g : Nat} {T : TypeId} {cs : List Value} (h : RA rs A c g T cs) (hw : HP w0 bs w) (hm : (⟨g, nw, T, cs⟩ : Blk) ∈ bs) : Sl w A g 0 (flat encR rs) := RowG.sl h hw hm
theorem RA.cap {rs : List (Int × Int)} {A : Option Addr} {c g : Nat} {T : TypeId} {cs : List Value} (h : RA rs A c g T cs) : rs.length ≤ c := RowG.cap encR_len (by decide) h
def accC (a : Acc) (A : Option Addr) (c : Nat) : List Value := [.int .i64 a.total, .int .i64 a.avail, .int .i64 a.spent, .slice A a.res.length c]
def quoC (q : Quota) : List Value := [.int .i64 q.sid, .int .i64 q.granted, .int .i64 q.used]
structure DA where
  a : Acc
  A : Option Addr
  c : Nat
  g : Nat
  T : TypeId
  cs : List Value
def DA.row (x : DA) : Prop := RA x.a.res x.A x.c x.g x.T x.cs
structure DS where
  d : DA
  m : Nat
  i : Nat
  h : Int
theorem newAcc_ok (t : Int) : (newAcc t).ok = true := by
  rw [Acc.ok_iff]
  unfold newAcc
  split
  · rename_i h
    simp only [inRange, Bool.and_eq_true, decide_eq_true_eq] at h
    simp [okRes, sumR]; omega
  · simp [okRes, sumR]

theorem sNewJ_c (t : Int) (w : World) :
    Calls Try.prog 81 #[.int .i64 t] w fun e w' => ∃ x : Nat × List Value, True ∧ e = .returned ((newAcc t).val none 0) ∧ HP w [⟨x.1, true, 28, x.2⟩] w' := by
  refine calls_entry [] _ Try.func81 rfl Try.ntmps81 (HP.refl w) (env1 rfl) ?_
  refine wc_seq ?_
  refine wc_region ?_
  refine wl_alloc zc_28 rfl fun b1 => ?_
  refine wl_nil ?_
  refine px_then ?_
  refine wc_seq ?_
  refine wc_seq ?_
  refine wc_region ?_
  refine wl_v rfl (val_move (lk rfl)) ?_
  refine wl_call gd_none rfl ci_61 (args3 (lk rfl) lkc lkc) (fun hG w1 hw => l1In_c _ _ _ w1) ?_
  refine wl_v rfl (val_not (lk rfl)) ?_
  refine wl_nil ?_
  refine px_then ?_
  refine wc_cond (lk rfl) (fun hc0 => ?_) (fun hc0 => ?_)
  · refine wc_region ?_
    refine wl_v rfl (val_assign lkc) ?_
    refine wl_nil ?_
    refine px_then ?_
    refine wc_seq ?_
    refine wc_region ?_
    refine wl_v rfl (val_move (lk rfl)) ?_
    refine wl_v rfl (val_move (lk rfl)) ?_
    refine wl_v rfl (val_buildP (partsC (lk rfl) (partsC (lk rfl) parts0)) (bl_28_0_1 _ _)) ?_
    refine wl_storeB 0 rfl (lk rfl) (lk rfl) ag_28 rfl rfl ?_
    refine wl_nil ?_
    refine px_then ?_
    refine wc_ret ?_
    refine fin1 rfl (res_cell rfl (.head _) ag_28) (fun w1 hw => ?_)
    exact ⟨(b1, _), trivial, by rw [newAcc, if_neg (by simpa using hc0)]; rfl, hw.mask [true] rfl⟩
  refine wc_skip ?_
  refine px_then ?_
  refine wc_seq ?_
  refine wc_region ?_
  refine wl_v rfl (val_move (lk rfl)) ?_
  refine wl_v rfl (val_move (lk rfl)) ?_
  refine wl_v rfl (val_buildP (partsC (lk rfl) (partsC (lk rfl) parts0)) (bl_28_0_1 _ _)) ?_
  refine wl_storeB 0 rfl (lk rfl) (lk rfl) ag_28 rfl rfl ?_
  refine wl_nil ?_
  refine px_then ?_
  refine wc_ret ?_
  refine fin1 rfl (res_cell rfl (.head _) ag_28) (fun w1 hw => ?_)
  exact ⟨(b1, _), trivial, by rw [newAcc, if_pos (by simpa using hc0)]; rfl, hw.mask [true] rfl⟩

theorem l16Draw_c (A : Option Addr) (n b o c cb i : Nat) (h : Int) (w : World) (hk : Code w A n b o cb) (hb : w.heap[cb]? = some (.cells (curC A n c i h).toArray 90 (0, 0))) :
    Calls Try.prog 71 #[.pointer (some ⟨cb, 0, none⟩)] w fun e w' => ∃ x : DS, (x.d.row ∧ x.d.a.ok = true) ∧ e = .returned (x.d.a.val x.d.A x.d.c) ∧ HP w [⟨cb, false, 90, curC A n c x.i x.h⟩, ⟨x.d.g, true, x.d.T, x.d.cs⟩] w' := by
  refine calls_entry [⟨cb, false, 90, curC A n c i h⟩] _ Try.func71 rfl Try.ntmps71 (HP.one hb) (env1 rfl) ?_
  refine wc_seq ?_
  refine wc_region ?_
  refine wl_alloc zc_28 rfl fun b1 => ?_
  refine wl_nil ?_
  refine px_then ?_
  refine wc_seq ?_
  refine wc_region ?_
  refine wl_v rfl (val_move (lk rfl)) ?_
  refine wl_callw 1 rfl ci_68 (args2 (lk rfl) lkc) rfl (fun w1 hw => l1Below_c _ _ _ _ _ _ _ _ _ w1 (hk.hp hw (by simp)) (hw.own _ (.tail _ (.head _)))) (fun _ => rfl) ?_
  rintro ⟨x7, i7, h7⟩ hx7
  simp only at hx7
  refine wl_v rfl (val_add lkc (lk rfl)) ?_
  refine wl_callx rfl ci_81 (args1 (lk rfl)) (fun w1 hw => sNewJ_c _ w1) (fun _ => rfl) ?_
  rintro ⟨gr, gcs⟩ -
  refine wl_alloc zc_28 rfl fun b2 => ?_
  refine wl_storeB 0 rfl (lk rfl) (lk rfl) ag_28 rfl rfl ?_
  refine wl_nil ?_
  refine px_then ?_
  refine wc_seq ?_
  refine wc_seq ?_
  refine wc_region ?_
  refine wl_v rfl (val_move (lk rfl)) ?_
  refine wl_callw 3 rfl ci_68 (args2 (lk rfl) lkc) rfl (fun w1 hw => l1Below_c _ _ _ _ _ _ _ _ _ w1 (hk.hp hw (by simp)) (hw.own _ (.tail _ (.tail _ (.tail _ (.head _)))))) (fun _ => rfl) ?_
  rintro ⟨x11, i11, h11⟩ hx11
  simp only at hx11
  refine wl_v rfl (val_assign (lk rfl)) ?_
  refine wl_nil ?_
  refine px_then ?_
  refine wc_block ?_
  refine wc_trim (l' := [(0, _), (2, _), (3, _), (4, _)]) ⟨rfl, rfl, rfl, rfl, trivial⟩ ?_
  refine wc_loopl (X := DS) (fun x => x.d.row ∧ x.d.a.ok = true ∧ x.m ≤ 100) (fun x => [(4, (true, .int .i64 (x.m : Nat)))]) (fun x => [⟨x.d.g, true, x.d.T, x.d.cs⟩, ⟨b2, true, 28, accC x.d.a x.d.A x.d.c⟩, ⟨b1, true, 28, [.int .i64 0, .int .i64 0, .int .i64 0, .slice none 0 0]⟩, ⟨cb, false, 90, curC A n c x.i x.h⟩]) (fun x => x.m) ⟨⟨newAcc (IntKind.i64.wrap (10 + x7)), none, 0, gr, 28, gcs⟩, x11.toNat, i11, h11⟩ (⟨show RA _ _ _ _ _ _ by rw [newAcc_res]; exact RowG.nil, newAcc_ok _, by have := hx11.2.1; show x11.toNat ≤ 100; omega⟩) ⟨slotI (by have := hx11.1; show x11 = ((x11.toNat : Nat) : Int); omega), rfl, rfl, rfl, slotI (by have := hx11.1; show x11 = ((x11.toNat : Nat) : Int); omega), trivial⟩ (fun _ h => h.perm (List.Perm.swap _ _ _)) ?_
  rintro ⟨⟨ra, rA, rc, gr, rT, rcs⟩, m, i, h⟩ ⟨hR, hok, hmb⟩
  simp only [DA.row] at hR
  simp only at hok hmb
  dsimp only
  refine wc_seq ?_
  refine wc_seq ?_
  refine wc_region ?_
  refine wl_v rfl (val_move (lk rfl)) ?_
  refine wl_v rfl (val_gtr (lk rfl) lkc) ?_
  refine wl_nil ?_
  refine px_then ?_
  refine wc_cond (lk rfl) (fun hc0 => ?_) (fun hc0 => ?_)
  · have hm0 : 0 < m := by have := of_decide_eq_true hc0; omega
    refine wc_skip ?_
    refine px_then ?_
    refine wc_seq ?_
    refine wc_block ?_
    refine wc_seq ?_
    refine wc_region ?_
    refine wl_v rfl (val_move (lk rfl)) ?_
    refine wl_callw 3 rfl ci_68 (args2 (lk rfl) lkc) rfl (fun w1 hw => l1Below_c _ _ _ _ _ _ _ _ _ w1 (hk.hp hw (by simp)) (hw.own _ (.tail _ (.tail _ (.tail _ (.head _)))))) (fun _ => rfl) ?_
    rintro ⟨x17, i17, h17⟩ hx17
    simp only at hx17
    refine wl_v rfl (val_assign (lk rfl)) ?_
    refine wl_nil ?_
    refine px_then ?_
    refine wc_seq ?_
    refine wc_region ?_
    refine wl_v rfl (val_move (lk rfl)) ?_
    refine wl_callw 3 rfl ci_68 (args2 (lk rfl) lkc) rfl (fun w1 hw => l1Below_c _ _ _ _ _ _ _ _ _ w1 (hk.hp hw (by simp)) (hw.own _ (.tail _ (.tail _ (.tail _ (.head _)))))) (fun _ => rfl) ?_
    rintro ⟨x19, i19, h19⟩ hx19
    simp only at hx19
    refine wl_nil ?_
    refine px_then ?_
    refine wc_block ?_
    refine wc_seq ?_
    refine wc_region ?_
    refine wl_v rfl (val_eql (lk rfl) lkc) ?_
    refine wl_v rfl (val_assign (lk rfl)) ?_
    refine wl_nil ?_
    refine px_then ?_
    refine wc_cond (lk rfl) (fun hc1 => ?_) (fun hc1 => ?_)
    · refine wc_region_aF 1000000 3 (fun y : Nat × Int => (⟨cb, false, 90, curC A n c y.1 y.2⟩ : Blk)) [true, false, true, true] 13 mo_ rfl ?_
      refine wa_takeF 1 rfl (by kernel_rfl) (by kernel_rfl) (by kernel_rfl) (by kernel_rfl) (fun _ h => ⟨(_, _), h.mask [true, false, true, true] rfl⟩) gd_none rfl (fun _ => val_move (lk rfl)) ?_
      refine wa_takeF 2 rfl (by kernel_rfl) (by kernel_rfl) (by kernel_rfl) (by kernel_rfl) (fun _ h => ⟨(_, _), h.mask [true, false, true, true] rfl⟩) gd_none rfl (fun _ => val_move (lk rfl)) ?_
      refine wa_takeF 4 rfl (by kernel_rfl) (by kernel_rfl) (by kernel_rfl) (by kernel_rfl) (fun _ h => ⟨(_, _), h.mask [true, false, true, true] rfl⟩) gd_none rfl (fun _ => val_move (lk rfl)) ?_
      refine wa_two 0 3 (by kernel_rfl) rfl rfl ?_ ?_
      · refine wl_v rfl (val_loadB (.tail _ (.head _)) (lk rfl) ag_28) ?_
        refine wl_nil (px_qnF (fun _ h => ⟨(_, _), h.mask [true, false, true, true] rfl⟩) ?_)
        refine wa_only 3 (by kernel_rfl) rfl ?_
        refine wl_v rfl (val_loadB (.tail _ (.head _)) (lk rfl) ag_28) ?_
        refine wl_nil (px_qnF (fun _ h => ⟨(_, _), h.mask [true, false, true, true] rfl⟩) ?_)
        refine wa_only 5 (by kernel_rfl) rfl ?_
        refine wl_call gd_none rfl ci_45 (args2 (lk rfl) (lk rfl)) (fun hG w1 hw => sReservedFor_c ra _ _ _ _ x17 w1 (hR.sl hw (.head _)) (by have := (Acc.ok_parts hok).2.1; omega)) ?_
        refine wl_nil (px_qnF (fun _ h => ⟨(_, _), h.mask [true, false, true, true] rfl⟩) ?_)
        refine wa_takeF 6 rfl (by kernel_rfl) (by kernel_rfl) (by kernel_rfl) (by kernel_rfl) (fun _ h => ⟨(_, _), h.mask [true, false, true, true] rfl⟩) gd_none rfl (fun _ => val_add lkc (lk rfl)) ?_
        refine wa_only 7 (by kernel_rfl) rfl ?_
        refine wl_callw 3 rfl ci_68 (args2 (lk rfl) (lk rfl)) rfl (fun w1 hw => l1Below_c _ _ _ _ _ _ _ _ _ w1 (hk.hp hw (by simp)) (hw.own _ (.tail _ (.tail _ (.tail _ (.head _)))))) (fun _ => rfl) ?_
        rintro ⟨x39, i39, h39⟩ hx39
        simp only at hx39
        refine wl_nil (px_qnF (fun _ h => ⟨(_, _), h.mask [true, false, true, true] rfl⟩) ?_)
        refine wa_only 8 (by kernel_rfl) rfl ?_
        refine wl_callx rfl ci_20 (args3 (lk rfl) (lk rfl) (lk rfl)) (fun w1 hw => sDebit_c ra _ _ _ _ x17 x39 w1 (hR.sl hw (.head _)) (by have := (Acc.ok_parts hok).2.1; omega) (RA.cap hR)) (fun _ => rfl) ?_
        rintro ⟨gb40, gc40, gs40⟩ ⟨hgl40, hgc40⟩
        refine wl_nil (px_qnF (fun _ h => ⟨(_, _), h.mask [false, true, false, true, true] rfl⟩) ?_)
        refine wa_takeF 9 rfl (by kernel_rfl) (by kernel_rfl) (by kernel_rfl) (by kernel_rfl) (fun _ h => ⟨(_, _), h.mask [false, true, false, true, true] rfl⟩) gd_none rfl (fun _ => val_move (lk rfl)) ?_
        refine wa_takeF 10 rfl (by kernel_rfl) (by kernel_rfl) (by kernel_rfl) (by kernel_rfl) (fun _ h => ⟨(_, _), h.mask [false, true, false, true, true] rfl⟩) gd_none rfl (fun _ => val_extract (lk rfl) rfl) ?_
        refine wa_takeF 11 rfl (by kernel_rfl) (by kernel_rfl) (by kernel_rfl) (by kernel_rfl) (fun _ h => ⟨(_, _), h.mask [false, true, false, true, true] rfl⟩) gd_none rfl (fun _ => val_extract (lk rfl) rfl) ?_
        refine wa_only 12 (by kernel_rfl) rfl ?_
        refine wl_storeB 2 rfl (lk rfl) (lk rfl) ag_28 rfl rfl ?_
        refine wl_nil (px_qnF (fun _ h => ⟨(_, _), h.mask [false, true, false, true, true] rfl⟩) ?_)
        refine wa_done (by kernel_rfl) ?_
        refine px_block ?_
        refine px_block ?_
        refine px_then ?_
        refine wc_region ?_
        refine wl_v rfl (val_move (lk rfl)) ?_
        refine wl_v rfl (val_dec (lk rfl) (fun hG => ⟨by omega, by omega⟩)) ?_
        refine wl_v rfl (val_assign (lk rfl)) ?_
        refine wl_nil ?_
        refine px_round (⟨⟨(ra.deb x17 x39), some ⟨gb40, 0, none⟩, gc40, gb40, 71, flat encR (ra.deb x17 x39).res ++ gs40⟩, m - 1, i39, h39⟩) (⟨RowG.own hgl40 hgc40, (deb_ok hok).1, by show m - 1 ≤ 100; omega⟩) (by show m - 1 < m; omega) (⟨rfl, rfl, rfl, rfl, rfl, trivial⟩) (fun _ h => h.mask [true, false, true, true, true] rfl)
      · refine wl_v rfl (val_loadB (.tail _ (.head _)) (lk rfl) ag_28) ?_
        refine wl_nil (px_qnF (fun _ h => ⟨(_, _), h.mask [true, false, true, true] rfl⟩) ?_)
        refine wa_two 0 5 (by kernel_rfl) rfl rfl ?_ ?_
        · refine wl_v rfl (val_loadB (.tail _ (.head _)) (lk rfl) ag_28) ?_
          refine wl_nil (px_qnF (fun _ h => ⟨(_, _), h.mask [true, false, true, true] rfl⟩) ?_)
          refine wa_only 5 (by kernel_rfl) rfl ?_
          refine wl_call gd_none rfl ci_45 (args2 (lk rfl) (lk rfl)) (fun hG w1 hw => sReservedFor_c ra _ _ _ _ x17 w1 (hR.sl hw (.head _)) (by have := (Acc.ok_parts hok).2.1; omega)) ?_
          refine wl_nil (px_qnF (fun _ h => ⟨(_, _), h.mask [true, false, true, true] rfl⟩) ?_)
          refine wa_takeF 6 rfl (by kernel_rfl) (by kernel_rfl) (by kernel_rfl) (by kernel_rfl) (fun _ h => ⟨(_, _), h.mask [true, false, true, true] rfl⟩) gd_none rfl (fun _ => val_add lkc (lk rfl)) ?_
          refine wa_only 7 (by kernel_rfl) rfl ?_
          refine wl_callw 3 rfl ci_68 (args2 (lk rfl) (lk rfl)) rfl (fun w1 hw => l1Below_c _ _ _ _ _ _ _ _ _ w1 (hk.hp hw (by simp)) (hw.own _ (.tail _ (.tail _ (.tail _ (.head _)))))) (fun _ => rfl) ?_
          rintro ⟨x39, i39, h39⟩ hx39
          simp only at hx39
          refine wl_nil (px_qnF (fun _ h => ⟨(_, _), h.mask [true, false, true, true] rfl⟩) ?_)
          refine wa_only 8 (by kernel_rfl) rfl ?_
          refine wl_callx rfl ci_20 (args3 (lk rfl) (lk rfl) (lk rfl)) (fun w1 hw => sDebit_c ra _ _ _ _ x17 x39 w1 (hR.sl hw (.head _)) (by have := (Acc.ok_parts hok).2.1; omega) (RA.cap hR)) (fun _ => rfl) ?_
          rintro ⟨gb40, gc40, gs40⟩ ⟨hgl40, hgc40⟩
          refine wl_nil (px_qnF (fun _ h => ⟨(_, _), h.mask [false, true, false, true, true] rfl⟩) ?_)
          refine wa_takeF 9 rfl (by kernel_rfl) (by kernel_rfl) (by kernel_rfl) (by kernel_rfl) (fun _ h => ⟨(_, _), h.mask [false, true, false, true, true] rfl⟩) gd_none rfl (fun _ => val_move (lk rfl)) ?_
          refine wa_takeF 10 rfl (by kernel_rfl) (by kernel_rfl) (by kernel_rfl) (by kernel_rfl) (fun _ h => ⟨(_, _), h.mask [false, true, false, true, true] rfl⟩) gd_none rfl (fun _ => val_extract (lk rfl) rfl) ?_
          refine wa_takeF 11 rfl (by kernel_rfl) (by kernel_rfl) (by kernel_rfl) (by kernel_rfl) (fun _ h => ⟨(_, _), h.mask [false, true, false, true, true] rfl⟩) gd_none rfl (fun _ => val_extract (lk rfl) rfl) ?_
          refine wa_only 12 (by kernel_rfl) rfl ?_
          refine wl_storeB 2 rfl (lk rfl) (lk rfl) ag_28 rfl rfl ?_
          refine wl_nil (px_qnF (fun _ h => ⟨(_, _), h.mask [false, true, false, true, true] rfl⟩) ?_)
          refine wa_done (by kernel_rfl) ?_
          refine px_block ?_
          refine px_block ?_
          refine px_then ?_
          refine wc_region ?_
          refine wl_v rfl (val_move (lk rfl)) ?_
          refine wl_v rfl (val_dec (lk rfl) (fun hG => ⟨by omega, by omega⟩)) ?_
          refine wl_v rfl (val_assign (lk rfl)) ?_
          refine wl_nil ?_
          refine px_round (⟨⟨(ra.deb x17 x39), some ⟨gb40, 0, none⟩, gc40, gb40, 71, flat encR (ra.deb x17 x39).res ++ gs40⟩, m - 1, i39, h39⟩) (⟨RowG.own hgl40 hgc40, (deb_ok hok).1, by show m - 1 ≤ 100; omega⟩) (by show m - 1 < m; omega) (⟨rfl, rfl, rfl, rfl, rfl, trivial⟩) (fun _ h => h.mask [true, false, true, true, true] rfl)
        · refine wl_call gd_none rfl ci_45 (args2 (lk rfl) (lk rfl)) (fun hG w1 hw => sReservedFor_c ra _ _ _ _ x17 w1 (hR.sl hw (.head _)) (by have := (Acc.ok_parts hok).2.1; omega)) ?_
          refine wl_nil (px_qnF (fun _ h => ⟨(_, _), h.mask [true, false, true, true] rfl⟩) ?_)
          refine wa_takeF 6 rfl (by kernel_rfl) (by kernel_rfl) (by kernel_rfl) (by kernel_rfl) (fun _ h => ⟨(_, _), h.mask [true, false, true, true] rfl⟩) gd_none rfl (fun _ => val_add lkc (lk rfl)) ?_
          refine wa_two 0 7 (by kernel_rfl) rfl rfl ?_ ?_
          · refine wl_v rfl (val_loadB (.tail _ (.head _)) (lk rfl) ag_28) ?_
            refine wl_nil (px_qnF (fun _ h => ⟨(_, _), h.mask [true, false, true, true] rfl⟩) ?_)
            refine wa_only 7 (by kernel_rfl) rfl ?_
            refine wl_callw 3 rfl ci_68 (args2 (lk rfl) (lk rfl)) rfl (fun w1 hw => l1Below_c _ _ _ _ _ _ _ _ _ w1 (hk.hp hw (by simp)) (hw.own _ (.tail _ (.tail _ (.tail _ (.head _)))))) (fun _ => rfl) ?_
            rintro ⟨x39, i39, h39⟩ hx39
            simp only at hx39
            refine wl_nil (px_qnF (fun _ h => ⟨(_, _), h.mask [true, false, true, true] rfl⟩) ?_)
            refine wa_only 8 (by kernel_rfl) rfl ?_
            refine wl_callx rfl ci_20 (args3 (lk rfl) (lk rfl) (lk rfl)) (fun w1 hw => sDebit_c ra _ _ _ _ x17 x39 w1 (hR.sl hw (.head _)) (by have := (Acc.ok_parts hok).2.1; omega) (RA.cap hR)) (fun _ => rfl) ?_
            rintro ⟨gb40, gc40, gs40⟩ ⟨hgl40, hgc40⟩
            refine wl_nil (px_qnF (fun _ h => ⟨(_, _), h.mask [false, true, false, true, true] rfl⟩) ?_)
            refine wa_takeF 9 rfl (by kernel_rfl) (by kernel_rfl) (by kernel_rfl) (by kernel_rfl) (fun _ h => ⟨(_, _), h.mask [false, true, false, true, true] rfl⟩) gd_none rfl (fun _ => val_move (lk rfl)) ?_
            refine wa_takeF 10 rfl (by kernel_rfl) (by kernel_rfl) (by kernel_rfl) (by kernel_rfl) (fun _ h => ⟨(_, _), h.mask [false, true, false, true, true] rfl⟩) gd_none rfl (fun _ => val_extract (lk rfl) rfl) ?_
            refine wa_takeF 11 rfl (by kernel_rfl) (by kernel_rfl) (by kernel_rfl) (by kernel_rfl) (fun _ h => ⟨(_, _), h.mask [false, true, false, true, true] rfl⟩) gd_none rfl (fun _ => val_extract (lk rfl) rfl) ?_
            refine wa_only 12 (by kernel_rfl) rfl ?_
            refine wl_storeB 2 rfl (lk rfl) (lk rfl) ag_28 rfl rfl ?_
            refine wl_nil (px_qnF (fun _ h => ⟨(_, _), h.mask [false, true, false, true, true] rfl⟩) ?_)
            refine wa_done (by kernel_rfl) ?_
            refine px_block ?_
            refine px_block ?_
            refine px_then ?_
            refine wc_region ?_
            refine wl_v rfl (val_move (lk rfl)) ?_
            refine wl_v rfl (val_dec (lk rfl) (fun hG => ⟨by omega, by omega⟩)) ?_
            refine wl_v rfl (val_assign (lk rfl)) ?_
            refine wl_nil ?_
            refine px_round (⟨⟨(ra.deb x17 x39), some ⟨gb40, 0, none⟩, gc40, gb40, 71, flat encR (ra.deb x17 x39).res ++ gs40⟩, m - 1, i39, h39⟩) (⟨RowG.own hgl40 hgc40, (deb_ok hok).1, by show m - 1 ≤ 100; omega⟩) (by show m - 1 < m; omega) (⟨rfl, rfl, rfl, rfl, rfl, trivial⟩) (fun _ h => h.mask [true, false, true, true, true] rfl)
          · refine wl_callw 3 rfl ci_68 (args2 (lk rfl) (lk rfl)) rfl (fun w1 hw => l1Below_c _ _ _ _ _ _ _ _ _ w1 (hk.hp hw (by simp)) (hw.own _ (.tail _ (.tail _ (.tail _ (.head _)))))) (fun _ => rfl) ?_
            rintro ⟨x39, i39, h39⟩ hx39
            simp only at hx39
            refine wl_nil (px_qnF (fun _ h => ⟨(_, _), h.mask [true, false, true, true] rfl⟩) ?_)
            refine wa_only 0 (by kernel_rfl) rfl ?_
            refine wl_v rfl (val_loadB (.tail _ (.head _)) (lk rfl) ag_28) ?_
            refine wl_nil (px_qnF (fun _ h => ⟨(_, _), h.mask [true, false, true, true] rfl⟩) ?_)
            refine wa_only 8 (by kernel_rfl) rfl ?_
            refine wl_callx rfl ci_20 (args3 (lk rfl) (lk rfl) (lk rfl)) (fun w1 hw => sDebit_c ra _ _ _ _ x17 x39 w1 (hR.sl hw (.head _)) (by have := (Acc.ok_parts hok).2.1; omega) (RA.cap hR)) (fun _ => rfl) ?_
            rintro ⟨gb40, gc40, gs40⟩ ⟨hgl40, hgc40⟩
            refine wl_nil (px_qnF (fun _ h => ⟨(_, _), h.mask [false, true, false, true, true] rfl⟩) ?_)
            refine wa_takeF 9 rfl (by kernel_rfl) (by kernel_rfl) (by kernel_rfl) (by kernel_rfl) (fun _ h => ⟨(_, _), h.mask [false, true, false, true, true] rfl⟩) gd_none rfl (fun _ => val_move (lk rfl)) ?_
            refine wa_takeF 10 rfl (by kernel_rfl) (by kernel_rfl) (by kernel_rfl) (by kernel_rfl) (fun _ h => ⟨(_, _), h.mask [false, true, false, true, true] rfl⟩) gd_none rfl (fun _ => val_extract (lk rfl) rfl) ?_
            refine wa_takeF 11 rfl (by kernel_rfl) (by kernel_rfl) (by kernel_rfl) (by kernel_rfl) (fun _ h => ⟨(_, _), h.mask [false, true, false, true, true] rfl⟩) gd_none rfl (fun _ => val_extract (lk rfl) rfl) ?_
            refine wa_only 12 (by kernel_rfl) rfl ?_
            refine wl_storeB 2 rfl (lk rfl) (lk rfl) ag_28 rfl rfl ?_
            refine wl_nil (px_qnF (fun _ h => ⟨(_, _), h.mask [false, true, false, true, true] rfl⟩) ?_)
            refine wa_done (by kernel_rfl) ?_
            refine px_block ?_
            refine px_block ?_
            refine px_then ?_
            refine wc_region ?_
            refine wl_v rfl (val_move (lk rfl)) ?_
            refine wl_v rfl (val_dec (lk rfl) (fun hG => ⟨by omega, by omega⟩)) ?_
            refine wl_v rfl (val_assign (lk rfl)) ?_
            refine wl_nil ?_
            refine px_round (⟨⟨(ra.deb x17 x39), some ⟨gb40, 0, none⟩, gc40, gb40, 71, flat encR (ra.deb x17 x39).res ++ gs40⟩, m - 1, i39, h39⟩) (⟨RowG.own hgl40 hgc40, (deb_ok hok).1, by show m - 1 ≤ 100; omega⟩) (by show m - 1 < m; omega) (⟨rfl, rfl, rfl, rfl, rfl, trivial⟩) (fun _ h => h.mask [true, false, true, true, true] rfl)
    refine wc_seq ?_
    refine wc_region ?_
    refine wl_v rfl (val_eql (lk rfl) lkc) ?_
    refine wl_v rfl (val_assign (lk rfl)) ?_
    refine wl_nil ?_
    refine px_then ?_
    refine wc_cond (lk rfl) (fun hc2 => ?_) (fun hc2 => ?_)
    · refine wc_region ?_
      refine wl_v rfl (val_loadB (.tail _ (.head _)) (lk rfl) ag_28) ?_
      refine wl_v rfl (val_move (lk rfl)) ?_
      refine wl_callx rfl ci_14 (args2 (lk rfl) (lk rfl)) (fun w1 hw => sRelease_c ra _ _ _ _ x17 w1 (hR.sl hw (.head _)) (by have := (Acc.ok_parts hok).2.1; omega) (RA.cap hR)) (fun _ => rfl) ?_
      rintro ⟨gb47, gc47, gs47⟩ ⟨hgl47, hgc47⟩
      refine wl_storeB 2 rfl (lk rfl) (lk rfl) ag_28 rfl rfl ?_
      refine wl_nil ?_
      refine px_block ?_
      refine px_block ?_
      refine px_then ?_
      refine wc_region ?_
      refine wl_v rfl (val_move (lk rfl)) ?_
      refine wl_v rfl (val_dec (lk rfl) (fun hG => ⟨by omega, by omega⟩)) ?_
      refine wl_v rfl (val_assign (lk rfl)) ?_
      refine wl_nil ?_
      refine px_round (⟨⟨(ra.rel x17), some ⟨gb47, 0, none⟩, gc47, gb47, 71, flat encR (ra.rel x17).res ++ gs47⟩, m - 1, i19, h19⟩) (⟨RowG.own hgl47 hgc47, (rel_ok hok).1, by show m - 1 ≤ 100; omega⟩) (by show m - 1 < m; omega) (⟨rfl, rfl, rfl, rfl, rfl, trivial⟩) (fun _ h => h.mask [true, false, true, true, true] rfl)
    refine wc_region_aF 1000000 3 (fun y : Nat × Int => (⟨cb, false, 90, curC A n c y.1 y.2⟩ : Blk)) [true, false, true, true] 10 mo_ rfl ?_
    refine wa_takeF 1 rfl (by kernel_rfl) (by kernel_rfl) (by kernel_rfl) (by kernel_rfl) (fun _ h => ⟨(_, _), h.mask [true, false, true, true] rfl⟩) gd_none rfl (fun _ => val_move (lk rfl)) ?_
    refine wa_takeF 2 rfl (by kernel_rfl) (by kernel_rfl) (by kernel_rfl) (by kernel_rfl) (fun _ h => ⟨(_, _), h.mask [true, false, true, true] rfl⟩) gd_none rfl (fun _ => val_move (lk rfl)) ?_
    refine wa_two 0 3 (by kernel_rfl) rfl rfl ?_ ?_
    · refine wl_v rfl (val_loadB (.tail _ (.head _)) (lk rfl) ag_28) ?_
      refine wl_nil (px_qnF (fun _ h => ⟨(_, _), h.mask [true, false, true, true] rfl⟩) ?_)
      refine wa_only 3 (by kernel_rfl) rfl ?_
      refine wl_callw 3 rfl ci_68 (args2 (lk rfl) lkc) rfl (fun w1 hw => l1Below_c _ _ _ _ _ _ _ _ _ w1 (hk.hp hw (by simp)) (hw.own _ (.tail _ (.tail _ (.tail _ (.head _)))))) (fun _ => rfl) ?_
      rintro ⟨x24, i24, h24⟩ hx24
      simp only at hx24
      refine wl_nil (px_qnF (fun _ h => ⟨(_, _), h.mask [true, false, true, true] rfl⟩) ?_)
      refine wa_takeF 4 rfl (by kernel_rfl) (by kernel_rfl) (by kernel_rfl) (by kernel_rfl) (fun _ h => ⟨(_, _), h.mask [true, false, true, true] rfl⟩) gd_none rfl (fun _ => val_add lkc (lk rfl)) ?_
      refine wa_only 5 (by kernel_rfl) rfl ?_
      refine wl_callx rfl ci_22 (args3 (lk rfl) (lk rfl) (lk rfl)) (fun w1 hw => sReserve_c ra _ _ _ _ x17 _ w1 (hR.sl hw (.head _)) (by have := (Acc.ok_parts hok).2.1; omega) (RA.cap hR)) (fun _ => rfl) ?_
      rintro ⟨gb26, gc26, gs26⟩ ⟨hgl26, hgc26⟩
      refine wl_nil (px_qnF (fun _ h => ⟨(_, _), h.mask [false, true, false, true, true] rfl⟩) ?_)
      refine wa_takeF 6 rfl (by kernel_rfl) (by kernel_rfl) (by kernel_rfl) (by kernel_rfl) (fun _ h => ⟨(_, _), h.mask [false, true, false, true, true] rfl⟩) gd_none rfl (fun _ => val_move (lk rfl)) ?_
      refine wa_takeF 7 rfl (by kernel_rfl) (by kernel_rfl) (by kernel_rfl) (by kernel_rfl) (fun _ h => ⟨(_, _), h.mask [false, true, false, true, true] rfl⟩) gd_none rfl (fun _ => val_extract (lk rfl) rfl) ?_
      refine wa_takeF 8 rfl (by kernel_rfl) (by kernel_rfl) (by kernel_rfl) (by kernel_rfl) (fun _ h => ⟨(_, _), h.mask [false, true, false, true, true] rfl⟩) gd_none rfl (fun _ => val_extract (lk rfl) rfl) ?_
      refine wa_only 9 (by kernel_rfl) rfl ?_
      refine wl_storeB 2 rfl (lk rfl) (lk rfl) ag_28 rfl rfl ?_
      refine wl_nil (px_qnF (fun _ h => ⟨(_, _), h.mask [false, true, false, true, true] rfl⟩) ?_)
      refine wa_done (by kernel_rfl) ?_
      refine px_block ?_
      refine px_block ?_
      refine px_then ?_
      refine wc_region ?_
      refine wl_v rfl (val_move (lk rfl)) ?_
      refine wl_v rfl (val_dec (lk rfl) (fun hG => ⟨by omega, by omega⟩)) ?_
      refine wl_v rfl (val_assign (lk rfl)) ?_
      refine wl_nil ?_
      refine px_round (⟨⟨(ra.rsv x17 (IntKind.i64.wrap (1 + x24))), some ⟨gb26, 0, none⟩, gc26, gb26, 71, flat encR (ra.rsv x17 (IntKind.i64.wrap (1 + x24))).res ++ gs26⟩, m - 1, i24, h24⟩) (⟨RowG.own hgl26 hgc26, (rsv_ok hok).1, by show m - 1 ≤ 100; omega⟩) (by show m - 1 < m; omega) (⟨rfl, rfl, rfl, rfl, rfl, trivial⟩) (fun _ h => h.mask [true, false, true, true, true] rfl)
    · refine wl_callw 3 rfl ci_68 (args2 (lk rfl) lkc) rfl (fun w1 hw => l1Below_c _ _ _ _ _ _ _ _ _ w1 (hk.hp hw (by simp)) (hw.own _ (.tail _ (.tail _ (.tail _ (.head _)))))) (fun _ => rfl) ?_
      rintro ⟨x24, i24, h24⟩ hx24
      simp only at hx24
      refine wl_nil (px_qnF (fun _ h => ⟨(_, _), h.mask [true, false, true, true] rfl⟩) ?_)
      refine wa_takeF 4 rfl (by kernel_rfl) (by kernel_rfl) (by kernel_rfl) (by kernel_rfl) (fun _ h => ⟨(_, _), h.mask [true, false, true, true] rfl⟩) gd_none rfl (fun _ => val_add lkc (lk rfl)) ?_
      refine wa_only 0 (by kernel_rfl) rfl ?_
      refine wl_v rfl (val_loadB (.tail _ (.head _)) (lk rfl) ag_28) ?_
      refine wl_nil (px_qnF (fun _ h => ⟨(_, _), h.mask [true, false, true, true] rfl⟩) ?_)
      refine wa_only 5 (by kernel_rfl) rfl ?_
      refine wl_callx rfl ci_22 (args3 (lk rfl) (lk rfl) (lk rfl)) (fun w1 hw => sReserve_c ra _ _ _ _ x17 _ w1 (hR.sl hw (.head _)) (by have := (Acc.ok_parts hok).2.1; omega) (RA.cap hR)) (fun _ => rfl) ?_
      rintro ⟨gb26, gc26, gs26⟩ ⟨hgl26, hgc26⟩
      refine wl_nil (px_qnF (fun _ h => ⟨(_, _), h.mask [false, true, false, true, true] rfl⟩) ?_)
      refine wa_takeF 6 rfl (by kernel_rfl) (by kernel_rfl) (by kernel_rfl) (by kernel_rfl) (fun _ h => ⟨(_, _), h.mask [false, true, false, true, true] rfl⟩) gd_none rfl (fun _ => val_move (lk rfl)) ?_
      refine wa_takeF 7 rfl (by kernel_rfl) (by kernel_rfl) (by kernel_rfl) (by kernel_rfl) (fun _ h => ⟨(_, _), h.mask [false, true, false, true, true] rfl⟩) gd_none rfl (fun _ => val_extract (lk rfl) rfl) ?_
      refine wa_takeF 8 rfl (by kernel_rfl) (by kernel_rfl) (by kernel_rfl) (by kernel_rfl) (fun _ h => ⟨(_, _), h.mask [false, true, false, true, true] rfl⟩) gd_none rfl (fun _ => val_extract (lk rfl) rfl) ?_
      refine wa_only 9 (by kernel_rfl) rfl ?_
      refine wl_storeB 2 rfl (lk rfl) (lk rfl) ag_28 rfl rfl ?_
      refine wl_nil (px_qnF (fun _ h => ⟨(_, _), h.mask [false, true, false, true, true] rfl⟩) ?_)
      refine wa_done (by kernel_rfl) ?_
      refine px_block ?_
      refine px_block ?_
      refine px_then ?_
      refine wc_region ?_
      refine wl_v rfl (val_move (lk rfl)) ?_
      refine wl_v rfl (val_dec (lk rfl) (fun hG => ⟨by omega, by omega⟩)) ?_
      refine wl_v rfl (val_assign (lk rfl)) ?_
      refine wl_nil ?_
      refine px_round (⟨⟨(ra.rsv x17 (IntKind.i64.wrap (1 + x24))), some ⟨gb26, 0, none⟩, gc26, gb26, 71, flat encR (ra.rsv x17 (IntKind.i64.wrap (1 + x24))).res ++ gs26⟩, m - 1, i24, h24⟩) (⟨RowG.own hgl26 hgc26, (rsv_ok hok).1, by show m - 1 ≤ 100; omega⟩) (by show m - 1 < m; omega) (⟨rfl, rfl, rfl, rfl, rfl, trivial⟩) (fun _ h => h.mask [true, false, true, true, true] rfl)
  have hm0 : m = 0 := by have := of_decide_eq_false hc0; omega
  refine wc_exit ?_
  refine px_then_exit ?_
  refine px_then_exit ?_
  refine px_block_exit ?_
  refine px_then ?_
  refine wc_seq ?_
  refine wc_region ?_
  refine wl_v rfl (val_loadB (.tail _ (.head _)) (lk rfl) ag_28) ?_
  refine wl_storeB 2 rfl (lk rfl) (lk rfl) ag_28 rfl rfl ?_
  refine wl_nil ?_
  refine px_then ?_
  refine wc_ret ?_
  refine fin1 rfl (res_cell rfl (.tail _ (.tail _ (.head _))) ag_28) (fun w1 hw => ?_)
  exact ⟨⟨⟨ra, rA, rc, gr, rT, rcs⟩, 0, i, h⟩, ⟨hR, hok⟩, rfl, (hw.mask [true, false, false, true] rfl).perm (List.Perm.swap _ _ _)⟩

theorem l16Any_c (A : Option Addr) (n b o c cb i : Nat) (h : Int) (w : World) (hk : Code w A n b o cb) (hb : w.heap[cb]? = some (.cells (curC A n c i h).toArray 90 (0, 0))) :
    Calls Try.prog 78 #[.pointer (some ⟨cb, 0, none⟩)] w fun e w' => ∃ x : DA × Nat × Int, (x.1.row ∧ x.1.a.res.length ≤ 9) ∧ e = .returned (x.1.a.val x.1.A x.1.c) ∧ HP w [⟨cb, false, 90, curC A n c x.2.1 x.2.2⟩, ⟨x.1.g, true, x.1.T, x.1.cs⟩] w' := by
  refine calls_entry [⟨cb, false, 90, curC A n c i h⟩] _ Try.func78 rfl Try.ntmps78 (HP.one hb) (env1 rfl) ?_
  refine wc_seq ?_
  refine wc_region ?_
  refine wl_alloc zc_28 rfl fun b1 => ?_
  refine wl_nil ?_
  refine px_then ?_
  refine wc_seq ?_
  refine wc_region ?_
  refine wl_v rfl (val_move (lk rfl)) ?_
  refine wl_callw 1 rfl ci_71 (args1 (lk rfl)) rfl (fun w1 hw => l16Draw_c _ _ _ _ _ _ _ _ w1 (hk.hp hw (by simp)) (hw.own _ (.tail _ (.head _)))) (fun _ => rfl) ?_
  rintro ⟨⟨ra5, rA5, rc5, gr5, rT5, rcs5⟩, m5, i5, h5⟩ ⟨hR5, hok5⟩
  simp only [DA.row] at hR5
  simp only at hok5
  refine wl_alloc zc_28 rfl fun b2 => ?_
  refine wl_storeB 0 rfl (lk rfl) (lk rfl) ag_28 rfl rfl ?_
  refine wl_nil ?_
  refine px_then ?_
  refine wc_seq ?_
  refine wc_seq ?_
  refine wc_region ?_
  refine wl_v rfl (val_move (lk rfl)) ?_
  refine wl_callw 3 rfl ci_68 (args2 (lk rfl) lkc) rfl (fun w1 hw => l1Below_c _ _ _ _ _ _ _ _ _ w1 (hk.hp hw (by simp)) (hw.own _ (.tail _ (.tail _ (.tail _ (.head _)))))) (fun _ => rfl) ?_
  rintro ⟨x7, i7, h7⟩ hx7
  simp only at hx7
  refine wl_nil ?_
  refine px_then ?_
  refine wc_block ?_
  refine wc_seq ?_
  refine wc_region ?_
  refine wl_v rfl (val_eql (lk rfl) lkc) ?_
  refine wl_v rfl (val_assign (lk rfl)) ?_
  refine wl_nil ?_
  refine px_then ?_
  refine wc_cond (lk rfl) (fun hc0 => ?_) (fun hc0 => ?_)
  · refine wc_region_aF 7 3 (fun y : Nat × Int => (⟨cb, false, 90, curC A n c y.1 y.2⟩ : Blk)) [true, true, true, true] 8 mo_ rfl ?_
    refine wa_takeF 0 rfl (by kernel_rfl) (by kernel_rfl) (by kernel_rfl) (by kernel_rfl) (fun _ h => ⟨(_, _), h.mask [true, true, true, true] rfl⟩) gd_none rfl (fun _ => val_field fo_28_1 (lk rfl)) ?_
    refine wa_takeF 1 rfl (by kernel_rfl) (by kernel_rfl) (by kernel_rfl) (by kernel_rfl) (fun _ h => ⟨(_, _), h.mask [true, true, true, true] rfl⟩) gd_none rfl (fun _ => val_load1 t1_3 (lk rfl) (cell_own (.head _) fun _ => rfl)) ?_
    refine wa_takeF 2 rfl (by kernel_rfl) (by kernel_rfl) (by kernel_rfl) (by kernel_rfl) (fun _ h => ⟨(_, _), h.mask [true, true, true, true] rfl⟩) gd_none rfl (fun _ => val_move (lk rfl)) ?_
    refine wa_only 3 (by kernel_rfl) rfl ?_
    refine wl_bslice (partsC lkc (partsC lkc parts0)) (bsl_84_2_0_1 _ _) rfl fun b3 => ?_
    refine wl_nil (px_qnF (fun _ h => ⟨(_, _), h.mask [false, true, true, true, true] rfl⟩) ?_)
    refine wa_only 4 (by kernel_rfl) rfl ?_
    refine wl_callw 4 rfl ci_73 (args2 (lk rfl) (lk rfl)) rfl (fun w1 hw => l1Int_c _ _ _ _ _ _ _ _ [1, -1] _ _ 0 _ w1 (hk.hp hw (by simp)) (hw.own _ (.tail _ (.tail _ (.tail _ (.tail _ (.head _)))))) (Sl.own' hw (.head _)) (by have h9 := hw.nodup; simp at h9 ⊢; omega) (by simp) (by simp)) (fun _ => rfl) ?_
    rintro ⟨x14, i14, h14⟩ hx14
    simp only at hx14
    refine wl_nil (px_qnF (fun _ h => ⟨(_, _), h.mask [false, true, true, true, true] rfl⟩) ?_)
    refine wa_takeF 5 rfl (by kernel_rfl) (by kernel_rfl) (by kernel_rfl) (by kernel_rfl) (fun _ h => ⟨(_, _), h.mask [false, true, true, true, true] rfl⟩) gd_none rfl (fun _ => val_add (lk rfl) (lk rfl)) ?_
    refine wa_takeF 6 rfl (by kernel_rfl) (by kernel_rfl) (by kernel_rfl) (by kernel_rfl) (fun _ h => ⟨(_, _), h.mask [false, true, true, true, true] rfl⟩) gd_none rfl (fun _ => val_field fo_28_1 (lk rfl)) ?_
    refine wa_only 7 (by kernel_rfl) rfl ?_
    refine wl_store1 1 rfl (lk rfl) (lk rfl) t1_3 rfl (rfl) ?_
    refine wl_nil (px_qlF ?_)
    refine wa_done (by kernel_rfl) ?_
    refine px_block ?_
    refine px_then ?_
    refine wc_seq ?_
    refine wc_region ?_
    refine wl_v rfl (val_loadB (.tail _ (.head _)) (lk rfl) ag_28) ?_
    refine wl_storeB 3 rfl (lk rfl) (lk rfl) ag_28 rfl rfl ?_
    refine wl_nil ?_
    refine px_then ?_
    refine wc_ret ?_
    refine fin1 rfl (res_cell rfl (.tail _ (.tail _ (.tail _ (.head _)))) ag_28) (fun w1 hw => ?_)
    exact ⟨(⟨⟨ra5.total, IntKind.i64.wrap (ra5.avail + nth d0I [1, -1] x14), ra5.spent, ra5.res⟩, rA5, rc5, gr5, rT5, rcs5⟩, _, _), ⟨hR5, by have := (Acc.ok_parts hok5).2.1; show ra5.res.length ≤ 9; omega⟩, rfl, (hw.mask [false, false, true, false, true] rfl).perm (List.Perm.swap _ _ _)⟩
  refine wc_seq ?_
  refine wc_region ?_
  refine wl_v rfl (val_eql (lk rfl) lkc) ?_
  refine wl_v rfl (val_assign (lk rfl)) ?_
  refine wl_nil ?_
  refine px_then ?_
  refine wc_cond (lk rfl) (fun hc1 => ?_) (fun hc1 => ?_)
  · refine wc_region ?_
    refine wl_v rfl (val_move (lk rfl)) ?_
    refine wl_bslice (partsC lkc (partsC lkc (partsC lkc parts0))) (bsl_84_3_0_1_2 _ _ _) rfl fun b4 => ?_
    refine wl_callw 4 rfl ci_73 (args2 (lk rfl) (lk rfl)) rfl (fun w1 hw => l1Int_c _ _ _ _ _ _ _ _ [-1, 100000, 100001] _ _ 0 _ w1 (hk.hp hw (by simp)) (hw.own _ (.tail _ (.tail _ (.tail _ (.tail _ (.head _)))))) (Sl.own' hw (.head _)) (by have h9 := hw.nodup; simp at h9 ⊢; omega) (by simp) (by simp)) (fun _ => rfl) ?_
    rintro ⟨x21, i21, h21⟩ hx21
    simp only at hx21
    refine wl_v rfl (val_field fo_28_0 (lk rfl)) ?_
    refine wl_store1 1 rfl (lk rfl) (lk rfl) t1_3 rfl (rfl) ?_
    refine wl_nil ?_
    refine px_block ?_
    refine px_then ?_
    refine wc_seq ?_
    refine wc_region ?_
    refine wl_v rfl (val_loadB (.tail _ (.head _)) (lk rfl) ag_28) ?_
    refine wl_storeB 3 rfl (lk rfl) (lk rfl) ag_28 rfl rfl ?_
    refine wl_nil ?_
    refine px_then ?_
    refine wc_ret ?_
    refine fin1 rfl (res_cell rfl (.tail _ (.tail _ (.tail _ (.head _)))) ag_28) (fun w1 hw => ?_)
    exact ⟨(⟨⟨nth d0I [-1, 100000, 100001] x21, ra5.avail, ra5.spent, ra5.res⟩, rA5, rc5, gr5, rT5, rcs5⟩, _, _), ⟨hR5, by have := (Acc.ok_parts hok5).2.1; show ra5.res.length ≤ 9; omega⟩, rfl, (hw.mask [false, false, true, false, true] rfl).perm (List.Perm.swap _ _ _)⟩
  refine wc_seq ?_
  refine wc_region ?_
  refine wl_v rfl (val_eql (lk rfl) lkc) ?_
  refine wl_v rfl (val_assign (lk rfl)) ?_
  refine wl_nil ?_
  refine px_then ?_
  refine wc_cond (lk rfl) (fun hc2 => ?_) (fun hc2 => ?_)
  · refine wc_region_aF 10 3 (fun y : Nat × Int => (⟨cb, false, 90, curC A n c y.1 y.2⟩ : Blk)) [true, false, true, true] 11 mo_ rfl ?_
    refine wa_takeF 0 rfl (by kernel_rfl) (by kernel_rfl) (by kernel_rfl) (by kernel_rfl) (fun _ h => ⟨(_, _), h.mask [true, false, true, true] rfl⟩) gd_none rfl (fun _ => val_field fo_28_3 (lk rfl)) ?_
    refine wa_takeF 1 rfl (by kernel_rfl) (by kernel_rfl) (by kernel_rfl) (by kernel_rfl) (fun _ h => ⟨(_, _), h.mask [true, false, true, true] rfl⟩) gd_none rfl (fun _ => val_load1 t1_26 (lk rfl) (cell_own (.head _) fun _ => rfl)) ?_
    refine wa_takeF 2 rfl (by kernel_rfl) (by kernel_rfl) (by kernel_rfl) (by kernel_rfl) (fun _ h => ⟨(_, _), h.mask [true, false, true, true] rfl⟩) gd_none rfl (fun _ => val_move (lk rfl)) ?_
    refine wa_takeF 4 rfl (by kernel_rfl) (by kernel_rfl) (by kernel_rfl) (by kernel_rfl) (fun _ h => ⟨(_, _), h.mask [true, false, true, true] rfl⟩) gd_none rfl (fun _ => val_move (lk rfl)) ?_
    refine wa_only 3 (by kernel_rfl) rfl ?_
    refine wl_callw 3 rfl ci_68 (args2 (lk rfl) lkc) rfl (fun w1 hw => l1Below_c _ _ _ _ _ _ _ _ _ w1 (hk.hp hw (by simp)) (hw.own _ (.tail _ (.tail _ (.tail _ (.head _)))))) (fun _ => rfl) ?_
    rintro ⟨x28, i28, h28⟩ hx28
    simp only at hx28
    refine wl_nil (px_qnF (fun _ h => ⟨(_, _), h.mask [true, false, true, true] rfl⟩) ?_)
    refine wa_only 5 (by kernel_rfl) rfl ?_
    refine wl_callw 3 rfl ci_68 (args2 (lk rfl) lkc) rfl (fun w1 hw => l1Below_c _ _ _ _ _ _ _ _ _ w1 (hk.hp hw (by simp)) (hw.own _ (.tail _ (.tail _ (.tail _ (.head _)))))) (fun _ => rfl) ?_
    rintro ⟨x30, i30, h30⟩ hx30
    simp only at hx30
    refine wl_nil (px_qnF (fun _ h => ⟨(_, _), h.mask [true, false, true, true] rfl⟩) ?_)
    refine wa_takeF 6 rfl (by kernel_rfl) (by kernel_rfl) (by kernel_rfl) (by kernel_rfl) (fun _ h => ⟨(_, _), h.mask [true, false, true, true] rfl⟩) gd_none rfl (fun _ => val_buildP (partsC (lk rfl) (partsC (lk rfl) parts0)) (bl_71_0_1 _ _)) ?_
    refine wa_only 7 (by kernel_rfl) rfl ?_
    refine wl_bslice (partsC (lk rfl) parts0) (bsl_26_1_0 _ _) rfl fun b5 => ?_
    refine wl_nil (px_qnF (fun _ h => ⟨(_, _), h.mask [false, true, false, true, true] rfl⟩) ?_)
    refine wa_only 8 (by kernel_rfl) rfl ?_
    refine wl_appendG encR_len (by decide) [(x28, x30)] 2 es_26 zc_71 rfl eb_71 (lk rfl) hR5 rfl (lk rfl) (by simp) (fun _ hw => Sl.own' (vs := flat encR [(x28, x30)]) hw (.head _)) (by have := (Acc.ok_parts hok5).2.1; simp only [List.length_cons, List.length_nil]; omega) (by have := (Acc.ok_parts hok5).2.1; simp only [List.length_cons, List.length_nil]; omega) rfl fun a33 ac33 as33 hal33 ham33 => ?_
    refine wl_nil (px_qnF (fun _ h => ⟨(_, _), h.mask [false, false, true, true, true] rfl⟩) ?_)
    refine wa_takeF 9 rfl (by kernel_rfl) (by kernel_rfl) (by kernel_rfl) (by kernel_rfl) (fun _ h => ⟨(_, _), h.mask [false, false, true, true, true] rfl⟩) gd_none rfl (fun _ => val_field fo_28_3 (lk rfl)) ?_
    refine wa_only 10 (by kernel_rfl) rfl ?_
    refine wl_store1 2 rfl (lk rfl) (lk rfl) t1_26 rfl (rfl) ?_
    refine wl_nil (px_qlF ?_)
    refine wa_done (by kernel_rfl) ?_
    refine px_block ?_
    refine px_then ?_
    refine wc_seq ?_
    refine wc_region ?_
    refine wl_v rfl (val_loadB (.tail _ (.tail _ (.head _))) (lk rfl) ag_28) ?_
    refine wl_storeB 3 rfl (lk rfl) (lk rfl) ag_28 rfl rfl ?_
    refine wl_nil ?_
    refine px_then ?_
    refine wc_ret ?_
    refine fin1 rfl (res_cell rfl (.tail _ (.tail _ (.tail _ (.head _)))) ag_28) (fun w1 hw => ?_)
    exact ⟨(⟨⟨ra5.total, ra5.avail, ra5.spent, ra5.res ++ [(x28, x30)]⟩, some ⟨a33, 0, none⟩, ac33, a33, 71, flat encR (ra5.res ++ [(x28, x30)]) ++ as33⟩, _, _), ⟨RowG.own hal33 ham33, by have := (Acc.ok_parts hok5).2.1; show (ra5.res ++ [_]).length ≤ 9; simp; omega⟩, rfl, (hw.mask [true, false, false, false, true] rfl).perm (List.Perm.swap _ _ _)⟩
  refine wc_skip ?_
  refine px_block ?_
  refine px_then ?_
  refine wc_seq ?_
  refine wc_region ?_
  refine wl_v rfl (val_loadB (.head _) (lk rfl) ag_28) ?_
  refine wl_storeB 2 rfl (lk rfl) (lk rfl) ag_28 rfl rfl ?_
  refine wl_nil ?_
  refine px_then ?_
  refine wc_ret ?_
  refine fin1 rfl (res_cell rfl (.tail _ (.tail _ (.head _))) ag_28) (fun w1 hw => ?_)
  exact ⟨(⟨ra5, rA5, rc5, gr5, rT5, rcs5⟩, _, _), ⟨hR5, by have := (Acc.ok_parts hok5).2.1; show ra5.res.length ≤ 9; omega⟩, rfl, (hw.mask [false, true, false, true] rfl).perm (List.Perm.swap _ _ _)⟩


theorem use_holding {a : Acc} {id u : Int} (hok : a.ok = true) (hu : 0 ≤ u) (hu2 : 0 < IntKind.i64.wrap (1 + a.held id) → u < IntKind.i64.wrap (1 + a.held id)) :
    ((⟨id, a.held id, 0⟩ : Quota).use u).sid = id ∧ ((⟨id, a.held id, 0⟩ : Quota).use u).granted = a.held id ∧ 0 ≤ ((⟨id, a.held id, 0⟩ : Quota).use u).used ∧ ((⟨id, a.held id, 0⟩ : Quota).use u).used ≤ a.held id := by
  have hh : 0 ≤ a.held id ∧ a.held id ≤ 100000 := by
    by_cases h : 0 ≤ a.idx id
    · have := Acc.amount hok h
      rw [Acc.held_of h]; omega
    · rw [Acc.held_lt (by omega)]; omega
  rw [wrap64_in' (by omega)] at hu2
  unfold Quota.use
  split
  · refine ⟨rfl, rfl, ?_, ?_⟩
    · show 0 ≤ IntKind.i64.wrap (0 + u); rw [wrap64_in' (by omega)]; omega
    · show IntKind.i64.wrap (0 + u) ≤ _; rw [wrap64_in' (by omega)]; omega
  · exact ⟨rfl, rfl, Int.le_refl _, hh.1⟩

theorem l17Pair_c (A : Option Addr) (n b o c cb i : Nat) (h : Int) (w : World) (hk : Code w A n b o cb) (hb : w.heap[cb]? = some (.cells (curC A n c i h).toArray 90 (0, 0))) :
    Calls Try.prog 69 #[.pointer (some ⟨cb, 0, none⟩)] w fun e w' => ∃ x : DA × Quota × Nat × Int, (x.1.row ∧ x.1.a.ok = true ∧ 0 ≤ x.2.1.sid ∧ x.2.1.granted = x.1.a.held x.2.1.sid ∧ 0 ≤ x.2.1.used ∧ x.2.1.used ≤ x.2.1.granted) ∧ e = .returned (.tuple #[x.1.a.val x.1.A x.1.c, x.2.1.val]) ∧ HP w [⟨cb, false, 90, curC A n c x.2.2.1 x.2.2.2⟩, ⟨x.1.g, true, x.1.T, x.1.cs⟩] w' := by
  refine calls_entry [⟨cb, false, 90, curC A n c i h⟩] _ Try.func69 rfl Try.ntmps69 (HP.one hb) (env1 rfl) ?_
  refine wc_seq ?_
  refine wc_region ?_
  refine wl_alloc zc_28 rfl fun b1 => ?_
  refine wl_alloc zc_41 rfl fun b2 => ?_
  refine wl_nil ?_
  refine px_then ?_
  refine wc_seq ?_
  refine wc_region ?_
  refine wl_v rfl (val_move (lk rfl)) ?_
  refine wl_callw 2 rfl ci_71 (args1 (lk rfl)) rfl (fun w1 hw => l16Draw_c _ _ _ _ _ _ _ _ w1 (hk.hp hw (by simp)) (hw.own _ (.tail _ (.tail _ (.head _))))) (fun _ => rfl) ?_
  rintro ⟨⟨ra8, rA8, rc8, gr8, rT8, rcs8⟩, m8, i8, h8⟩ ⟨hR8, hok8⟩
  simp only [DA.row] at hR8
  simp only at hok8
  refine wl_alloc zc_28 rfl fun b3 => ?_
  refine wl_storeB 0 rfl (lk rfl) (lk rfl) ag_28 rfl rfl ?_
  refine wl_nil ?_
  refine px_then ?_
  refine wc_seq ?_
  refine wc_region ?_
  refine wl_v rfl (val_move (lk rfl)) ?_
  refine wl_callw 4 rfl ci_68 (args2 (lk rfl) lkc) rfl (fun w1 hw => l1Below_c _ _ _ _ _ _ _ _ _ w1 (hk.hp hw (by simp)) (hw.own _ (.tail _ (.tail _ (.tail _ (.tail _ (.head _))))))) (fun _ => rfl) ?_
  rintro ⟨x10, i10, h10⟩ hx10
  simp only at hx10
  refine wl_v rfl (val_assign (lk rfl)) ?_
  refine wl_nil ?_
  refine px_then ?_
  refine wc_seq ?_
  refine wc_region ?_
  refine wl_v rfl (val_move (lk rfl)) ?_
  refine wl_v rfl (val_loadB (.head _) (lk rfl) ag_28) ?_
  refine wl_v rfl (val_move (lk rfl)) ?_
  refine wl_call gd_none rfl ci_45 (args2 (lk rfl) (lk rfl)) (fun hG w1 hw => sReservedFor_c ra8 _ _ _ _ x10 w1 (hR8.sl hw (.tail _ (.head _))) (by have := (Acc.ok_parts hok8).2.1; omega)) ?_
  refine wl_v rfl (val_buildP (partsC (lk rfl) (partsC (lk rfl) parts0)) (bl_41_0_1 _ _)) ?_
  refine wl_alloc zc_41 rfl fun b4 => ?_
  refine wl_storeB 0 rfl (lk rfl) (lk rfl) ag_41 rfl rfl ?_
  refine wl_nil ?_
  refine px_then ?_
  refine wc_seq ?_
  refine wc_region_aF 1000000 5 (fun y : Nat × Int => (⟨cb, false, 90, curC A n c y.1 y.2⟩ : Blk)) [false, true, true, true, true, true] 11 mo_ rfl ?_
  refine wa_takeF 1 rfl (by kernel_rfl) (by kernel_rfl) (by kernel_rfl) (by kernel_rfl) (fun _ h => ⟨(_, _), h.mask [false, true, true, true, true, true] rfl⟩) gd_none rfl (fun _ => val_move (lk rfl)) ?_
  refine wa_takeF 2 rfl (by kernel_rfl) (by kernel_rfl) (by kernel_rfl) (by kernel_rfl) (fun _ h => ⟨(_, _), h.mask [false, true, true, true, true, true] rfl⟩) gd_none rfl (fun _ => val_field fo_41_1 (lk rfl)) ?_
  refine wa_two 0 3 (by kernel_rfl) rfl rfl ?_ ?_
  · refine wl_v rfl (val_loadB (.head _) (lk rfl) ag_41) ?_
    refine wl_nil (px_qnF (fun _ h => ⟨(_, _), h.mask [false, true, true, true, true, true] rfl⟩) ?_)
    refine wa_only 3 (by kernel_rfl) rfl ?_
    refine wl_v rfl (val_load1 t1_3 (lk rfl) (cell_own (.head _) fun _ => rfl)) ?_
    refine wl_nil (px_qnF (fun _ h => ⟨(_, _), h.mask [false, true, true, true, true, true] rfl⟩) ?_)
    refine wa_takeF 4 rfl (by kernel_rfl) (by kernel_rfl) (by kernel_rfl) (by kernel_rfl) (fun _ h => ⟨(_, _), h.mask [false, true, true, true, true, true] rfl⟩) gd_none rfl (fun _ => val_add lkc (lk rfl)) ?_
    refine wa_only 5 (by kernel_rfl) rfl ?_
    refine wl_callw 5 rfl ci_68 (args2 (lk rfl) (lk rfl)) rfl (fun w1 hw => l1Below_c _ _ _ _ _ _ _ _ _ w1 (hk.hp hw (by simp)) (hw.own _ (.tail _ (.tail _ (.tail _ (.tail _ (.tail _ (.head _)))))))) (fun _ => rfl) ?_
    rintro ⟨x22, i22, h22⟩ hx22
    simp only at hx22
    refine wl_nil (px_qnF (fun _ h => ⟨(_, _), h.mask [false, true, true, true, true, true] rfl⟩) ?_)
    refine wa_only 6 (by kernel_rfl) rfl ?_
    refine wl_call gd_none rfl ci_80 (args2 (lk rfl) (lk rfl)) (fun hG w1 hw => sConsumeQuota_c ⟨x10, ra8.held x10, 0⟩ x22 w1) ?_
    refine wl_nil (px_qnF (fun _ h => ⟨(_, _), h.mask [false, true, true, true, true, true] rfl⟩) ?_)
    refine wa_takeF 7 rfl (by kernel_rfl) (by kernel_rfl) (by kernel_rfl) (by kernel_rfl) (fun _ h => ⟨(_, _), h.mask [false, true, true, true, true, true] rfl⟩) gd_none rfl (fun _ => val_move (lk rfl)) ?_
    refine wa_takeF 8 rfl (by kernel_rfl) (by kernel_rfl) (by kernel_rfl) (by kernel_rfl) (fun _ h => ⟨(_, _), h.mask [false, true, true, true, true, true] rfl⟩) gd_none rfl (fun _ => val_extract (lk rfl) rfl) ?_
    refine wa_takeF 9 rfl (by kernel_rfl) (by kernel_rfl) (by kernel_rfl) (by kernel_rfl) (fun _ h => ⟨(_, _), h.mask [false, true, true, true, true, true] rfl⟩) gd_none rfl (fun _ => val_extract (lk rfl) rfl) ?_
    refine wa_only 10 (by kernel_rfl) rfl ?_
    refine wl_storeB 0 rfl (lk rfl) (lk rfl) ag_41 rfl rfl ?_
    refine wl_nil (px_qnF (fun _ h => ⟨(_, _), h.mask [false, true, true, true, true, true] rfl⟩) ?_)
    refine wa_done (by kernel_rfl) ?_
    refine px_then ?_
    refine wc_seq ?_
    refine wc_region_am [true, true, true, false, false, true] 4 mo_ rfl ?_
    refine wa_take 0 rfl (by kernel_rfl) (by kernel_rfl) (by kernel_rfl) (by kernel_rfl) (fun _ h => h.mask [true, true, true, false, false, true] rfl) gd_none rfl (val_loadB (.tail _ (.head _)) (lk rfl) ag_28) ?_
    refine wa_take 1 rfl (by kernel_rfl) (by kernel_rfl) (by kernel_rfl) (by kernel_rfl) (fun _ h => h.mask [true, true, true, false, false, true] rfl) gd_none rfl (val_loadB (.head _) (lk rfl) ag_41) ?_
    refine wa_only 2 (by kernel_rfl) rfl ?_
    refine wl_storeB 4 rfl (lk rfl) (lk rfl) ag_28 rfl rfl ?_
    refine wl_nil (px_qn (fun _ h => h.mask [true, true, true, false, false, true] rfl) ?_)
    refine wa_only 3 (by kernel_rfl) rfl ?_
    refine wl_storeB 3 rfl (lk rfl) (lk rfl) ag_41 rfl rfl ?_
    refine wl_nil (px_qn (fun _ h => h.mask [true, true, true, false, false, true] rfl) ?_)
    refine wa_done (by kernel_rfl) ?_
    refine px_then ?_
    refine wc_ret ?_
    refine fin2 rfl (res_cell rfl (.tail _ (.tail _ (.tail _ (.tail _ (.head _))))) ag_28) (res_cell rfl (.tail _ (.tail _ (.tail _ (.head _)))) ag_41) (fun w1 hw => ?_)
    have huse := use_holding (a := ra8) (id := x10) (u := x22) hok8 hx22.1 hx22.2.1
    exact ⟨(⟨ra8, rA8, rc8, gr8, rT8, rcs8⟩, ((⟨x10, ra8.held x10, 0⟩ : Quota).use x22), i22, h22), ⟨hR8, hok8, by rw [huse.1]; exact hx10.1, by rw [huse.1]; exact huse.2.1, huse.2.2.1, by rw [huse.2.1]; exact huse.2.2.2⟩, rfl, (hw.mask [false, false, true, false, false, true] rfl).perm (List.Perm.swap _ _ _)⟩
  · refine wl_v rfl (val_load1 t1_3 (lk rfl) (cell_own (.head _) fun _ => rfl)) ?_
    refine wl_nil (px_qnF (fun _ h => ⟨(_, _), h.mask [false, true, true, true, true, true] rfl⟩) ?_)
    refine wa_takeF 4 rfl (by kernel_rfl) (by kernel_rfl) (by kernel_rfl) (by kernel_rfl) (fun _ h => ⟨(_, _), h.mask [false, true, true, true, true, true] rfl⟩) gd_none rfl (fun _ => val_add lkc (lk rfl)) ?_
    refine wa_two 0 5 (by kernel_rfl) rfl rfl ?_ ?_
    · refine wl_v rfl (val_loadB (.head _) (lk rfl) ag_41) ?_
      refine wl_nil (px_qnF (fun _ h => ⟨(_, _), h.mask [false, true, true, true, true, true] rfl⟩) ?_)
      refine wa_only 5 (by kernel_rfl) rfl ?_
      refine wl_callw 5 rfl ci_68 (args2 (lk rfl) (lk rfl)) rfl (fun w1 hw => l1Below_c _ _ _ _ _ _ _ _ _ w1 (hk.hp hw (by simp)) (hw.own _ (.tail _ (.tail _ (.tail _ (.tail _ (.tail _ (.head _)))))))) (fun _ => rfl) ?_
      rintro ⟨x22, i22, h22⟩ hx22
      simp only at hx22
      refine wl_nil (px_qnF (fun _ h => ⟨(_, _), h.mask [false, true, true, true, true, true] rfl⟩) ?_)
      refine wa_only 6 (by kernel_rfl) rfl ?_
      refine wl_call gd_none rfl ci_80 (args2 (lk rfl) (lk rfl)) (fun hG w1 hw => sConsumeQuota_c ⟨x10, ra8.held x10, 0⟩ x22 w1) ?_
      refine wl_nil (px_qnF (fun _ h => ⟨(_, _), h.mask [false, true, true, true, true, true] rfl⟩) ?_)
      refine wa_takeF 7 rfl (by kernel_rfl) (by kernel_rfl) (by kernel_rfl) (by kernel_rfl) (fun _ h => ⟨(_, _), h.mask [false, true, true, true, true, true] rfl⟩) gd_none rfl (fun _ => val_move (lk rfl)) ?_
      refine wa_takeF 8 rfl (by kernel_rfl) (by kernel_rfl) (by kernel_rfl) (by kernel_rfl) (fun _ h => ⟨(_, _), h.mask [false, true, true, true, true, true] rfl⟩) gd_none rfl (fun _ => val_extract (lk rfl) rfl) ?_
      refine wa_takeF 9 rfl (by kernel_rfl) (by kernel_rfl) (by kernel_rfl) (by kernel_rfl) (fun _ h => ⟨(_, _), h.mask [false, true, true, true, true, true] rfl⟩) gd_none rfl (fun _ => val_extract (lk rfl) rfl) ?_
      refine wa_only 10 (by kernel_rfl) rfl ?_
      refine wl_storeB 0 rfl (lk rfl) (lk rfl) ag_41 rfl rfl ?_
      refine wl_nil (px_qnF (fun _ h => ⟨(_, _), h.mask [false, true, true, true, true, true] rfl⟩) ?_)
      refine wa_done (by kernel_rfl) ?_
      refine px_then ?_
      refine wc_seq ?_
      refine wc_region_am [true, true, true, false, false, true] 4 mo_ rfl ?_
      refine wa_take 0 rfl (by kernel_rfl) (by kernel_rfl) (by kernel_rfl) (by kernel_rfl) (fun _ h => h.mask [true, true, true, false, false, true] rfl) gd_none rfl (val_loadB (.tail _ (.head _)) (lk rfl) ag_28) ?_
      refine wa_take 1 rfl (by kernel_rfl) (by kernel_rfl) (by kernel_rfl) (by kernel_rfl) (fun _ h => h.mask [true, true, true, false, false, true] rfl) gd_none rfl (val_loadB (.head _) (lk rfl) ag_41) ?_
      refine wa_only 2 (by kernel_rfl) rfl ?_
      refine wl_storeB 4 rfl (lk rfl) (lk rfl) ag_28 rfl rfl ?_
      refine wl_nil (px_qn (fun _ h => h.mask [true, true, true, false, false, true] rfl) ?_)
      refine wa_only 3 (by kernel_rfl) rfl ?_
      refine wl_storeB 3 rfl (lk rfl) (lk rfl) ag_41 rfl rfl ?_
      refine wl_nil (px_qn (fun _ h => h.mask [true, true, true, false, false, true] rfl) ?_)
      refine wa_done (by kernel_rfl) ?_
      refine px_then ?_
      refine wc_ret ?_
      refine fin2 rfl (res_cell rfl (.tail _ (.tail _ (.tail _ (.tail _ (.head _))))) ag_28) (res_cell rfl (.tail _ (.tail _ (.tail _ (.head _)))) ag_41) (fun w1 hw => ?_)
      have huse := use_holding (a := ra8) (id := x10) (u := x22) hok8 hx22.1 hx22.2.1
      exact ⟨(⟨ra8, rA8, rc8, gr8, rT8, rcs8⟩, ((⟨x10, ra8.held x10, 0⟩ : Quota).use x22), i22, h22), ⟨hR8, hok8, by rw [huse.1]; exact hx10.1, by rw [huse.1]; exact huse.2.1, huse.2.2.1, by rw [huse.2.1]; exact huse.2.2.2⟩, rfl, (hw.mask [false, false, true, false, false, true] rfl).perm (List.Perm.swap _ _ _)⟩
    · refine wl_callw 5 rfl ci_68 (args2 (lk rfl) (lk rfl)) rfl (fun w1 hw => l1Below_c _ _ _ _ _ _ _ _ _ w1 (hk.hp hw (by simp)) (hw.own _ (.tail _ (.tail _ (.tail _ (.tail _ (.tail _ (.head _)))))))) (fun _ => rfl) ?_
      rintro ⟨x22, i22, h22⟩ hx22
      simp only at hx22
      refine wl_nil (px_qnF (fun _ h => ⟨(_, _), h.mask [false, true, true, true, true, true] rfl⟩) ?_)
      refine wa_only 0 (by kernel_rfl) rfl ?_
      refine wl_v rfl (val_loadB (.head _) (lk rfl) ag_41) ?_
      refine wl_nil (px_qnF (fun _ h => ⟨(_, _), h.mask [false, true, true, true, true, true] rfl⟩) ?_)
      refine wa_only 6 (by kernel_rfl) rfl ?_
      refine wl_call gd_none rfl ci_80 (args2 (lk rfl) (lk rfl)) (fun hG w1 hw => sConsumeQuota_c ⟨x10, ra8.held x10, 0⟩ x22 w1) ?_
      refine wl_nil (px_qnF (fun _ h => ⟨(_, _), h.mask [false, true, true, true, true, true] rfl⟩) ?_)
      refine wa_takeF 7 rfl (by kernel_rfl) (by kernel_rfl) (by kernel_rfl) (by kernel_rfl) (fun _ h => ⟨(_, _), h.mask [false, true, true, true, true, true] rfl⟩) gd_none rfl (fun _ => val_move (lk rfl)) ?_
      refine wa_takeF 8 rfl (by kernel_rfl) (by kernel_rfl) (by kernel_rfl) (by kernel_rfl) (fun _ h => ⟨(_, _), h.mask [false, true, true, true, true, true] rfl⟩) gd_none rfl (fun _ => val_extract (lk rfl) rfl) ?_
      refine wa_takeF 9 rfl (by kernel_rfl) (by kernel_rfl) (by kernel_rfl) (by kernel_rfl) (fun _ h => ⟨(_, _), h.mask [false, true, true, true, true, true] rfl⟩) gd_none rfl (fun _ => val_extract (lk rfl) rfl) ?_
      refine wa_only 10 (by kernel_rfl) rfl ?_
      refine wl_storeB 0 rfl (lk rfl) (lk rfl) ag_41 rfl rfl ?_
      refine wl_nil (px_qnF (fun _ h => ⟨(_, _), h.mask [false, true, true, true, true, true] rfl⟩) ?_)
      refine wa_done (by kernel_rfl) ?_
      refine px_then ?_
      refine wc_seq ?_
      refine wc_region_am [true, true, true, false, false, true] 4 mo_ rfl ?_
      refine wa_take 0 rfl (by kernel_rfl) (by kernel_rfl) (by kernel_rfl) (by kernel_rfl) (fun _ h => h.mask [true, true, true, false, false, true] rfl) gd_none rfl (val_loadB (.tail _ (.head _)) (lk rfl) ag_28) ?_
      refine wa_take 1 rfl (by kernel_rfl) (by kernel_rfl) (by kernel_rfl) (by kernel_rfl) (fun _ h => h.mask [true, true, true, false, false, true] rfl) gd_none rfl (val_loadB (.head _) (lk rfl) ag_41) ?_
      refine wa_only 2 (by kernel_rfl) rfl ?_
      refine wl_storeB 4 rfl (lk rfl) (lk rfl) ag_28 rfl rfl ?_
      refine wl_nil (px_qn (fun _ h => h.mask [true, true, true, false, false, true] rfl) ?_)
      refine wa_only 3 (by kernel_rfl) rfl ?_
      refine wl_storeB 3 rfl (lk rfl) (lk rfl) ag_41 rfl rfl ?_
      refine wl_nil (px_qn (fun _ h => h.mask [true, true, true, false, false, true] rfl) ?_)
      refine wa_done (by kernel_rfl) ?_
      refine px_then ?_
      refine wc_ret ?_
      refine fin2 rfl (res_cell rfl (.tail _ (.tail _ (.tail _ (.tail _ (.head _))))) ag_28) (res_cell rfl (.tail _ (.tail _ (.tail _ (.head _)))) ag_41) (fun w1 hw => ?_)
      have huse := use_holding (a := ra8) (id := x10) (u := x22) hok8 hx22.1 hx22.2.1
      exact ⟨(⟨ra8, rA8, rc8, gr8, rT8, rcs8⟩, ((⟨x10, ra8.held x10, 0⟩ : Quota).use x22), i22, h22), ⟨hR8, hok8, by rw [huse.1]; exact hx10.1, by rw [huse.1]; exact huse.2.1, huse.2.2.1, by rw [huse.2.1]; exact huse.2.2.2⟩, rfl, (hw.mask [false, false, true, false, false, true] rfl).perm (List.Perm.swap _ _ _)⟩

theorem l17Any_c (A : Option Addr) (n b o c cb i : Nat) (h : Int) (w : World) (hk : Code w A n b o cb) (hb : w.heap[cb]? = some (.cells (curC A n c i h).toArray 90 (0, 0))) :
    Calls Try.prog 67 #[.pointer (some ⟨cb, 0, none⟩)] w fun e w' => ∃ x : DA × Quota × Nat × Int, (x.1.row) ∧ e = .returned (.tuple #[x.1.a.val x.1.A x.1.c, x.2.1.val]) ∧ HP w [⟨cb, false, 90, curC A n c x.2.2.1 x.2.2.2⟩, ⟨x.1.g, true, x.1.T, x.1.cs⟩] w' := by
  refine calls_entry [⟨cb, false, 90, curC A n c i h⟩] _ Try.func67 rfl Try.ntmps67 (HP.one hb) (env1 rfl) ?_
  refine wc_seq ?_
  refine wc_region ?_
  refine wl_alloc zc_28 rfl fun b1 => ?_
  refine wl_alloc zc_41 rfl fun b2 => ?_
  refine wl_nil ?_
  refine px_then ?_
  refine wc_seq ?_
  refine wc_region ?_
  refine wl_v rfl (val_move (lk rfl)) ?_
  refine wl_callw 2 rfl ci_69 (args1 (lk rfl)) rfl (fun w1 hw => l17Pair_c _ _ _ _ _ _ _ _ w1 (hk.hp hw (by simp)) (hw.own _ (.tail _ (.tail _ (.head _))))) (fun _ => rfl) ?_
  rintro ⟨⟨ra8, rA8, rc8, gr8, rT8, rcs8⟩, rq8, i8, h8⟩ ⟨hR8, hok8, hq8⟩
  simp only [DA.row] at hR8
  simp only at hok8 hq8
  refine wl_v rfl (val_move (lk rfl)) ?_
  refine wl_v rfl (val_extract (lk rfl) rfl) ?_
  refine wl_v rfl (val_extract (lk rfl) rfl) ?_
  refine wl_alloc zc_28 rfl fun b3 => ?_
  refine wl_alloc zc_41 rfl fun b4 => ?_
  refine wl_storeB 1 rfl (lk rfl) (lk rfl) ag_28 rfl rfl ?_
  refine wl_storeB 0 rfl (lk rfl) (lk rfl) ag_41 rfl rfl ?_
  refine wl_nil ?_
  refine px_then ?_
  refine wc_seq ?_
  refine wc_seq ?_
  refine wc_region ?_
  refine wl_v rfl (val_move (lk rfl)) ?_
  refine wl_callw 5 rfl ci_68 (args2 (lk rfl) lkc) rfl (fun w1 hw => l1Below_c _ _ _ _ _ _ _ _ _ w1 (hk.hp hw (by simp)) (hw.own _ (.tail _ (.tail _ (.tail _ (.tail _ (.tail _ (.head _)))))))) (fun _ => rfl) ?_
  rintro ⟨x12, i12, h12⟩ hx12
  simp only at hx12
  refine wl_nil ?_
  refine px_then ?_
  refine wc_block ?_
  refine wc_seq ?_
  refine wc_region ?_
  refine wl_v rfl (val_eql (lk rfl) lkc) ?_
  refine wl_v rfl (val_assign (lk rfl)) ?_
  refine wl_nil ?_
  refine px_then ?_
  refine wc_cond (lk rfl) (fun hc0 => ?_) (fun hc0 => ?_)
  · refine wc_region ?_
    refine wl_v rfl (val_move (lk rfl)) ?_
    refine wl_callw 5 rfl ci_78 (args1 (lk rfl)) rfl (fun w1 hw => l16Any_c _ _ _ _ _ _ _ _ w1 (hk.hp hw (by simp)) (hw.own _ (.tail _ (.tail _ (.tail _ (.tail _ (.tail _ (.head _)))))))) (fun _ => rfl) ?_
    rintro ⟨⟨ra16, rA16, rc16, gr16, rT16, rcs16⟩, i16, h16⟩ ⟨hR16, hlen16⟩
    simp only [DA.row] at hR16
    simp only at hlen16
    refine wl_storeB 2 rfl (lk rfl) (lk rfl) ag_28 rfl rfl ?_
    refine wl_nil ?_
    refine px_block ?_
    refine px_then ?_
    refine wc_seq ?_
    refine wc_region_am [true, true, true, true, false, false, true] 4 mo_ rfl ?_
    refine wa_take 0 rfl (by kernel_rfl) (by kernel_rfl) (by kernel_rfl) (by kernel_rfl) (fun _ h => h.mask [true, true, true, true, false, false, true] rfl) gd_none rfl (val_loadB (.tail _ (.tail _ (.head _))) (lk rfl) ag_28) ?_
    refine wa_take 1 rfl (by kernel_rfl) (by kernel_rfl) (by kernel_rfl) (by kernel_rfl) (fun _ h => h.mask [true, true, true, true, false, false, true] rfl) gd_none rfl (val_loadB (.tail _ (.head _)) (lk rfl) ag_41) ?_
    refine wa_only 2 (by kernel_rfl) rfl ?_
    refine wl_storeB 5 rfl (lk rfl) (lk rfl) ag_28 rfl rfl ?_
    refine wl_nil (px_qn (fun _ h => h.mask [true, true, true, true, false, false, true] rfl) ?_)
    refine wa_only 3 (by kernel_rfl) rfl ?_
    refine wl_storeB 4 rfl (lk rfl) (lk rfl) ag_41 rfl rfl ?_
    refine wl_nil (px_qn (fun _ h => h.mask [true, true, true, true, false, false, true] rfl) ?_)
    refine wa_done (by kernel_rfl) ?_
    refine px_then ?_
    refine wc_ret ?_
    refine fin2 rfl (res_cell rfl (.tail _ (.tail _ (.tail _ (.tail _ (.tail _ (.head _)))))) ag_28) (res_cell rfl (.tail _ (.tail _ (.tail _ (.tail _ (.head _))))) ag_41) (fun w1 hw => ?_)
    exact ⟨(⟨ra16, rA16, rc16, gr16, rT16, rcs16⟩, rq8, i16, h16), hR16, rfl, (hw.mask [true, false, false, false, false, false, true] rfl).perm (List.Perm.swap _ _ _)⟩
  refine wc_seq ?_
  refine wc_region ?_
  refine wl_v rfl (val_eql (lk rfl) lkc) ?_
  refine wl_v rfl (val_assign (lk rfl)) ?_
  refine wl_nil ?_
  refine px_then ?_
  refine wc_cond (lk rfl) (fun hc1 => ?_) (fun hc1 => ?_)
  · refine wc_region ?_
    refine wl_v rfl (val_move (lk rfl)) ?_
    refine wl_v rfl (val_field fo_41_1 (lk rfl)) ?_
    refine wl_v rfl (val_load1 t1_3 (lk rfl) (cell_own (.head _) fun _ => rfl)) ?_
    refine wl_v rfl (val_add (lk rfl) lkc) ?_
    refine wl_bslice (partsC lkc (partsC (lk rfl) parts0)) (bsl_84_2_0_1 _ _) rfl fun b5 => ?_
    refine wl_callw 6 rfl ci_73 (args2 (lk rfl) (lk rfl)) rfl (fun w1 hw => l1Int_c _ _ _ _ _ _ _ _ [-1, IntKind.i64.wrap (rq8.granted + 1)] _ _ 0 _ w1 (hk.hp hw (by simp)) (hw.own _ (.tail _ (.tail _ (.tail _ (.tail _ (.tail _ (.tail _ (.head _)))))))) (Sl.own' hw (.head _)) (by have h9 := hw.nodup; simp at h9 ⊢; omega) (by simp) (by simp)) (fun _ => rfl) ?_
    rintro ⟨x24, i24, h24⟩ hx24
    simp only at hx24
    refine wl_v rfl (val_field fo_41_2 (lk rfl)) ?_
    refine wl_store1 1 rfl (lk rfl) (lk rfl) t1_3 rfl (rfl) ?_
    refine wl_nil ?_
    refine px_block ?_
    refine px_then ?_
    refine wc_seq ?_
    refine wc_region_am [true, true, true, true, false, false, true] 4 mo_ rfl ?_
    refine wa_take 0 rfl (by kernel_rfl) (by kernel_rfl) (by kernel_rfl) (by kernel_rfl) (fun _ h => h.mask [true, true, true, true, false, false, true] rfl) gd_none rfl (val_loadB (.tail _ (.tail _ (.head _))) (lk rfl) ag_28) ?_
    refine wa_take 1 rfl (by kernel_rfl) (by kernel_rfl) (by kernel_rfl) (by kernel_rfl) (fun _ h => h.mask [true, true, true, true, false, false, true] rfl) gd_none rfl (val_loadB (.tail _ (.head _)) (lk rfl) ag_41) ?_
    refine wa_only 2 (by kernel_rfl) rfl ?_
    refine wl_storeB 5 rfl (lk rfl) (lk rfl) ag_28 rfl rfl ?_
    refine wl_nil (px_qn (fun _ h => h.mask [true, true, true, true, false, false, true] rfl) ?_)
    refine wa_only 3 (by kernel_rfl) rfl ?_
    refine wl_storeB 4 rfl (lk rfl) (lk rfl) ag_41 rfl rfl ?_
    refine wl_nil (px_qn (fun _ h => h.mask [true, true, true, true, false, false, true] rfl) ?_)
    refine wa_done (by kernel_rfl) ?_
    refine px_then ?_
    refine wc_ret ?_
    refine fin2 rfl (res_cell rfl (.tail _ (.tail _ (.tail _ (.tail _ (.tail _ (.head _)))))) ag_28) (res_cell rfl (.tail _ (.tail _ (.tail _ (.tail _ (.head _))))) ag_41) (fun w1 hw => ?_)
    exact ⟨(⟨ra8, rA8, rc8, gr8, rT8, rcs8⟩, ⟨rq8.sid, rq8.granted, nth d0I [-1, IntKind.i64.wrap (rq8.granted + 1)] x24⟩, i24, h24), hR8, rfl, (hw.mask [false, false, false, true, false, false, true] rfl).perm (List.Perm.swap _ _ _)⟩
  refine wc_seq ?_
  refine wc_region ?_
  refine wl_v rfl (val_eql (lk rfl) lkc) ?_
  refine wl_v rfl (val_assign (lk rfl)) ?_
  refine wl_nil ?_
  refine px_then ?_
  refine wc_cond (lk rfl) (fun hc2 => ?_) (fun hc2 => ?_)
  · refine wc_region ?_
    refine wl_v rfl (val_move (lk rfl)) ?_
    refine wl_v rfl (val_field fo_41_1 (lk rfl)) ?_
    refine wl_v rfl (val_load1 t1_3 (lk rfl) (cell_own (.head _) fun _ => rfl)) ?_
    refine wl_v rfl (val_add (lk rfl) lkc) ?_
    refine wl_bslice (partsC (lk rfl) (partsC lkc (partsC lkc parts0))) (bsl_84_3_0_1_2 _ _ _) rfl fun b6 => ?_
    refine wl_callw 6 rfl ci_73 (args2 (lk rfl) (lk rfl)) rfl (fun w1 hw => l1Int_c _ _ _ _ _ _ _ _ [IntKind.i64.wrap (rq8.granted + 1), 100000, 100001] _ _ 0 _ w1 (hk.hp hw (by simp)) (hw.own _ (.tail _ (.tail _ (.tail _ (.tail _ (.tail _ (.tail _ (.head _)))))))) (Sl.own' hw (.head _)) (by have h9 := hw.nodup; simp at h9 ⊢; omega) (by simp) (by simp)) (fun _ => rfl) ?_
    rintro ⟨x33, i33, h33⟩ hx33
    simp only at hx33
    refine wl_v rfl (val_field fo_41_1 (lk rfl)) ?_
    refine wl_store1 1 rfl (lk rfl) (lk rfl) t1_3 rfl (rfl) ?_
    refine wl_nil ?_
    refine px_block ?_
    refine px_then ?_
    refine wc_seq ?_
    refine wc_region_am [true, true, true, true, false, false, true] 4 mo_ rfl ?_
    refine wa_take 0 rfl (by kernel_rfl) (by kernel_rfl) (by kernel_rfl) (by kernel_rfl) (fun _ h => h.mask [true, true, true, true, false, false, true] rfl) gd_none rfl (val_loadB (.tail _ (.tail _ (.head _))) (lk rfl) ag_28) ?_
    refine wa_take 1 rfl (by kernel_rfl) (by kernel_rfl) (by kernel_rfl) (by kernel_rfl) (fun _ h => h.mask [true, true, true, true, false, false, true] rfl) gd_none rfl (val_loadB (.tail _ (.head _)) (lk rfl) ag_41) ?_
    refine wa_only 2 (by kernel_rfl) rfl ?_
    refine wl_storeB 5 rfl (lk rfl) (lk rfl) ag_28 rfl rfl ?_
    refine wl_nil (px_qn (fun _ h => h.mask [true, true, true, true, false, false, true] rfl) ?_)
    refine wa_only 3 (by kernel_rfl) rfl ?_
    refine wl_storeB 4 rfl (lk rfl) (lk rfl) ag_41 rfl rfl ?_
    refine wl_nil (px_qn (fun _ h => h.mask [true, true, true, true, false, false, true] rfl) ?_)
    refine wa_done (by kernel_rfl) ?_
    refine px_then ?_
    refine wc_ret ?_
    refine fin2 rfl (res_cell rfl (.tail _ (.tail _ (.tail _ (.tail _ (.tail _ (.head _)))))) ag_28) (res_cell rfl (.tail _ (.tail _ (.tail _ (.tail _ (.head _))))) ag_41) (fun w1 hw => ?_)
    exact ⟨(⟨ra8, rA8, rc8, gr8, rT8, rcs8⟩, ⟨rq8.sid, nth d0I [IntKind.i64.wrap (rq8.granted + 1), 100000, 100001] x33, rq8.used⟩, i33, h33), hR8, rfl, (hw.mask [false, false, false, true, false, false, true] rfl).perm (List.Perm.swap _ _ _)⟩
  refine wc_seq ?_
  refine wc_region ?_
  refine wl_v rfl (val_eql (lk rfl) lkc) ?_
  refine wl_v rfl (val_assign (lk rfl)) ?_
  refine wl_nil ?_
  refine px_then ?_
  refine wc_cond (lk rfl) (fun hc3 => ?_) (fun hc3 => ?_)
  · refine wc_region ?_
    refine wl_v rfl (val_move (lk rfl)) ?_
    refine wl_callw 5 rfl ci_68 (args2 (lk rfl) lkc) rfl (fun w1 hw => l1Below_c _ _ _ _ _ _ _ _ _ w1 (hk.hp hw (by simp)) (hw.own _ (.tail _ (.tail _ (.tail _ (.tail _ (.tail _ (.head _)))))))) (fun _ => rfl) ?_
    rintro ⟨x38, i38, h38⟩ hx38
    simp only at hx38
    refine wl_v rfl (val_sub (lk rfl) lkc) ?_
    refine wl_v rfl (val_field fo_41_0 (lk rfl)) ?_
    refine wl_store1 0 rfl (lk rfl) (lk rfl) t1_3 rfl (rfl) ?_
    refine wl_nil ?_
    refine px_block ?_
    refine px_then ?_
    refine wc_seq ?_
    refine wc_region_am [true, true, true, false, false, true] 4 mo_ rfl ?_
    refine wa_take 0 rfl (by kernel_rfl) (by kernel_rfl) (by kernel_rfl) (by kernel_rfl) (fun _ h => h.mask [true, true, true, false, false, true] rfl) gd_none rfl (val_loadB (.tail _ (.head _)) (lk rfl) ag_28) ?_
    refine wa_take 1 rfl (by kernel_rfl) (by kernel_rfl) (by kernel_rfl) (by kernel_rfl) (fun _ h => h.mask [true, true, true, false, false, true] rfl) gd_none rfl (val_loadB (.head _) (lk rfl) ag_41) ?_
    refine wa_only 2 (by kernel_rfl) rfl ?_
    refine wl_storeB 4 rfl (lk rfl) (lk rfl) ag_28 rfl rfl ?_
    refine wl_nil (px_qn (fun _ h => h.mask [true, true, true, false, false, true] rfl) ?_)
    refine wa_only 3 (by kernel_rfl) rfl ?_
    refine wl_storeB 3 rfl (lk rfl) (lk rfl) ag_41 rfl rfl ?_
    refine wl_nil (px_qn (fun _ h => h.mask [true, true, true, false, false, true] rfl) ?_)
    refine wa_done (by kernel_rfl) ?_
    refine px_then ?_
    refine wc_ret ?_
    refine fin2 rfl (res_cell rfl (.tail _ (.tail _ (.tail _ (.tail _ (.head _))))) ag_28) (res_cell rfl (.tail _ (.tail _ (.tail _ (.head _)))) ag_41) (fun w1 hw => ?_)
    exact ⟨(⟨ra8, rA8, rc8, gr8, rT8, rcs8⟩, ⟨IntKind.i64.wrap (x38 - 1), rq8.granted, rq8.used⟩, i38, h38), hR8, rfl, (hw.mask [false, false, true, false, false, true] rfl).perm (List.Perm.swap _ _ _)⟩
  refine wc_skip ?_
  refine px_block ?_
  refine px_then ?_
  refine wc_seq ?_
  refine wc_region_am [true, true, true, false, false, true] 4 mo_ rfl ?_
  refine wa_take 0 rfl (by kernel_rfl) (by kernel_rfl) (by kernel_rfl) (by kernel_rfl) (fun _ h => h.mask [true, true, true, false, false, true] rfl) gd_none rfl (val_loadB (.tail _ (.head _)) (lk rfl) ag_28) ?_
  refine wa_take 1 rfl (by kernel_rfl) (by kernel_rfl) (by kernel_rfl) (by kernel_rfl) (fun _ h => h.mask [true, true, true, false, false, true] rfl) gd_none rfl (val_loadB (.head _) (lk rfl) ag_41) ?_
  refine wa_only 2 (by kernel_rfl) rfl ?_
  refine wl_storeB 4 rfl (lk rfl) (lk rfl) ag_28 rfl rfl ?_
  refine wl_nil (px_qn (fun _ h => h.mask [true, true, true, false, false, true] rfl) ?_)
  refine wa_only 3 (by kernel_rfl) rfl ?_
  refine wl_storeB 3 rfl (lk rfl) (lk rfl) ag_41 rfl rfl ?_
  refine wl_nil (px_qn (fun _ h => h.mask [true, true, true, false, false, true] rfl) ?_)
  refine wa_done (by kernel_rfl) ?_
  refine px_then ?_
  refine wc_ret ?_
  refine fin2 rfl (res_cell rfl (.tail _ (.tail _ (.tail _ (.tail _ (.head _))))) ag_28) (res_cell rfl (.tail _ (.tail _ (.tail _ (.head _)))) ag_41) (fun w1 hw => ?_)
  exact ⟨(⟨ra8, rA8, rc8, gr8, rT8, rcs8⟩, rq8, i12, h12), hR8, rfl, (hw.mask [false, false, true, false, false, true] rfl).perm (List.Perm.swap _ _ _)⟩

theorem DrawConsume_c (A : Option Addr) (n b o c : Nat) (w : World) (hk : Cod w A n b o) :
    Calls Try.prog 33 #[.slice A n c] w fun e w' => ∃ x : Quota × Int, True ∧ e = .returned (.tuple #[x.1.val, .int .i64 x.2]) ∧ HP w [] w' := by
  refine calls_entry [] _ Try.func33 rfl Try.ntmps33 (HP.refl w) (env1 rfl) ?_
  refine wc_seq ?_
  refine wc_region ?_
  refine wl_alloc zc_41 rfl fun b1 => ?_
  refine wl_v rfl (val_assign lkc) ?_
  refine wl_nil ?_
  refine px_then ?_
  refine wc_seq ?_
  refine wc_region ?_
  refine wl_v rfl (val_move (lk rfl)) ?_
  refine wl_callx rfl ci_66 (args1 (lk rfl)) (fun w1 hw => l1New_c _ _ _ _ _ w1 (hk.hp hw rfl)) (fun _ => rfl) ?_
  rintro ⟨gc8, h8⟩ -
  refine wl_v rfl (val_assign (lk rfl)) ?_
  refine wl_nil ?_
  refine px_then ?_
  refine wc_seq ?_
  refine wc_region ?_
  refine wl_v rfl (val_move (lk rfl)) ?_
  refine wl_callw 0 rfl ci_67 (args1 (lk rfl)) rfl (fun w1 hw => l17Any_c _ _ _ _ _ _ _ _ w1 (hk.cur hw rfl (.head _)) (hw.own _ (.head _))) (fun _ => rfl) ?_
  rintro ⟨⟨ra11, rA11, rc11, gr11, rT11, rcs11⟩, rq11, i11, h11⟩ hR11
  simp only [DA.row] at hR11
  refine wl_v rfl (val_move (lk rfl)) ?_
  refine wl_v rfl (val_extract (lk rfl) rfl) ?_
  refine wl_v rfl (val_extract (lk rfl) rfl) ?_
  refine wl_alloc zc_28 rfl fun b2 => ?_
  refine wl_alloc zc_41 rfl fun b3 => ?_
  refine wl_storeB 1 rfl (lk rfl) (lk rfl) ag_28 rfl rfl ?_
  refine wl_storeB 0 rfl (lk rfl) (lk rfl) ag_41 rfl rfl ?_
  refine wl_nil ?_
  refine px_then ?_
  refine wc_seq ?_
  refine wc_region_am [true, true, true, false, false] 6 mo_ rfl ?_
  refine wa_take 0 rfl (by kernel_rfl) (by kernel_rfl) (by kernel_rfl) (by kernel_rfl) (fun _ h => h.mask [true, true, true, false, false] rfl) gd_none rfl (val_loadB (.head _) (lk rfl) ag_41) ?_
  refine wa_take 1 rfl (by kernel_rfl) (by kernel_rfl) (by kernel_rfl) (by kernel_rfl) (fun _ h => h.mask [true, true, true, false, false] rfl) gd_none rfl (val_move (lk rfl)) ?_
  refine wa_only 2 (by kernel_rfl) rfl ?_
  refine wl_callw 3 rfl ci_68 (args2 (lk rfl) lkc) rfl (fun w1 hw => l1Below_c _ _ _ _ _ _ _ _ _ w1 (hk.cur hw rfl (.tail _ (.tail _ (.tail _ (.head _))))) (hw.own _ (.tail _ (.tail _ (.tail _ (.head _)))))) (fun _ => rfl) ?_
  rintro ⟨x16, i16, h16⟩ hx16
  simp only at hx16
  refine wl_nil (px_qn (fun _ h => h.mask [true, true, true, false, false] rfl) ?_)
  refine wa_take 3 rfl (by kernel_rfl) (by kernel_rfl) (by kernel_rfl) (by kernel_rfl) (fun _ h => h.mask [true, true, true, false, false] rfl) gd_none rfl (val_sub (lk rfl) lkc) ?_
  refine wa_only 4 (by kernel_rfl) rfl ?_
  refine wl_storeB 4 rfl (lk rfl) (lk rfl) ag_41 rfl rfl ?_
  refine wl_nil (px_qn (fun _ h => h.mask [true, true, true, false, false] rfl) ?_)
  refine wa_take 5 rfl (by kernel_rfl) (by kernel_rfl) (by kernel_rfl) (by kernel_rfl) (fun _ h => h.mask [true, true, true, false, false] rfl) gd_none rfl (val_assign (lk rfl)) ?_
  refine wa_done (by kernel_rfl) ?_
  refine px_then ?_
  refine wc_ret ?_
  refine fin2 rfl (res_cell rfl (.tail _ (.tail _ (.tail _ (.tail _ (.head _))))) ag_41) (res_tmp rfl) (fun w1 hw => ?_)
  exact ⟨(rq11, _), trivial, rfl, hw.drop rfl⟩

theorem DrawHolding_c (A : Option Addr) (n b o c : Nat) (w : World) (hk : Cod w A n b o) :
    Calls Try.prog 39 #[.slice A n c] w fun e w' => ∃ x : DA × Quota, (x.1.row ∧ x.1.a.ok = true ∧ 0 ≤ x.2.sid ∧ x.2.granted = x.1.a.held x.2.sid ∧ 0 ≤ x.2.used ∧ x.2.used ≤ x.2.granted) ∧ e = .returned (.tuple #[x.1.a.val x.1.A x.1.c, x.2.val]) ∧ HP w [⟨x.1.g, true, x.1.T, x.1.cs⟩] w' := by
  refine calls_entry [] _ Try.func39 rfl Try.ntmps39 (HP.refl w) (env1 rfl) ?_
  refine wc_seq ?_
  refine wc_region ?_
  refine wl_alloc zc_28 rfl fun b1 => ?_
  refine wl_alloc zc_41 rfl fun b2 => ?_
  refine wl_nil ?_
  refine px_then ?_
  refine wc_seq ?_
  refine wc_region ?_
  refine wl_v rfl (val_move (lk rfl)) ?_
  refine wl_callx rfl ci_66 (args1 (lk rfl)) (fun w1 hw => l1New_c _ _ _ _ _ w1 (hk.hp hw rfl)) (fun _ => rfl) ?_
  rintro ⟨gc6, h6⟩ -
  refine wl_v rfl (val_assign (lk rfl)) ?_
  refine wl_nil ?_
  refine px_then ?_
  refine wc_seq ?_
  refine wc_region ?_
  refine wl_v rfl (val_move (lk rfl)) ?_
  refine wl_callw 0 rfl ci_69 (args1 (lk rfl)) rfl (fun w1 hw => l17Pair_c _ _ _ _ _ _ _ _ w1 (hk.cur hw rfl (.head _)) (hw.own _ (.head _))) (fun _ => rfl) ?_
  rintro ⟨⟨ra8, rA8, rc8, gr8, rT8, rcs8⟩, rq8, i8, h8⟩ ⟨hR8, hok8, hq8⟩
  simp only [DA.row] at hR8
  simp only at hok8 hq8
  refine wl_v rfl (val_extract (lk rfl) rfl) ?_
  refine wl_v rfl (val_extract (lk rfl) rfl) ?_
  refine wl_storeB 3 rfl (lk rfl) (lk rfl) ag_28 rfl rfl ?_
  refine wl_storeB 2 rfl (lk rfl) (lk rfl) ag_41 rfl rfl ?_
  refine wl_nil ?_
  refine px_then ?_
  refine wc_ret ?_
  refine fin2 rfl (res_cell rfl (.tail _ (.tail _ (.tail _ (.head _)))) ag_28) (res_cell rfl (.tail _ (.tail _ (.head _))) ag_41) (fun w1 hw => ?_)
  exact ⟨(⟨ra8, rA8, rc8, gr8, rT8, rcs8⟩, rq8), ⟨hR8, hok8, hq8⟩, rfl, hw.mask [true, false, false, false] rfl⟩

theorem DrawAccount_c (A : Option Addr) (n b o c : Nat) (w : World) (hk : Cod w A n b o) :
    Calls Try.prog 44 #[.slice A n c] w fun e w' => ∃ x : DA, (x.row ∧ x.a.ok = true) ∧ e = .returned (x.a.val x.A x.c) ∧ HP w [⟨x.g, true, x.T, x.cs⟩] w' := by
  refine calls_entry [] _ Try.func44 rfl Try.ntmps44 (HP.refl w) (env1 rfl) ?_
  refine wc_seq ?_
  refine wc_region ?_
  refine wl_alloc zc_28 rfl fun b1 => ?_
  refine wl_nil ?_
  refine px_then ?_
  refine wc_seq ?_
  refine wc_region ?_
  refine wl_v rfl (val_move (lk rfl)) ?_
  refine wl_callx rfl ci_66 (args1 (lk rfl)) (fun w1 hw => l1New_c _ _ _ _ _ w1 (hk.hp hw rfl)) (fun _ => rfl) ?_
  rintro ⟨gc5, h5⟩ -
  refine wl_v rfl (val_assign (lk rfl)) ?_
  refine wl_nil ?_
  refine px_then ?_
  refine wc_seq ?_
  refine wc_region ?_
  refine wl_v rfl (val_move (lk rfl)) ?_
  refine wl_callw 0 rfl ci_71 (args1 (lk rfl)) rfl (fun w1 hw => l16Draw_c _ _ _ _ _ _ _ _ w1 (hk.cur hw rfl (.head _)) (hw.own _ (.head _))) (fun _ => rfl) ?_
  rintro ⟨⟨ra7, rA7, rc7, gr7, rT7, rcs7⟩, m7, i7, h7⟩ ⟨hR7, hok7⟩
  simp only [DA.row] at hR7
  simp only at hok7
  refine wl_storeB 2 rfl (lk rfl) (lk rfl) ag_28 rfl rfl ?_
  refine wl_nil ?_
  refine px_then ?_
  refine wc_ret ?_
  refine fin1 rfl (res_cell rfl (.tail _ (.tail _ (.head _))) ag_28) (fun w1 hw => ?_)
  exact ⟨⟨ra7, rA7, rc7, gr7, rT7, rcs7⟩, ⟨hR7, hok7⟩, rfl, hw.mask [true, false, false] rfl⟩

theorem l16One_c (A : Option Addr) (n b o c : Nat) (w : World) (hk : Cod w A n b o) :
    Calls Try.prog 72 #[.slice A n c] w fun e w' => ∃ x : DA × Nat × Nat × Int, (x.1.row ∧ x.1.a.res.length ≤ 9) ∧ e = .returned (.tuple #[.pointer (some ⟨x.2.1, 0, none⟩), x.1.a.val x.1.A x.1.c]) ∧ HP w [⟨x.1.g, true, x.1.T, x.1.cs⟩, ⟨x.2.1, true, 90, curC A n c x.2.2.1 x.2.2.2⟩] w' := by
  refine calls_entry [] _ Try.func72 rfl Try.ntmps72 (HP.refl w) (env1 rfl) ?_
  refine wc_seq ?_
  refine wc_region ?_
  refine wl_v rfl (val_assign lkc) ?_
  refine wl_alloc zc_28 rfl fun b1 => ?_
  refine wl_nil ?_
  refine px_then ?_
  refine wc_seq ?_
  refine wc_region ?_
  refine wl_v rfl (val_move (lk rfl)) ?_
  refine wl_callx rfl ci_66 (args1 (lk rfl)) (fun w1 hw => l1New_c _ _ _ _ _ w1 (hk.hp hw rfl)) (fun _ => rfl) ?_
  rintro ⟨gc6, h6⟩ -
  refine wl_v rfl (val_assign (lk rfl)) ?_
  refine wl_nil ?_
  refine px_then ?_
  refine wc_seq ?_
  refine wc_region ?_
  refine wl_v rfl (val_move (lk rfl)) ?_
  refine wl_v rfl (val_move (lk rfl)) ?_
  refine wl_callw 0 rfl ci_78 (args1 (lk rfl)) rfl (fun w1 hw => l16Any_c _ _ _ _ _ _ _ _ w1 (hk.cur hw rfl (.head _)) (hw.own _ (.head _))) (fun _ => rfl) ?_
  rintro ⟨⟨ra9, rA9, rc9, gr9, rT9, rcs9⟩, i9, h9⟩ ⟨hR9, hlen9⟩
  simp only [DA.row] at hR9
  simp only at hlen9
  refine wl_v rfl (val_assign (lk rfl)) ?_
  refine wl_storeB 2 rfl (lk rfl) (lk rfl) ag_28 rfl rfl ?_
  refine wl_nil ?_
  refine px_then ?_
  refine wc_ret ?_
  refine fin2 rfl (res_tmp rfl) (res_cell rfl (.tail _ (.tail _ (.head _))) ag_28) (fun w1 hw => ?_)
  exact ⟨(⟨ra9, rA9, rc9, gr9, rT9, rcs9⟩, gc6, _, _), ⟨hR9, hlen9⟩, rfl, hw.mask [true, true, false] rfl⟩

theorem DrawReserve_c (A : Option Addr) (n b o c : Nat) (w : World) (hk : Cod w A n b o) :
    Calls Try.prog 46 #[.slice A n c] w fun e w' => ∃ x : DA × Int × Int, (x.1.row ∧ x.1.a.res.length ≤ 9) ∧ e = .returned (.tuple #[x.1.a.val x.1.A x.1.c, .int .i64 x.2.1, .int .i64 x.2.2]) ∧ HP w [⟨x.1.g, true, x.1.T, x.1.cs⟩] w' := by
  refine calls_entry [] _ Try.func46 rfl Try.ntmps46 (HP.refl w) (env1 rfl) ?_
  refine wc_seq ?_
  refine wc_region ?_
  refine wl_alloc zc_28 rfl fun b1 => ?_
  refine wl_v rfl (val_assign lkc) ?_
  refine wl_v rfl (val_assign lkc) ?_
  refine wl_nil ?_
  refine px_then ?_
  refine wc_seq ?_
  refine wc_region ?_
  refine wl_v rfl (val_move (lk rfl)) ?_
  refine wl_callx rfl ci_72 (args1 (lk rfl)) (fun w1 hw => l16One_c _ _ _ _ _ w1 (hk.hp hw rfl)) (fun _ => rfl) ?_
  rintro ⟨⟨ra10, rA10, rc10, gr10, rT10, rcs10⟩, gcb10, gi10, gh10⟩ ⟨hR10, hlen10⟩
  simp only [DA.row] at hR10
  simp only at hlen10
  refine wl_v rfl (val_move (lk rfl)) ?_
  refine wl_v rfl (val_extract (lk rfl) rfl) ?_
  refine wl_v rfl (val_extract (lk rfl) rfl) ?_
  refine wl_alloc zc_28 rfl fun b2 => ?_
  refine wl_v rfl (val_assign (lk rfl)) ?_
  refine wl_storeB 0 rfl (lk rfl) (lk rfl) ag_28 rfl rfl ?_
  refine wl_nil ?_
  refine px_then ?_
  refine wc_seq ?_
  refine wc_region ?_
  refine wl_v rfl (val_move (lk rfl)) ?_
  refine wl_callw 2 rfl ci_68 (args2 (lk rfl) lkc) rfl (fun w1 hw => l1Below_c _ _ _ _ _ _ _ _ _ w1 (hk.cur hw rfl (.tail _ (.tail _ (.head _)))) (hw.own _ (.tail _ (.tail _ (.head _))))) (fun _ => rfl) ?_
  rintro ⟨x14, i14, h14⟩ hx14
  simp only at hx14
  refine wl_v rfl (val_sub (lk rfl) lkc) ?_
  refine wl_v rfl (val_assign (lk rfl)) ?_
  refine wl_nil ?_
  refine px_then ?_
  refine wc_seq ?_
  refine wc_region_am [true, true, false, false] 8 mo_ rfl ?_
  refine wa_take 0 rfl (by kernel_rfl) (by kernel_rfl) (by kernel_rfl) (by kernel_rfl) (fun _ h => h.mask [true, true, false, false] rfl) gd_none rfl (val_loadB (.head _) (lk rfl) ag_28) ?_
  refine wa_take 1 rfl (by kernel_rfl) (by kernel_rfl) (by kernel_rfl) (by kernel_rfl) (fun _ h => h.mask [true, true, false, false] rfl) gd_none rfl (val_move (lk rfl)) ?_
  refine wa_take 2 rfl (by kernel_rfl) (by kernel_rfl) (by kernel_rfl) (by kernel_rfl) (fun _ h => h.mask [true, true, false, false] rfl) gd_none rfl (val_move (lk rfl)) ?_
  refine wa_only 3 (by kernel_rfl) rfl ?_
  refine wl_bslice (partsC lkc (partsC lkc (partsC lkc (partsC lkc (partsC lkc (partsC lkc parts0)))))) (bsl_84_6_0_1_2_3_4_5 _ _ _ _ _ _) rfl fun b3 => ?_
  refine wl_nil (px_qn (fun _ h => h.mask [false, true, true, false, false] rfl) ?_)
  refine wa_only 4 (by kernel_rfl) rfl ?_
  refine wl_callw 3 rfl ci_73 (args2 (lk rfl) (lk rfl)) rfl (fun w1 hw => l1Int_c _ _ _ _ _ _ _ _ [1, 5, 50, 0, 100000, 100001] _ _ 0 _ w1 (hk.cur hw rfl (.tail _ (.tail _ (.tail _ (.head _))))) (hw.own _ (.tail _ (.tail _ (.tail _ (.head _))))) (Sl.own' hw (.head _)) (by have h9 := hw.nodup; simp at h9 ⊢; omega) (by simp) (by simp)) (fun _ => rfl) ?_
  rintro ⟨x20, i20, h20⟩ hx20
  simp only at hx20
  refine wl_nil (px_qn (fun _ h => h.mask [false, true, true, false, false] rfl) ?_)
  refine wa_only 5 (by kernel_rfl) rfl ?_
  refine wl_storeB 4 rfl (lk rfl) (lk rfl) ag_28 rfl rfl ?_
  refine wl_nil (px_qn (fun _ h => h.mask [false, true, true, false, false] rfl) ?_)
  refine wa_take 6 rfl (by kernel_rfl) (by kernel_rfl) (by kernel_rfl) (by kernel_rfl) (fun _ h => h.mask [false, true, true, false, false] rfl) gd_none rfl (val_assign (lk rfl)) ?_
  refine wa_take 7 rfl (by kernel_rfl) (by kernel_rfl) (by kernel_rfl) (by kernel_rfl) (fun _ h => h.mask [false, true, true, false, false] rfl) gd_none rfl (val_assign (lk rfl)) ?_
  refine wa_done (by kernel_rfl) ?_
  refine px_then ?_
  refine wc_ret ?_
  refine fin3 rfl (res_cell rfl (.tail _ (.tail _ (.tail _ (.tail _ (.head _))))) ag_28) (res_tmp rfl) (res_tmp rfl) (fun w1 hw => ?_)
  exact ⟨(⟨ra10, rA10, rc10, gr10, rT10, rcs10⟩, _, _), ⟨hR10, hlen10⟩, rfl, hw.mask [false, false, true, false, false] rfl⟩

end Go.Proofs.Ytdiojflamjppmaa
