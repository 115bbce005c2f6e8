/- Drawn records and agreements, walked. -/
import Derived.Test.YtcdinidpclmmeaaSxU
namespace Go.Proofs.Ytcdinidpclmmeaa
open Go.RowKit


structure DL where
  xs : List Rec
  g : Nat
  c : Nat
  sp : List Value
def DL.row (x : DL) : Prop := (flat encU x.xs ++ x.sp).length = x.c * 4 ∧ x.c ≤ 9223372036854775807
def DL.val (x : DL) : Value := .slice (some ⟨x.g, 0, none⟩) x.xs.length x.c
structure DLS where
  d : DL
  m : Nat
  i : Nat
  h : Int
theorem HP.sw {w w' : World} {bs : List Blk} {x y : Blk} (h : HP w bs w') (e : bs = [x, y]) : HP w [y, x] w' := by
  subst e
  exact h.perm (List.Perm.swap _ _ _)
theorem appU_ok {rs : List Rec} (h : okAll rs = true) (r : Rec) : okAll (appU rs r) = true := by
  unfold appU
  split
  · assumption
  · exact h
theorem appU_le (rs : List Rec) (r : Rec) : (appU rs r).length ≤ rs.length + 1 := by
  unfold appU
  split
  · simp
  · omega
theorem flat_set {α : Type} {enc : α → List Int} {k : Nat} (hk : ∀ r, (enc r).length = k) (d : α) : ∀ (rs : List α) (m f : Nat) (r' : α) (v : Value) (sp : List Value), m < rs.length → f < k → recV enc r' = (recV enc (nth d rs m)).set f v → (flat enc rs ++ sp).set (m * k + f) v = flat enc (rs.set m r') ++ sp
  | [], _, _, _, _, _, h, _, _ => by simp at h
  | r :: rs, 0, f, r', v, sp, _, hf, hv => by
    have h0 : nth d (r :: rs) 0 = r := rfl
    rw [h0] at hv
    rw [Nat.zero_mul, Nat.zero_add, List.set_cons_zero, flat_cons, flat_cons, List.append_assoc, List.append_assoc, List.set_append_left _ _ (by rw [recV_len hk]; exact hf), hv]
  | r :: rs, m + 1, f, r', v, sp, h, hf, hv => by
    have h0 : nth d (r :: rs) (m + 1) = nth d rs m := rfl
    rw [h0] at hv
    have ih := flat_set hk d rs m f r' v sp (by simpa using h) hf hv
    have e1 : (m + 1) * k + f - k = m * k + f := by rw [Nat.succ_mul]; omega
    rw [List.set_cons_succ, flat_cons, flat_cons, List.append_assoc, List.append_assoc, List.set_append_right _ _ (by rw [recV_len hk, Nat.succ_mul]; omega), recV_len hk, e1, ih]

theorem l18One_c (A : Option Addr) (n b o c cb i : Nat) (h : Int) (w : World) (hk : Code w A n b o cb) (hb : w.heap[cb]? = some (.cells (curC A n c i h).toArray 67 (0, 0))) :
    Calls Try.prog 55 #[.pointer (some ⟨cb, 0, none⟩)] w fun e w' => ∃ x : Rec × Nat × Int, True ∧ e = .returned (.agg (recV encU x.1).toArray) ∧ HP w [⟨cb, false, 67, curC A n c x.2.1 x.2.2⟩] w' := by
  refine calls_entry [⟨cb, false, 67, curC A n c i h⟩] _ Try.func55 rfl Try.ntmps55 (HP.one hb) (env1 rfl) ?_
  refine wc_seq ?_
  refine wc_region ?_
  refine wl_alloc zc_31 rfl fun b1 => ?_
  refine wl_nil ?_
  refine px_then ?_
  refine wc_seq ?_
  refine wc_region ?_
  refine wl_v rfl (val_move (lk rfl)) ?_
  refine wl_callw 1 rfl ci_54 (args2 (lk rfl) lkc) rfl (fun w1 hw => l1Below_c _ _ _ _ _ _ _ _ _ w1 (hk.hp hw (by simp)) (hw.own _ (.tail _ (.head _)))) (fun _ => rfl) ?_
  rintro ⟨x4, i4, h4⟩ hx4
  simp only at hx4
  refine wl_v rfl (val_move (lk rfl)) ?_
  refine wl_callw 1 rfl ci_54 (args2 (lk rfl) lkc) rfl (fun w1 hw => l1Below_c _ _ _ _ _ _ _ _ _ w1 (hk.hp hw (by simp)) (hw.own _ (.tail _ (.head _)))) (fun _ => rfl) ?_
  rintro ⟨x6, i6, h6⟩ hx6
  simp only at hx6
  refine wl_v rfl (val_move (lk rfl)) ?_
  refine wl_callw 1 rfl ci_54 (args2 (lk rfl) lkc) rfl (fun w1 hw => l1Below_c _ _ _ _ _ _ _ _ _ w1 (hk.hp hw (by simp)) (hw.own _ (.tail _ (.head _)))) (fun _ => rfl) ?_
  rintro ⟨x8, i8, h8⟩ hx8
  simp only at hx8
  refine wl_v rfl (val_add lkc (lk rfl)) ?_
  refine wl_v rfl (val_move (lk rfl)) ?_
  refine wl_callw 1 rfl ci_54 (args2 (lk rfl) lkc) rfl (fun w1 hw => l1Below_c _ _ _ _ _ _ _ _ _ w1 (hk.hp hw (by simp)) (hw.own _ (.tail _ (.head _)))) (fun _ => rfl) ?_
  rintro ⟨x11, i11, h11⟩ hx11
  simp only at hx11
  refine wl_v rfl (val_buildP (partsC (lk rfl) (partsC (lk rfl) (partsC (lk rfl) (partsC (lk rfl) parts0)))) (bl_31_0_1_2_3 _ _ _ _)) ?_
  refine wl_storeB 0 rfl (lk rfl) (lk rfl) ag_31 rfl rfl ?_
  refine wl_nil ?_
  refine px_then ?_
  refine wc_ret ?_
  refine fin1 rfl (res_cell rfl (.head _) ag_31) (fun w1 hw => ?_)
  exact ⟨(⟨x4, x6, IntKind.i64.wrap (1 + x8), x11⟩, i11, h11), trivial, rfl, hw.mask [false, true] rfl⟩

theorem l18Draw_c (A : Option Addr) (n b o c cb i : Nat) (h : Int) (w : World) (hk : Code w A n b o cb) (hb : w.heap[cb]? = some (.cells (curC A n c i h).toArray 67 (0, 0))) :
    Calls Try.prog 38 #[.pointer (some ⟨cb, 0, none⟩)] w fun e w' => ∃ x : DL × Nat × Int, (x.1.row ∧ okAll x.1.xs = true ∧ x.1.xs.length ≤ 8) ∧ e = .returned x.1.val ∧ HP w [⟨cb, false, 67, curC A n c x.2.1 x.2.2⟩, ⟨x.1.g, true, 31, flat encU x.1.xs ++ x.1.sp⟩] w' := by
  refine calls_entry [⟨cb, false, 67, curC A n c i h⟩] _ Try.func38 rfl Try.ntmps38 (HP.one hb) (env1 rfl) ?_
  refine wc_seq ?_
  refine wc_region ?_
  refine wl_v rfl (val_assign lkc) ?_
  refine wl_nil ?_
  refine px_then ?_
  refine wc_seq ?_
  refine wc_region ?_
  refine wl_bslice parts0 bsl_24_0_ rfl fun b1 => ?_
  refine wl_v rfl (val_assign (lk rfl)) ?_
  refine wl_nil ?_
  refine px_then ?_
  refine wc_seq ?_
  refine wc_seq ?_
  refine wc_region ?_
  refine wl_v rfl (val_move (lk rfl)) ?_
  refine wl_callw 1 rfl ci_54 (args2 (lk rfl) lkc) rfl (fun w1 hw => l1Below_c _ _ _ _ _ _ _ _ _ w1 (hk.hp hw (by simp)) (hw.own _ (.tail _ (.head _)))) (fun _ => rfl) ?_
  rintro ⟨x7, i7, h7⟩ hx7
  simp only at hx7
  refine wl_v rfl (val_assign (lk rfl)) ?_
  refine wl_nil ?_
  refine px_then ?_
  refine wc_block ?_
  refine wc_trim (l' := [(0, _), (2, _), (3, _), (4, _)]) ⟨rfl, rfl, rfl, rfl, trivial⟩ ?_
  refine wc_loopl (X := DLS) (fun x => x.d.row ∧ okAll x.d.xs = true ∧ x.d.xs.length + x.m ≤ 8) (fun x => [(3, (true, .slice (some ⟨x.d.g, 0, none⟩) x.d.xs.length x.d.c)), (4, (true, .int .i64 (x.m : Nat)))]) (fun x => [⟨x.d.g, true, 31, flat encU x.d.xs ++ x.d.sp⟩, ⟨cb, false, 67, curC A n c x.i x.h⟩]) (fun x => x.m) ⟨⟨[], b1, 0, []⟩, x7.toNat, i7, h7⟩ (⟨⟨rfl, Nat.zero_le _⟩, rfl, by have := hx7.2.1; show 0 + x7.toNat ≤ 8; omega⟩) ⟨rfl, slotI (by have := hx7.1; show x7 = ((x7.toNat : Nat) : Int); omega), rfl, rfl, rfl, slotI (by have := hx7.1; show x7 = ((x7.toNat : Nat) : Int); omega), trivial⟩ (fun _ h => h) ?_
  rintro ⟨⟨xs, gr, gc, gs⟩, m, i, h⟩ ⟨⟨hgl, hgc⟩, hok, hmb⟩
  simp only at hgl hgc hok hmb
  dsimp only
  refine wc_seq ?_
  refine wc_seq ?_
  refine wc_region ?_
  refine wl_v rfl (val_move (lk rfl)) ?_
  refine wl_v rfl (val_gtr (lk rfl) lkc) ?_
  refine wl_nil ?_
  refine px_then ?_
  refine wc_cond (lk rfl) (fun hc0 => ?_) (fun hc0 => ?_)
  · have hm0 : 0 < m := by have := of_decide_eq_true hc0; omega
    refine wc_skip ?_
    refine px_then ?_
    refine wc_seq ?_
    refine wc_block ?_
    refine wc_region ?_
    refine wl_v rfl (val_move (lk rfl)) ?_
    refine wl_v rfl (val_move (lk rfl)) ?_
    refine wl_callw 1 rfl ci_55 (args1 (lk rfl)) rfl (fun w1 hw => l18One_c _ _ _ _ _ _ _ _ w1 (hk.hp hw (by simp)) (hw.own _ (.tail _ (.head _)))) (fun _ => rfl) ?_
    rintro ⟨x15, i15, h15⟩ -
    refine wl_callx rfl ci_17 (args2 (lk rfl) (lk rfl)) (fun w1 hw => sApp_c xs _ _ _ _ x15 w1 (Sl.own hw (.head _)) (by omega)) (fun _ => rfl) ?_
    rintro ⟨gb16, gc16, gs16⟩ ⟨hgl16, hgc16⟩
    refine wl_v rfl (val_move (lk rfl)) ?_
    refine wl_v rfl (val_extract (lk rfl) rfl) ?_
    refine wl_v rfl (val_extract (lk rfl) rfl) ?_
    refine wl_v rfl (val_assign (lk rfl)) ?_
    refine wl_nil ?_
    refine px_block ?_
    refine px_then ?_
    refine wc_region ?_
    refine wl_v rfl (val_move (lk rfl)) ?_
    refine wl_v rfl (val_dec (lk rfl) (fun hG => ⟨by omega, by omega⟩)) ?_
    refine wl_v rfl (val_assign (lk rfl)) ?_
    refine wl_nil ?_
    refine px_round (⟨⟨appU xs x15, gb16, gc16, gs16⟩, m - 1, i15, h15⟩) (⟨⟨hgl16, hgc16⟩, appU_ok hok x15, by have := appU_le xs x15; show (appU xs x15).length + (m - 1) ≤ 8; omega⟩) (by show m - 1 < m; omega) (⟨rfl, rfl, rfl, rfl, rfl, rfl, trivial⟩) (fun _ h => h.mask [true, false, true] rfl)
  have hm0 : m = 0 := by have := of_decide_eq_false hc0; omega
  refine wc_exit ?_
  refine px_then_exit ?_
  refine px_then_exit ?_
  refine px_block_exit ?_
  refine px_then ?_
  refine wc_seq ?_
  refine wc_region ?_
  refine wl_v rfl (val_move (lk rfl)) ?_
  refine wl_v rfl (val_assign (lk rfl)) ?_
  refine wl_nil ?_
  refine px_then ?_
  refine wc_ret ?_
  refine fin1 rfl (res_tmp rfl) (fun w1 hw => ?_)
  exact ⟨(⟨xs, gr, gc, gs⟩, i, h), ⟨⟨hgl, hgc⟩, hok, by show xs.length ≤ 8; omega⟩, rfl, (hw.mask [true, true] rfl).sw rfl⟩

theorem l18Any_c (A : Option Addr) (n b o c cb i : Nat) (h : Int) (w : World) (hk : Code w A n b o cb) (hb : w.heap[cb]? = some (.cells (curC A n c i h).toArray 67 (0, 0))) :
    Calls Try.prog 57 #[.pointer (some ⟨cb, 0, none⟩)] w fun e w' => ∃ x : DL × Nat × Int, (x.1.row ∧ x.1.xs.length ≤ 25) ∧ e = .returned x.1.val ∧ HP w [⟨cb, false, 67, curC A n c x.2.1 x.2.2⟩, ⟨x.1.g, true, 31, flat encU x.1.xs ++ x.1.sp⟩] w' := by
  refine calls_entry [⟨cb, false, 67, curC A n c i h⟩] _ Try.func57 rfl Try.ntmps57 (HP.one hb) (env1 rfl) ?_
  refine wc_seq ?_
  refine wc_region ?_
  refine wl_v rfl (val_assign lkc) ?_
  refine wl_nil ?_
  refine px_then ?_
  refine wc_seq ?_
  refine wc_region ?_
  refine wl_v rfl (val_move (lk rfl)) ?_
  refine wl_callw 0 rfl ci_38 (args1 (lk rfl)) rfl (fun w1 hw => l18Draw_c _ _ _ _ _ _ _ _ w1 (hk.hp hw (by simp)) (hw.own _ (.head _))) (fun _ => rfl) ?_
  rintro ⟨⟨xs6, gr6, gc6, gs6⟩, i6, h6⟩ ⟨⟨hgl6, hgc6⟩, hok6, hlen6⟩
  simp only at hgl6 hgc6 hok6 hlen6
  refine wl_v rfl (val_assign (lk rfl)) ?_
  refine wl_nil ?_
  refine px_then ?_
  refine wc_seq ?_
  refine wc_seq ?_
  refine wc_region ?_
  refine wl_v rfl (val_move (lk rfl)) ?_
  refine wl_callw 1 rfl ci_54 (args2 (lk rfl) lkc) rfl (fun w1 hw => l1Below_c _ _ _ _ _ _ _ _ _ w1 (hk.hp hw (by simp)) (hw.own _ (.tail _ (.head _)))) (fun _ => rfl) ?_
  rintro ⟨x8, i8, h8⟩ hx8
  simp only at hx8
  refine wl_nil ?_
  refine px_then ?_
  refine wc_block ?_
  refine wc_seq ?_
  refine wc_region ?_
  refine wl_v rfl (val_eql (lk rfl) lkc) ?_
  refine wl_v rfl (val_assign (lk rfl)) ?_
  refine wl_nil ?_
  refine px_then ?_
  refine wc_cond (lk rfl) (fun hc0 => ?_) (fun hc0 => ?_)
  · refine wc_region ?_
    refine wl_v rfl (val_move (lk rfl)) ?_
    refine wl_v rfl (val_move (lk rfl)) ?_
    refine wl_bslice (partsC lkc (partsC lkc (partsC lkc parts0))) (bsl_44_3_0_1_2 _ _ _) rfl fun b1 => ?_
    refine wl_callw 2 rfl ci_59 (args2 (lk rfl) (lk rfl)) rfl (fun w1 hw => l1Int_c _ _ _ _ _ _ _ _ [-1, 3, 4] _ _ 0 _ w1 (hk.hp hw (by simp)) (hw.own _ (.tail _ (.tail _ (.head _)))) (Sl.own' hw (.head _)) (by have h9 := hw.nodup; simp at h9 ⊢; omega) (by simp) (by simp)) (fun _ => rfl) ?_
    rintro ⟨x14, i14, h14⟩ hx14
    simp only at hx14
    refine wl_v rfl (val_move (lk rfl)) ?_
    refine wl_bslice (partsC lkc (partsC lkc parts0)) (bsl_44_2_0_1 _ _) rfl fun b2 => ?_
    refine wl_callw 3 rfl ci_59 (args2 (lk rfl) (lk rfl)) rfl (fun w1 hw => l1Int_c _ _ _ _ _ _ _ _ [-1, 0] _ _ 0 _ w1 (hk.hp hw (by simp)) (hw.own _ (.tail _ (.tail _ (.tail _ (.head _))))) (Sl.own' hw (.head _)) (by have h9 := hw.nodup; simp at h9 ⊢; omega) (by simp) (by simp)) (fun _ => rfl) ?_
    rintro ⟨x17, i17, h17⟩ hx17
    simp only at hx17
    refine wl_v rfl (val_move (lk rfl)) ?_
    refine wl_bslice (partsC lkc (partsC lkc (partsC lkc (partsC lkc parts0)))) (bsl_44_4_0_1_2_3 _ _ _ _) rfl fun b3 => ?_
    refine wl_callw 4 rfl ci_59 (args2 (lk rfl) (lk rfl)) rfl (fun w1 hw => l1Int_c _ _ _ _ _ _ _ _ [0, 1, 100000, 100001] _ _ 0 _ w1 (hk.hp hw (by simp)) (hw.own _ (.tail _ (.tail _ (.tail _ (.tail _ (.head _)))))) (Sl.own' hw (.head _)) (by have h9 := hw.nodup; simp at h9 ⊢; omega) (by simp) (by simp)) (fun _ => rfl) ?_
    rintro ⟨x20, i20, h20⟩ hx20
    simp only at hx20
    refine wl_v rfl (val_move (lk rfl)) ?_
    refine wl_bslice (partsC lkc (partsC lkc (partsC lkc parts0))) (bsl_44_3_0_1_2 _ _ _) rfl fun b4 => ?_
    refine wl_callw 5 rfl ci_59 (args2 (lk rfl) (lk rfl)) rfl (fun w1 hw => l1Int_c _ _ _ _ _ _ _ _ [-1, 100000, 100001] _ _ 0 _ w1 (hk.hp hw (by simp)) (hw.own _ (.tail _ (.tail _ (.tail _ (.tail _ (.tail _ (.head _))))))) (Sl.own' hw (.head _)) (by have h9 := hw.nodup; simp at h9 ⊢; omega) (by simp) (by simp)) (fun _ => rfl) ?_
    rintro ⟨x23, i23, h23⟩ hx23
    simp only at hx23
    refine wl_v rfl (val_buildP (partsC (lk rfl) (partsC (lk rfl) (partsC (lk rfl) (partsC (lk rfl) parts0)))) (bl_31_0_1_2_3 _ _ _ _)) ?_
    refine wl_bslice (partsC (lk rfl) parts0) (bsl_24_1_0 _ _ _ _) rfl fun b5 => ?_
    refine wl_appendR encU_len (by decide) xs6 [⟨nth d0I [-1, 3, 4] x14, nth d0I [-1, 0] x17, nth d0I [0, 1, 100000, 100001] x20, nth d0I [-1, 100000, 100001] x23⟩] 5 es_24 zc_31 rfl eb_31 (lk rfl) rfl hgl6 hgc6 (lk rfl) (fun _ hw => Sl.own' (vs := flat encU [⟨nth d0I [-1, 3, 4] x14, nth d0I [-1, 0] x17, nth d0I [0, 1, 100000, 100001] x20, nth d0I [-1, 100000, 100001] x23⟩]) hw (.head _)) (by first | omega | (simp only [List.length_nil]; omega) | (simp only [List.length_cons, List.length_nil]; omega)) (by first | omega | (simp only [List.length_nil]; omega) | (simp only [List.length_cons, List.length_nil]; omega)) rfl fun a26 ac26 as26 hal26 ham26 => ?_
    refine wl_v rfl (val_assign (lk rfl)) ?_
    refine wl_nil ?_
    refine px_block ?_
    refine px_then ?_
    refine wc_seq ?_
    refine wc_region ?_
    refine wl_v rfl (val_move (lk rfl)) ?_
    refine wl_v rfl (val_assign (lk rfl)) ?_
    refine wl_nil ?_
    refine px_then ?_
    refine wc_ret ?_
    refine fin1 rfl (res_tmp rfl) (fun w1 hw => ?_)
    exact ⟨(⟨xs6 ++ [⟨nth d0I [-1, 3, 4] x14, nth d0I [-1, 0] x17, nth d0I [0, 1, 100000, 100001] x20, nth d0I [-1, 100000, 100001] x23⟩], a26, ac26, as26⟩, i23, h23), ⟨⟨hal26, ham26⟩, by show (xs6 ++ [_]).length ≤ 25; simp; omega⟩, rfl, (hw.mask [true, false, false, false, false, false, true] rfl).sw rfl⟩
  refine wc_seq ?_
  refine wc_region ?_
  refine wl_v rfl (val_eql (lk rfl) lkc) ?_
  refine wl_v rfl (val_assign (lk rfl)) ?_
  refine wl_nil ?_
  refine px_then ?_
  refine wc_cond (lk rfl) (fun hc1 => ?_) (fun hc1 => ?_)
  · refine wc_region ?_
    refine wl_v rfl (val_move (lk rfl)) ?_
    refine wl_v rfl (val_move (lk rfl)) ?_
    refine wl_callx rfl ci_43 (args1 (lk rfl)) (fun w1 hw => sCopyU_c xs6 _ _ _ _ w1 (Sl.own hw (.head _)) (by omega)) (fun _ => rfl) ?_
    rintro ⟨gb31, gc31, gs31⟩ ⟨hgl31, hgc31⟩
    refine wl_appendR encU_len (by decide) xs6 xs6 1 es_24 zc_31 rfl eb_31 (lk rfl) rfl hgl6 hgc6 (lk rfl) (fun _ hw => Sl.own hw (.head _)) (by first | omega | (simp only [List.length_nil]; omega) | (simp only [List.length_cons, List.length_nil]; omega)) (by first | omega | (simp only [List.length_nil]; omega) | (simp only [List.length_cons, List.length_nil]; omega)) rfl fun a32 ac32 as32 hal32 ham32 => ?_
    refine wl_v rfl (val_assign (lk rfl)) ?_
    refine wl_nil ?_
    refine px_block ?_
    refine px_then ?_
    refine wc_seq ?_
    refine wc_region ?_
    refine wl_v rfl (val_move (lk rfl)) ?_
    refine wl_v rfl (val_assign (lk rfl)) ?_
    refine wl_nil ?_
    refine px_then ?_
    refine wc_ret ?_
    refine fin1 rfl (res_tmp rfl) (fun w1 hw => ?_)
    exact ⟨(⟨xs6 ++ xs6, a32, ac32, as32⟩, i8, h8), ⟨⟨hal32, ham32⟩, by show (xs6 ++ xs6).length ≤ 25; simp; omega⟩, rfl, (hw.mask [true, false, true] rfl).sw rfl⟩
  refine wc_seq ?_
  refine wc_region ?_
  refine wl_v rfl (val_eql (lk rfl) lkc) ?_
  refine wl_v rfl (val_assign (lk rfl)) ?_
  refine wl_nil ?_
  refine px_then ?_
  refine wc_cond (lk rfl) (fun hc2 => ?_) (fun hc2 => ?_)
  · refine wc_seq ?_
    refine wc_region ?_
    refine wl_v rfl (val_assign lkc) ?_
    refine wl_nil ?_
    refine px_then ?_
    refine wc_block ?_
    refine wc_trim (l' := [(0, _), (2, _), (3, _), (4, _)]) ⟨rfl, rfl, rfl, rfl, trivial⟩ ?_
    refine wc_loopl (X := DLS) (fun x => x.d.row ∧ x.m ≤ x.d.xs.length ∧ x.d.xs.length ≤ 25) (fun x => [(3, (true, .slice (some ⟨x.d.g, 0, none⟩) x.d.xs.length x.d.c)), (4, (true, .int .i64 (x.m : Nat)))]) (fun x => [⟨x.d.g, true, 31, flat encU x.d.xs ++ x.d.sp⟩, ⟨cb, false, 67, curC A n c x.i x.h⟩]) (fun x => 25 - x.d.xs.length) ⟨⟨xs6, gr6, gc6, gs6⟩, 0, i8, h8⟩ (⟨⟨hgl6, hgc6⟩, Nat.zero_le _, by show xs6.length ≤ 25; omega⟩) ⟨rfl, rfl, rfl, rfl, rfl, rfl, trivial⟩ (fun _ h => h) ?_
    rintro ⟨⟨xs, gr, gc, gs⟩, m, i, h⟩ ⟨⟨hgl, hgc⟩, hmb, hlen⟩
    simp only at hgl hgc hmb hlen
    dsimp only
    refine wc_seq ?_
    refine wc_seq ?_
    refine wc_region ?_
    refine wl_v rfl (val_move (lk rfl)) ?_
    refine wl_v rfl (val_len es_24 (lk rfl)) ?_
    refine wl_v rfl (val_move (lk rfl)) ?_
    refine wl_callw 1 rfl ci_54 (args2 (lk rfl) lkc) rfl (fun w1 hw => l1Below_c _ _ _ _ _ _ _ _ _ w1 (hk.hp hw (by simp)) (hw.own _ (.tail _ (.head _)))) (fun _ => rfl) ?_
    rintro ⟨x38, i38, h38⟩ hx38
    simp only at hx38
    refine wl_v rfl (val_add lkc (lk rfl)) ?_
    refine wl_v rfl (val_lss (lk rfl) (lk rfl)) ?_
    refine wl_nil ?_
    refine px_then ?_
    refine wc_cond (lk rfl) (fun hc3 => ?_) (fun hc3 => ?_)
    · have hlt : xs.length < 25 := by
        have h9 := of_decide_eq_true hc3
        have := hx38.2.1
        have := hx38.1
        rw [wrap64_in' (by omega)] at h9
        omega
      refine wc_skip ?_
      refine px_then ?_
      refine wc_seq ?_
      refine wc_block ?_
      refine wc_region ?_
      refine wl_v rfl (val_move (lk rfl)) ?_
      refine wl_v rfl (val_move (lk rfl)) ?_
      refine wl_v rfl (val_add lkc (lk rfl)) ?_
      refine wl_v rfl (val_buildP (partsC lkc (partsC lkc (partsC (lk rfl) parts0))) (bl_31_0_1_2 _ _ _)) ?_
      refine wl_bslice (partsC (lk rfl) parts0) (bsl_24_1_0 _ _ _ _) rfl fun b6 => ?_
      refine wl_appendR encU_len (by decide) xs [(⟨3, 9, IntKind.i64.wrap (1 + ((m : Nat) : Int)), 0⟩ : Rec)] 1 es_24 zc_31 rfl eb_31 (lk rfl) rfl hgl hgc (lk rfl) (fun _ hw => Sl.own' (vs := flat encU [(⟨3, 9, IntKind.i64.wrap (1 + ((m : Nat) : Int)), 0⟩ : Rec)]) hw (.head _)) (by first | omega | (simp only [List.length_nil]; omega) | (simp only [List.length_cons, List.length_nil]; omega)) (by first | omega | (simp only [List.length_nil]; omega) | (simp only [List.length_cons, List.length_nil]; omega)) rfl fun a48 ac48 as48 hal48 ham48 => ?_
      refine wl_v rfl (val_assign (lk rfl)) ?_
      refine wl_nil ?_
      refine px_block ?_
      refine px_then ?_
      refine wc_region ?_
      refine wl_v rfl (val_move (lk rfl)) ?_
      refine wl_v rfl (val_inc (lk rfl) (by omega)) ?_
      refine wl_v rfl (val_assign (lk rfl)) ?_
      refine wl_nil ?_
      refine px_round (⟨⟨xs ++ [(⟨3, 9, IntKind.i64.wrap (1 + ((m : Nat) : Int)), 0⟩ : Rec)], a48, ac48, as48⟩, m + 1, i38, h38⟩) (⟨⟨hal48, ham48⟩, by show m + 1 ≤ (xs ++ [_]).length; simp; omega, by show (xs ++ [_]).length ≤ 25; simp; omega⟩) (by show 25 - (xs ++ [_]).length < 25 - xs.length; simp; omega) (⟨rfl, rfl, rfl, rfl, rfl, rfl, trivial⟩) (fun _ h => h.mask [true, false, true] rfl)
    refine wc_exit ?_
    refine px_then_exit ?_
    refine px_then_exit ?_
    refine px_block_exit ?_
    refine px_block ?_
    refine px_then ?_
    refine wc_seq ?_
    refine wc_region ?_
    refine wl_v rfl (val_move (lk rfl)) ?_
    refine wl_v rfl (val_assign (lk rfl)) ?_
    refine wl_nil ?_
    refine px_then ?_
    refine wc_ret ?_
    refine fin1 rfl (res_tmp rfl) (fun w1 hw => ?_)
    exact ⟨(⟨xs, gr, gc, gs⟩, _, _), ⟨⟨hgl, hgc⟩, hlen⟩, rfl, (hw.mask [true, true] rfl).sw rfl⟩
  refine wc_skip ?_
  refine px_block ?_
  refine px_then ?_
  refine wc_seq ?_
  refine wc_region ?_
  refine wl_v rfl (val_move (lk rfl)) ?_
  refine wl_v rfl (val_assign (lk rfl)) ?_
  refine wl_nil ?_
  refine px_then ?_
  refine wc_ret ?_
  refine fin1 rfl (res_tmp rfl) (fun w1 hw => ?_)
  exact ⟨(⟨xs6, gr6, gc6, gs6⟩, i8, h8), ⟨⟨hgl6, hgc6⟩, by show xs6.length ≤ 25; omega⟩, rfl, (hw.mask [true, true] rfl).sw rfl⟩

theorem l19Deal_c (A : Option Addr) (n b o c cb i : Nat) (h : Int) (w : World) (hk : Code w A n b o cb) (hb : w.heap[cb]? = some (.cells (curC A n c i h).toArray 67 (0, 0))) :
    Calls Try.prog 58 #[.pointer (some ⟨cb, 0, none⟩)] w fun e w' => ∃ x : Agr × Nat × Int, True ∧ e = .returned (.agg (recV encG x.1).toArray) ∧ HP w [⟨cb, false, 67, curC A n c x.2.1 x.2.2⟩] w' := by
  refine calls_entry [⟨cb, false, 67, curC A n c i h⟩] _ Try.func58 rfl Try.ntmps58 (HP.one hb) (env1 rfl) ?_
  refine wc_seq ?_
  refine wc_region ?_
  refine wl_alloc zc_48 rfl fun b1 => ?_
  refine wl_nil ?_
  refine px_then ?_
  refine wc_seq ?_
  refine wc_region ?_
  refine wl_v rfl (val_move (lk rfl)) ?_
  refine wl_callw 1 rfl ci_54 (args2 (lk rfl) lkc) rfl (fun w1 hw => l1Below_c _ _ _ _ _ _ _ _ _ w1 (hk.hp hw (by simp)) (hw.own _ (.tail _ (.head _)))) (fun _ => rfl) ?_
  rintro ⟨x5, i5, h5⟩ hx5
  simp only at hx5
  refine wl_v rfl (val_assign (lk rfl)) ?_
  refine wl_nil ?_
  refine px_then ?_
  refine wc_seq ?_
  refine wc_region ?_
  refine wl_v rfl (val_move (lk rfl)) ?_
  refine wl_v rfl (val_move (lk rfl)) ?_
  refine wl_v rfl (val_add (lk rfl) lkc) ?_
  refine wl_v rfl (val_move (lk rfl)) ?_
  refine wl_callw 1 rfl ci_54 (args2 (lk rfl) lkc) rfl (fun w1 hw => l1Below_c _ _ _ _ _ _ _ _ _ w1 (hk.hp hw (by simp)) (hw.own _ (.tail _ (.head _)))) (fun _ => rfl) ?_
  rintro ⟨x10, i10, h10⟩ hx10
  simp only at hx10
  refine wl_v rfl (val_add (lk rfl) (lk rfl)) ?_
  refine wl_v rfl (val_rem (lk rfl) lkc (fun _ => by decide)) ?_
  refine wl_v rfl (val_move (lk rfl)) ?_
  refine wl_callw 1 rfl ci_54 (args2 (lk rfl) lkc) rfl (fun w1 hw => l1Below_c _ _ _ _ _ _ _ _ _ w1 (hk.hp hw (by simp)) (hw.own _ (.tail _ (.head _)))) (fun _ => rfl) ?_
  rintro ⟨x14, i14, h14⟩ hx14
  simp only at hx14
  refine wl_v rfl (val_move (lk rfl)) ?_
  refine wl_bslice (partsC lkc (partsC lkc (partsC lkc (partsC lkc parts0)))) (bsl_44_4_0_1_2_3 _ _ _ _) rfl fun b2 => ?_
  refine wl_callw 2 rfl ci_59 (args2 (lk rfl) (lk rfl)) rfl (fun w1 hw => l1Int_c _ _ _ _ _ _ _ _ [0, 20, 100, 1000000] _ _ 0 _ w1 (hk.hp hw (by simp)) (hw.own _ (.tail _ (.tail _ (.head _)))) (Sl.own' hw (.head _)) (by have h9 := hw.nodup; simp at h9 ⊢; omega) (by simp) (by simp)) (fun _ => rfl) ?_
  rintro ⟨x17, i17, h17⟩ hx17
  simp only at hx17
  refine wl_v rfl (val_buildP (partsC (lk rfl) (partsC (lk rfl) (partsC (lk rfl) (partsC (lk rfl) parts0)))) (bl_48_0_1_2_3 _ _ _ _)) ?_
  refine wl_storeB 1 rfl (lk rfl) (lk rfl) ag_48 rfl rfl ?_
  refine wl_nil ?_
  refine px_then ?_
  refine wc_ret ?_
  refine fin1 rfl (res_cell rfl (.tail _ (.head _)) ag_48) (fun w1 hw => ?_)
  exact ⟨(⟨x5, _, x14, nth d0I [0, 20, 100, 1000000] x17⟩, i17, h17), trivial, rfl, hw.mask [false, false, true] rfl⟩

theorem l19Any_c (A : Option Addr) (n b o c cb i : Nat) (h : Int) (w : World) (hk : Code w A n b o cb) (hb : w.heap[cb]? = some (.cells (curC A n c i h).toArray 67 (0, 0))) :
    Calls Try.prog 49 #[.pointer (some ⟨cb, 0, none⟩)] w fun e w' => ∃ x : Agr × Nat × Int, True ∧ e = .returned (.agg (recV encG x.1).toArray) ∧ HP w [⟨cb, false, 67, curC A n c x.2.1 x.2.2⟩] w' := by
  refine calls_entry [⟨cb, false, 67, curC A n c i h⟩] _ Try.func49 rfl Try.ntmps49 (HP.one hb) (env1 rfl) ?_
  refine wc_seq ?_
  refine wc_region ?_
  refine wl_alloc zc_48 rfl fun b1 => ?_
  refine wl_nil ?_
  refine px_then ?_
  refine wc_seq ?_
  refine wc_region ?_
  refine wl_v rfl (val_move (lk rfl)) ?_
  refine wl_callw 1 rfl ci_58 (args1 (lk rfl)) rfl (fun w1 hw => l19Deal_c _ _ _ _ _ _ _ _ w1 (hk.hp hw (by simp)) (hw.own _ (.tail _ (.head _)))) (fun _ => rfl) ?_
  rintro ⟨xg5, i5, h5⟩ -
  refine wl_alloc zc_48 rfl fun b2 => ?_
  refine wl_storeB 0 rfl (lk rfl) (lk rfl) ag_48 rfl rfl ?_
  refine wl_nil ?_
  refine px_then ?_
  refine wc_seq ?_
  refine wc_seq ?_
  refine wc_region ?_
  refine wl_v rfl (val_move (lk rfl)) ?_
  refine wl_callw 2 rfl ci_54 (args2 (lk rfl) lkc) rfl (fun w1 hw => l1Below_c _ _ _ _ _ _ _ _ _ w1 (hk.hp hw (by simp)) (hw.own _ (.tail _ (.tail _ (.head _))))) (fun _ => rfl) ?_
  rintro ⟨x7, i7, h7⟩ hx7
  simp only at hx7
  refine wl_nil ?_
  refine px_then ?_
  refine wc_block ?_
  refine wc_seq ?_
  refine wc_region ?_
  refine wl_v rfl (val_eql (lk rfl) lkc) ?_
  refine wl_v rfl (val_assign (lk rfl)) ?_
  refine wl_nil ?_
  refine px_then ?_
  refine wc_cond (lk rfl) (fun hc0 => ?_) (fun hc0 => ?_)
  · refine wc_region ?_
    refine wl_v rfl (val_move (lk rfl)) ?_
    refine wl_v rfl (val_field fo_48_0 (lk rfl)) ?_
    refine wl_v rfl (val_load1 t1_3 (lk rfl) (cell_own (.head _) fun _ => rfl)) ?_
    refine wl_bslice (partsC (lk rfl) (partsC lkc (partsC lkc parts0))) (bsl_44_3_0_1_2 _ _ _) rfl fun b3 => ?_
    refine wl_callw 3 rfl ci_59 (args2 (lk rfl) (lk rfl)) rfl (fun w1 hw => l1Int_c _ _ _ _ _ _ _ _ [xg5.home, -1, 4] _ _ 0 _ w1 (hk.hp hw (by simp)) (hw.own _ (.tail _ (.tail _ (.tail _ (.head _))))) (Sl.own' hw (.head _)) (by have h9 := hw.nodup; simp at h9 ⊢; omega) (by simp) (by simp)) (fun _ => rfl) ?_
    rintro ⟨x14, i14, h14⟩ hx14
    simp only at hx14
    refine wl_v rfl (val_field fo_48_1 (lk rfl)) ?_
    refine wl_store1 1 rfl (lk rfl) (lk rfl) t1_3 rfl (rfl) ?_
    refine wl_nil ?_
    refine px_block ?_
    refine px_then ?_
    refine wc_seq ?_
    refine wc_region ?_
    refine wl_v rfl (val_loadB (.tail _ (.head _)) (lk rfl) ag_48) ?_
    refine wl_storeB 2 rfl (lk rfl) (lk rfl) ag_48 rfl rfl ?_
    refine wl_nil ?_
    refine px_then ?_
    refine wc_ret ?_
    refine fin1 rfl (res_cell rfl (.tail _ (.tail _ (.head _))) ag_48) (fun w1 hw => ?_)
    exact ⟨(⟨xg5.home, nth d0I [xg5.home, -1, 4] x14, xg5.price, xg5.cap⟩, i14, h14), trivial, rfl, hw.mask [false, false, false, true] rfl⟩
  refine wc_seq ?_
  refine wc_region ?_
  refine wl_v rfl (val_eql (lk rfl) lkc) ?_
  refine wl_v rfl (val_assign (lk rfl)) ?_
  refine wl_nil ?_
  refine px_then ?_
  refine wc_cond (lk rfl) (fun hc1 => ?_) (fun hc1 => ?_)
  · refine wc_region ?_
    refine wl_v rfl (val_move (lk rfl)) ?_
    refine wl_bslice (partsC lkc (partsC lkc (partsC lkc parts0))) (bsl_44_3_0_1_2 _ _ _) rfl fun b4 => ?_
    refine wl_callw 3 rfl ci_59 (args2 (lk rfl) (lk rfl)) rfl (fun w1 hw => l1Int_c _ _ _ _ _ _ _ _ [-1, 1000, 1001] _ _ 0 _ w1 (hk.hp hw (by simp)) (hw.own _ (.tail _ (.tail _ (.tail _ (.head _))))) (Sl.own' hw (.head _)) (by have h9 := hw.nodup; simp at h9 ⊢; omega) (by simp) (by simp)) (fun _ => rfl) ?_
    rintro ⟨x20, i20, h20⟩ hx20
    simp only at hx20
    refine wl_v rfl (val_field fo_48_2 (lk rfl)) ?_
    refine wl_store1 1 rfl (lk rfl) (lk rfl) t1_3 rfl (rfl) ?_
    refine wl_nil ?_
    refine px_block ?_
    refine px_then ?_
    refine wc_seq ?_
    refine wc_region ?_
    refine wl_v rfl (val_loadB (.tail _ (.head _)) (lk rfl) ag_48) ?_
    refine wl_storeB 2 rfl (lk rfl) (lk rfl) ag_48 rfl rfl ?_
    refine wl_nil ?_
    refine px_then ?_
    refine wc_ret ?_
    refine fin1 rfl (res_cell rfl (.tail _ (.tail _ (.head _))) ag_48) (fun w1 hw => ?_)
    exact ⟨(⟨xg5.home, xg5.vis, nth d0I [-1, 1000, 1001] x20, xg5.cap⟩, i20, h20), trivial, rfl, hw.mask [false, false, false, true] rfl⟩
  refine wc_seq ?_
  refine wc_region ?_
  refine wl_v rfl (val_eql (lk rfl) lkc) ?_
  refine wl_v rfl (val_assign (lk rfl)) ?_
  refine wl_nil ?_
  refine px_then ?_
  refine wc_cond (lk rfl) (fun hc2 => ?_) (fun hc2 => ?_)
  · refine wc_region ?_
    refine wl_v rfl (val_move (lk rfl)) ?_
    refine wl_bslice (partsC lkc (partsC lkc (partsC lkc parts0))) (bsl_44_3_0_1_2 _ _ _) rfl fun b5 => ?_
    refine wl_callw 3 rfl ci_59 (args2 (lk rfl) (lk rfl)) rfl (fun w1 hw => l1Int_c _ _ _ _ _ _ _ _ [-1, 1000000000000, 1000000000001] _ _ 0 _ w1 (hk.hp hw (by simp)) (hw.own _ (.tail _ (.tail _ (.tail _ (.head _))))) (Sl.own' hw (.head _)) (by have h9 := hw.nodup; simp at h9 ⊢; omega) (by simp) (by simp)) (fun _ => rfl) ?_
    rintro ⟨x26, i26, h26⟩ hx26
    simp only at hx26
    refine wl_v rfl (val_field fo_48_3 (lk rfl)) ?_
    refine wl_store1 1 rfl (lk rfl) (lk rfl) t1_3 rfl (rfl) ?_
    refine wl_nil ?_
    refine px_block ?_
    refine px_then ?_
    refine wc_seq ?_
    refine wc_region ?_
    refine wl_v rfl (val_loadB (.tail _ (.head _)) (lk rfl) ag_48) ?_
    refine wl_storeB 2 rfl (lk rfl) (lk rfl) ag_48 rfl rfl ?_
    refine wl_nil ?_
    refine px_then ?_
    refine wc_ret ?_
    refine fin1 rfl (res_cell rfl (.tail _ (.tail _ (.head _))) ag_48) (fun w1 hw => ?_)
    exact ⟨(⟨xg5.home, xg5.vis, xg5.price, nth d0I [-1, 1000000000000, 1000000000001] x26⟩, i26, h26), trivial, rfl, hw.mask [false, false, false, true] rfl⟩
  refine wc_skip ?_
  refine px_block ?_
  refine px_then ?_
  refine wc_seq ?_
  refine wc_region ?_
  refine wl_v rfl (val_loadB (.head _) (lk rfl) ag_48) ?_
  refine wl_storeB 1 rfl (lk rfl) (lk rfl) ag_48 rfl rfl ?_
  refine wl_nil ?_
  refine px_then ?_
  refine wc_ret ?_
  refine fin1 rfl (res_cell rfl (.tail _ (.head _)) ag_48) (fun w1 hw => ?_)
  exact ⟨(xg5, i7, h7), trivial, rfl, hw.mask [false, false, true] rfl⟩

theorem l18Pair_c (A : Option Addr) (n b o c : Nat) (w : World) (hk : Cod w A n b o) :
    Calls Try.prog 42 #[.slice A n c] w fun e w' => ∃ x : DL × Rec, (x.1.row ∧ x.1.xs.length ≤ 25) ∧ e = .returned (.tuple #[x.1.val, .agg (recV encU x.2).toArray]) ∧ HP w [⟨x.1.g, true, 31, flat encU x.1.xs ++ x.1.sp⟩] w' := by
  refine calls_entry [] _ Try.func42 rfl Try.ntmps42 (HP.refl w) (env1 rfl) ?_
  refine wc_seq ?_
  refine wc_region ?_
  refine wl_v rfl (val_assign lkc) ?_
  refine wl_alloc zc_31 rfl fun b1 => ?_
  refine wl_nil ?_
  refine px_then ?_
  refine wc_seq ?_
  refine wc_region ?_
  refine wl_v rfl (val_move (lk rfl)) ?_
  refine wl_callx rfl ci_37 (args1 (lk rfl)) (fun w1 hw => l1New_c _ _ _ _ _ w1 (hk.hp hw rfl)) (fun _ => rfl) ?_
  rintro ⟨gc7, h7⟩ -
  refine wl_v rfl (val_assign (lk rfl)) ?_
  refine wl_nil ?_
  refine px_then ?_
  refine wc_seq ?_
  refine wc_region ?_
  refine wl_v rfl (val_move (lk rfl)) ?_
  refine wl_callw 0 rfl ci_57 (args1 (lk rfl)) rfl (fun w1 hw => l18Any_c _ _ _ _ _ _ _ _ w1 (hk.cur hw rfl (.head _)) (hw.own _ (.head _))) (fun _ => rfl) ?_
  rintro ⟨⟨xs9, gr9, gc9, gs9⟩, i9, h9⟩ ⟨⟨hgl9, hgc9⟩, hlen9⟩
  simp only at hgl9 hgc9 hlen9
  refine wl_v rfl (val_assign (lk rfl)) ?_
  refine wl_nil ?_
  refine px_then ?_
  refine wc_seq ?_
  refine wc_region ?_
  refine wl_v rfl (val_move (lk rfl)) ?_
  refine wl_v rfl (val_move (lk rfl)) ?_
  refine wl_callw 1 rfl ci_55 (args1 (lk rfl)) rfl (fun w1 hw => l18One_c _ _ _ _ _ _ _ _ w1 (hk.cur hw rfl (.tail _ (.head _))) (hw.own _ (.tail _ (.head _)))) (fun _ => rfl) ?_
  rintro ⟨x12, i12, h12⟩ -
  refine wl_v rfl (val_assign (lk rfl)) ?_
  refine wl_storeB 2 rfl (lk rfl) (lk rfl) ag_31 rfl rfl ?_
  refine wl_nil ?_
  refine px_then ?_
  refine wc_ret ?_
  refine fin2 rfl (res_tmp rfl) (res_cell rfl (.tail _ (.tail _ (.head _))) ag_31) (fun w1 hw => ?_)
  exact ⟨(⟨xs9, gr9, gc9, gs9⟩, x12), ⟨⟨hgl9, hgc9⟩, hlen9⟩, rfl, hw.mask [true, false, false] rfl⟩

theorem DrawApp_c (A : Option Addr) (n b o c : Nat) (w : World) (hk : Cod w A n b o) :
    Calls Try.prog 15 #[.slice A n c] w fun e w' => ∃ x : DL × Rec, (x.1.row ∧ x.1.xs.length ≤ 25) ∧ e = .returned (.tuple #[x.1.val, .agg (recV encU x.2).toArray]) ∧ HP w [⟨x.1.g, true, 31, flat encU x.1.xs ++ x.1.sp⟩] w' := by
  refine calls_entry [] _ Try.func15 rfl Try.ntmps15 (HP.refl w) (env1 rfl) ?_
  refine wc_seq ?_
  refine wc_region ?_
  refine wl_v rfl (val_assign lkc) ?_
  refine wl_alloc zc_31 rfl fun b1 => ?_
  refine wl_nil ?_
  refine px_then ?_
  refine wc_seq ?_
  refine wc_region ?_
  refine wl_v rfl (val_move (lk rfl)) ?_
  refine wl_callx rfl ci_42 (args1 (lk rfl)) (fun w1 hw => l18Pair_c _ _ _ _ _ w1 (hk.hp hw rfl)) (fun _ => rfl) ?_
  rintro ⟨⟨xs5, gr5, gc5, gs5⟩, x5⟩ ⟨⟨hgl5, hgc5⟩, hlen5⟩
  simp only at hgl5 hgc5 hlen5
  refine wl_v rfl (val_extract (lk rfl) rfl) ?_
  refine wl_v rfl (val_extract (lk rfl) rfl) ?_
  refine wl_v rfl (val_assign (lk rfl)) ?_
  refine wl_storeB 1 rfl (lk rfl) (lk rfl) ag_31 rfl rfl ?_
  refine wl_nil ?_
  refine px_then ?_
  refine wc_ret ?_
  refine fin2 rfl (res_tmp rfl) (res_cell rfl (.tail _ (.head _)) ag_31) (fun w1 hw => ?_)
  exact ⟨(⟨xs5, gr5, gc5, gs5⟩, x5), ⟨⟨hgl5, hgc5⟩, hlen5⟩, rfl, hw.mask [true, false] rfl⟩

theorem DrawMiss_c (A : Option Addr) (n b o c : Nat) (w : World) (hk : Cod w A n b o) :
    Calls Try.prog 26 #[.slice A n c] w fun e w' => ∃ x : DL × Int × Int, (x.1.row ∧ x.1.xs.length ≤ 25) ∧ e = .returned (.tuple #[x.1.val, .int .i64 x.2.1, .int .i64 x.2.2]) ∧ HP w [⟨x.1.g, true, 31, flat encU x.1.xs ++ x.1.sp⟩] w' := by
  refine calls_entry [] _ Try.func26 rfl Try.ntmps26 (HP.refl w) (env1 rfl) ?_
  refine wc_seq ?_
  refine wc_region ?_
  refine wl_v rfl (val_assign lkc) ?_
  refine wl_v rfl (val_assign lkc) ?_
  refine wl_v rfl (val_assign lkc) ?_
  refine wl_nil ?_
  refine px_then ?_
  refine wc_seq ?_
  refine wc_region ?_
  refine wl_v rfl (val_move (lk rfl)) ?_
  refine wl_callx rfl ci_42 (args1 (lk rfl)) (fun w1 hw => l18Pair_c _ _ _ _ _ w1 (hk.hp hw rfl)) (fun _ => rfl) ?_
  rintro ⟨⟨xs9, gr9, gc9, gs9⟩, x9⟩ ⟨⟨hgl9, hgc9⟩, hlen9⟩
  simp only at hgl9 hgc9 hlen9
  refine wl_v rfl (val_move (lk rfl)) ?_
  refine wl_v rfl (val_extract (lk rfl) rfl) ?_
  refine wl_v rfl (val_extract (lk rfl) rfl) ?_
  refine wl_alloc zc_31 rfl fun b1 => ?_
  refine wl_v rfl (val_assign (lk rfl)) ?_
  refine wl_storeB 0 rfl (lk rfl) (lk rfl) ag_31 rfl rfl ?_
  refine wl_nil ?_
  refine px_then ?_
  refine wc_seq ?_
  refine wc_region_q mo_ (by kernel_rfl) ?_
  refine wq_v rfl (val_move (lk rfl)) ?_
  refine wq_v rfl (val_field fo_31_0 (lk rfl)) ?_
  refine wq_v rfl (val_load1 t1_3 (lk rfl) (cell_own (.head _) fun _ => rfl)) ?_
  refine wq_v rfl (val_field fo_31_1 (lk rfl)) ?_
  refine wq_v rfl (val_load1 t1_3 (lk rfl) (cell_own (.head _) fun _ => rfl)) ?_
  refine wq_v rfl (val_assign (lk rfl)) ?_
  refine wq_v rfl (val_assign (lk rfl)) ?_
  refine wq_v rfl (val_assign (lk rfl)) ?_
  refine wq_nil ?_
  refine px_then ?_
  refine wc_ret ?_
  refine fin3 rfl (res_tmp rfl) (res_tmp rfl) (res_tmp rfl) (fun w1 hw => ?_)
  exact ⟨(⟨xs9, gr9, gc9, gs9⟩, x9.net, x9.sid), ⟨⟨hgl9, hgc9⟩, hlen9⟩, rfl, hw.mask [false, true] rfl⟩

theorem DrawRecs_c (A : Option Addr) (n b o c : Nat) (w : World) (hk : Cod w A n b o) :
    Calls Try.prog 10 #[.slice A n c] w fun e w' => ∃ x : DL × DL × Unit, (x.1.row ∧ x.2.1.row ∧ okAll x.1.xs = true ∧ x.1.xs.length ≤ 8 ∧ okAll x.2.1.xs = true ∧ x.2.1.xs.length ≤ 8) ∧ e = .returned (.tuple #[x.1.val, x.2.1.val]) ∧ HP w [⟨x.1.g, true, 31, flat encU x.1.xs ++ x.1.sp⟩, ⟨x.2.1.g, true, 31, flat encU x.2.1.xs ++ x.2.1.sp⟩] w' := by
  refine calls_entry [] _ Try.func10 rfl Try.ntmps10 (HP.refl w) (env1 rfl) ?_
  refine wc_seq ?_
  refine wc_region ?_
  refine wl_v rfl (val_assign lkc) ?_
  refine wl_v rfl (val_assign lkc) ?_
  refine wl_nil ?_
  refine px_then ?_
  refine wc_seq ?_
  refine wc_region ?_
  refine wl_v rfl (val_move (lk rfl)) ?_
  refine wl_callx rfl ci_37 (args1 (lk rfl)) (fun w1 hw => l1New_c _ _ _ _ _ w1 (hk.hp hw rfl)) (fun _ => rfl) ?_
  rintro ⟨gc7, h7⟩ -
  refine wl_v rfl (val_assign (lk rfl)) ?_
  refine wl_nil ?_
  refine px_then ?_
  refine wc_seq ?_
  refine wc_region ?_
  refine wl_v rfl (val_move (lk rfl)) ?_
  refine wl_callw 0 rfl ci_38 (args1 (lk rfl)) rfl (fun w1 hw => l18Draw_c _ _ _ _ _ _ _ _ w1 (hk.cur hw rfl (.head _)) (hw.own _ (.head _))) (fun _ => rfl) ?_
  rintro ⟨⟨xs9, gr9, gc9, gs9⟩, i9, h9⟩ ⟨⟨hgl9, hgc9⟩, hok9, hlen9⟩
  simp only at hgl9 hgc9 hok9 hlen9
  refine wl_v rfl (val_assign (lk rfl)) ?_
  refine wl_nil ?_
  refine px_then ?_
  refine wc_seq ?_
  refine wc_region ?_
  refine wl_v rfl (val_move (lk rfl)) ?_
  refine wl_v rfl (val_move (lk rfl)) ?_
  refine wl_callw 1 rfl ci_38 (args1 (lk rfl)) rfl (fun w1 hw => l18Draw_c _ _ _ _ _ _ _ _ w1 (hk.cur hw rfl (.tail _ (.head _))) (hw.own _ (.tail _ (.head _)))) (fun _ => rfl) ?_
  rintro ⟨⟨xs12, gr12, gc12, gs12⟩, i12, h12⟩ ⟨⟨hgl12, hgc12⟩, hok12, hlen12⟩
  simp only at hgl12 hgc12 hok12 hlen12
  refine wl_v rfl (val_assign (lk rfl)) ?_
  refine wl_v rfl (val_assign (lk rfl)) ?_
  refine wl_nil ?_
  refine px_then ?_
  refine wc_ret ?_
  refine fin2 rfl (res_tmp rfl) (res_tmp rfl) (fun w1 hw => ?_)
  exact ⟨(⟨xs9, gr9, gc9, gs9⟩, ⟨xs12, gr12, gc12, gs12⟩, ()), ⟨⟨hgl9, hgc9⟩, ⟨hgl12, hgc12⟩, hok9, hlen9, hok12, hlen12⟩, rfl, (hw.mask [true, true, false] rfl).sw rfl⟩


theorem fin4 {P : Program} {w0 : World} {n : Nat} {l : Env} {bs : List Blk} {fn : Func} {R : Ending → World → Prop} {r s t q : ResultVar} {v u z y : Value} (hr : fn.results = #[r, s, t, q]) (h : ResOK P l bs r v) (h' : ResOK P l bs s u) (h3 : ResOK P l bs t z) (h4 : ResOK P l bs q y) (k : ∀ w, HP w0 bs w → R (.returned (.tuple #[v, u, z, y])) w) : PX w0 n (bodyPost P fn R) .ret l bs :=
  fun a w ha hw => ⟨ha.1, .tuple #[v, u, z, y], by
    have h1 := h.run ha hw
    have h2 := h'.run ha hw
    have h5 := h3.run ha hw
    have h6 := h4.run ha hw
    have e : results fn a.tmps = (do let vs ← #[r, s, t, q].mapM (resRun a); pure (if h : vs.size = 1 then vs[0] else .tuple vs)) := by
      unfold results
      rw [hr]
      rfl
    rw [e]
    simp [Array.mapM_eq_mapM_toList, h1, h2, h5, h6], k w hw⟩
theorem HP.rev3 {w w' : World} {bs : List Blk} {x y z : Blk} (h : HP w bs w') (e : bs = [x, y, z]) : HP w [z, y, x] w' := by
  subst e
  exact h.perm (List.reverse_perm [x, y, z]).symm
theorem set_byt {ys : List Rec} {sp : List Value} {k : Nat} (h : k < ys.length) (v : Int) : (flat encU ys ++ sp).set (0 + k * 4 + 3) (.int .i64 v) = flat encU (ys.set k ⟨(nth d0U ys k).net, (nth d0U ys k).sid, (nth d0U ys k).seq, v⟩) ++ sp := by
  rw [Nat.zero_add]
  exact flat_set encU_len d0U ys k 3 _ _ sp h (by decide) rfl

theorem l19Two_c (A : Option Addr) (n b o c cb i : Nat) (h : Int) (w : World) (hk : Code w A n b o cb) (hb : w.heap[cb]? = some (.cells (curC A n c i h).toArray 67 (0, 0))) :
    Calls Try.prog 50 #[.pointer (some ⟨cb, 0, none⟩)] w fun e w' => ∃ x : DL × DL × Nat × Int, (x.1.row ∧ x.2.1.row ∧ okAll x.1.xs = true ∧ x.1.xs.length ≤ 8 ∧ x.2.1.xs.length ≤ 35) ∧ e = .returned (.tuple #[x.1.val, x.2.1.val]) ∧ HP w [⟨cb, false, 67, curC A n c x.2.2.1 x.2.2.2⟩, ⟨x.1.g, true, 31, flat encU x.1.xs ++ x.1.sp⟩, ⟨x.2.1.g, true, 31, flat encU x.2.1.xs ++ x.2.1.sp⟩] w' := by
  refine calls_entry [⟨cb, false, 67, curC A n c i h⟩] _ Try.func50 rfl Try.ntmps50 (HP.one hb) (env1 rfl) ?_
  refine wc_seq ?_
  refine wc_region ?_
  refine wl_v rfl (val_assign lkc) ?_
  refine wl_v rfl (val_assign lkc) ?_
  refine wl_nil ?_
  refine px_then ?_
  refine wc_seq ?_
  refine wc_region ?_
  refine wl_v rfl (val_move (lk rfl)) ?_
  refine wl_callw 0 rfl ci_38 (args1 (lk rfl)) rfl (fun w1 hw => l18Draw_c _ _ _ _ _ _ _ _ w1 (hk.hp hw (by simp)) (hw.own _ (.head _))) (fun _ => rfl) ?_
  rintro ⟨⟨xs9, gr9, gc9, gs9⟩, i9, h9⟩ ⟨⟨hgl9, hgc9⟩, hok9, hlen9⟩
  simp only at hgl9 hgc9 hok9 hlen9
  refine wl_v rfl (val_assign (lk rfl)) ?_
  refine wl_nil ?_
  refine px_then ?_
  refine wc_seq ?_
  refine wc_region ?_
  refine wl_v rfl (val_move (lk rfl)) ?_
  refine wl_callx rfl ci_43 (args1 (lk rfl)) (fun w1 hw => sCopyU_c xs9 _ _ _ _ w1 (Sl.own hw (.head _)) (by omega)) (fun _ => rfl) ?_
  rintro ⟨gb11, gc11, gs11⟩ ⟨hgl11, hgc11⟩
  refine wl_v rfl (val_assign (lk rfl)) ?_
  refine wl_nil ?_
  refine px_then ?_
  refine wc_seq ?_
  refine wc_seq ?_
  refine wc_region ?_
  refine wl_v rfl (val_assign lkc) ?_
  refine wl_nil ?_
  refine px_then ?_
  refine wc_block ?_
  refine wc_trim (l' := [(0, _), (2, _), (3, _), (4, _), (5, _), (6, _)]) ⟨rfl, rfl, rfl, rfl, rfl, rfl, trivial⟩ ?_
  refine wc_loopl (X := List Rec × Nat × Nat × Int) (fun x => x.1.length = xs9.length ∧ x.2.1 ≤ xs9.length) (fun x => [(6, (true, .int .i64 (x.2.1 : Nat)))]) (fun x => [⟨gb11, true, 31, flat encU x.1 ++ gs11⟩, ⟨gr9, true, 31, flat encU xs9 ++ gs9⟩, ⟨cb, false, 67, curC A n c x.2.2.1 x.2.2.2⟩]) (fun x => xs9.length - x.2.1) (xs9, 0, i9, h9) (⟨rfl, Nat.zero_le _⟩) ⟨rfl, rfl, rfl, rfl, rfl, rfl, rfl, trivial⟩ (fun _ h => h) ?_
  rintro ⟨ys, k, i, h⟩ ⟨hyl, hk1⟩
  simp only at hyl hk1
  dsimp only
  refine wc_seq ?_
  refine wc_seq ?_
  refine wc_region ?_
  refine wl_v rfl (val_move (lk rfl)) ?_
  refine wl_v rfl (val_move (lk rfl)) ?_
  refine wl_v rfl (val_len es_24 (lk rfl)) ?_
  refine wl_v rfl (val_lss (lk rfl) (lk rfl)) ?_
  refine wl_nil ?_
  refine px_then ?_
  refine wc_cond (lk rfl) (fun hc0 => ?_) (fun hc0 => ?_)
  · have hlt : k < ys.length := by have := of_decide_eq_true hc0; omega
    refine wc_skip ?_
    refine px_then ?_
    refine wc_seq ?_
    refine wc_block ?_
    refine wc_seq ?_
    refine wc_region ?_
    refine wl_v rfl (val_move (lk rfl)) ?_
    refine wl_callw 2 rfl ci_54 (args2 (lk rfl) lkc) rfl (fun w1 hw => l1Below_c _ _ _ _ _ _ _ _ _ w1 (hk.hp hw (by simp)) (hw.own _ (.tail _ (.tail _ (.head _))))) (fun _ => rfl) ?_
    rintro ⟨x19, i19, h19⟩ hx19
    simp only at hx19
    refine wl_nil ?_
    refine px_then ?_
    refine wc_block ?_
    refine wc_seq ?_
    refine wc_region ?_
    refine wl_v rfl (val_eql (lk rfl) lkc) ?_
    refine wl_v rfl (val_assign (lk rfl)) ?_
    refine wl_nil ?_
    refine px_then ?_
    refine wc_cond (lk rfl) (fun hc1 => ?_) (fun hc1 => ?_)
    · refine wc_region_aF 1000000 2 (fun y : Nat × Int => (⟨cb, false, 67, curC A n c y.1 y.2⟩ : Blk)) [false, true, true] 14 mo_ rfl ?_
      refine wa_takeF 0 rfl (by kernel_rfl) (by kernel_rfl) (by kernel_rfl) (by kernel_rfl) (fun _ h => ⟨(_, _), h.mask [false, true, true] rfl⟩) gd_none rfl (fun _ => val_move (lk rfl)) ?_
      refine wa_takeF 1 rfl (by kernel_rfl) (by kernel_rfl) (by kernel_rfl) (by kernel_rfl) (fun _ h => ⟨(_, _), h.mask [false, true, true] rfl⟩) gd_none rfl (fun _ => val_move (lk rfl)) ?_
      refine wa_takeF 2 rfl (by kernel_rfl) (by kernel_rfl) (by kernel_rfl) (by kernel_rfl) (fun _ h => ⟨(_, _), h.mask [false, true, true] rfl⟩) gd_none rfl (fun _ => val_move (lk rfl)) ?_
      refine wa_takeF 3 rfl (by kernel_rfl) (by kernel_rfl) (by kernel_rfl) (by kernel_rfl) (fun _ h => ⟨(_, _), h.mask [false, true, true] rfl⟩) gd_none rfl (fun _ => val_move (lk rfl)) ?_
      refine wa_takeF 4 rfl (by kernel_rfl) (by kernel_rfl) (by kernel_rfl) (by kernel_rfl) (fun _ h => ⟨(_, _), h.mask [false, true, true] rfl⟩) gd_none rfl (fun _ => val_index es_24 (lk rfl) (lk rfl) (fun hG => rfl) (fun hG => (by omega))) ?_
      refine wa_takeF 5 rfl (by kernel_rfl) (by kernel_rfl) (by kernel_rfl) (by kernel_rfl) (fun _ h => ⟨(_, _), h.mask [false, true, true] rfl⟩) gd_none rfl (fun _ => val_field fo_31_3 (lk rfl)) ?_
      refine wa_takeF 8 rfl (by kernel_rfl) (by kernel_rfl) (by kernel_rfl) (by kernel_rfl) (fun _ h => ⟨(_, _), h.mask [false, true, true] rfl⟩) gd_none rfl (fun _ => val_move (lk rfl)) ?_
      refine wa_two 6 9 (by kernel_rfl) rfl rfl ?_ ?_
      · refine wl_v rfl (val_load1 t1_3 (lk rfl) (own_fld (.head _) encU_len d0U (i := k) (f := 3) (fun hG => by first | omega | (have h9 := of_decide_eq_true hG; omega) | (simp at hG; omega)) rfl)) ?_
        refine wl_nil (px_qnF (fun _ h => ⟨(_, _), h.mask [false, true, true] rfl⟩) ?_)
        refine wa_takeF 7 rfl (by kernel_rfl) (by kernel_rfl) (by kernel_rfl) (by kernel_rfl) (fun _ h => ⟨(_, _), h.mask [false, true, true] rfl⟩) gd_none rfl (fun _ => val_add (lk rfl) lkc) ?_
        refine wa_only 9 (by kernel_rfl) rfl ?_
        refine wl_callw 2 rfl ci_54 (args2 (lk rfl) lkc) rfl (fun w1 hw => l1Below_c _ _ _ _ _ _ _ _ _ w1 (hk.hp hw (by simp)) (hw.own _ (.tail _ (.tail _ (.head _))))) (fun _ => rfl) ?_
        rintro ⟨x31, i31, h31⟩ hx31
        simp only at hx31
        refine wl_nil (px_qnF (fun _ h => ⟨(_, _), h.mask [false, true, true] rfl⟩) ?_)
        refine wa_takeF 10 rfl (by kernel_rfl) (by kernel_rfl) (by kernel_rfl) (by kernel_rfl) (fun _ h => ⟨(_, _), h.mask [false, true, true] rfl⟩) gd_none rfl (fun _ => val_add (lk rfl) (lk rfl)) ?_
        refine wa_takeF 11 rfl (by kernel_rfl) (by kernel_rfl) (by kernel_rfl) (by kernel_rfl) (fun _ h => ⟨(_, _), h.mask [false, true, true] rfl⟩) gd_none rfl (fun _ => val_index es_24 (lk rfl) (lk rfl) (fun hG => rfl) (fun hG => (by omega))) ?_
        refine wa_takeF 12 rfl (by kernel_rfl) (by kernel_rfl) (by kernel_rfl) (by kernel_rfl) (fun _ h => ⟨(_, _), h.mask [false, true, true] rfl⟩) gd_none rfl (fun _ => val_field fo_31_3 (lk rfl)) ?_
        refine wa_only 13 (by kernel_rfl) rfl ?_
        refine wl_store1 0 rfl (lk rfl) (lk rfl) t1_3 rfl (by rw [Nat.blt_eq, List.length_append, flat_len encU_len]; omega) ?_
        refine wl_nil (px_qnF (fun _ h => ⟨(_, _), h.mask [false, true, true] rfl⟩) ?_)
        refine wa_done (by kernel_rfl) ?_
        refine px_block ?_
        refine px_block ?_
        refine px_then ?_
        refine wc_region ?_
        refine wl_v rfl (val_move (lk rfl)) ?_
        refine wl_v rfl (val_inc (lk rfl) (by omega)) ?_
        refine wl_v rfl (val_assign (lk rfl)) ?_
        refine wl_nil ?_
        refine px_round (((ys.set k ⟨(nth d0U ys k).net, (nth d0U ys k).sid, (nth d0U ys k).seq, IntKind.i64.wrap (IntKind.i64.wrap ((nth d0U ys k).byt + 1) + x31)⟩), k + 1, i31, h31)) (⟨(by show (ys.set k _).length = _; rw [List.length_set]; exact hyl), by show k + 1 ≤ _; omega⟩) (by show xs9.length - (k + 1) < xs9.length - k; omega) (⟨rfl, rfl, rfl, rfl, rfl, rfl, rfl, trivial⟩) (fun w1 h => by
          have h2 := h.mask [true, true, true] rfl
          have e1 := set_byt (sp := gs11) hlt (IntKind.i64.wrap (IntKind.i64.wrap ((nth d0U ys k).byt + 1) + x31))
          show HP w [⟨_, true, 31, flat encU (ys.set k ⟨(nth d0U ys k).net, (nth d0U ys k).sid, (nth d0U ys k).seq, IntKind.i64.wrap (IntKind.i64.wrap ((nth d0U ys k).byt + 1) + x31)⟩) ++ gs11⟩, _, _] w1
          rw [← e1]
          exact h2)
      · refine wl_callw 2 rfl ci_54 (args2 (lk rfl) lkc) rfl (fun w1 hw => l1Below_c _ _ _ _ _ _ _ _ _ w1 (hk.hp hw (by simp)) (hw.own _ (.tail _ (.tail _ (.head _))))) (fun _ => rfl) ?_
        rintro ⟨x31, i31, h31⟩ hx31
        simp only at hx31
        refine wl_nil (px_qnF (fun _ h => ⟨(_, _), h.mask [false, true, true] rfl⟩) ?_)
        refine wa_only 6 (by kernel_rfl) rfl ?_
        refine wl_v rfl (val_load1 t1_3 (lk rfl) (own_fld (.head _) encU_len d0U (i := k) (f := 3) (fun hG => by first | omega | (have h9 := of_decide_eq_true hG; omega) | (simp at hG; omega)) rfl)) ?_
        refine wl_nil (px_qnF (fun _ h => ⟨(_, _), h.mask [false, true, true] rfl⟩) ?_)
        refine wa_takeF 7 rfl (by kernel_rfl) (by kernel_rfl) (by kernel_rfl) (by kernel_rfl) (fun _ h => ⟨(_, _), h.mask [false, true, true] rfl⟩) gd_none rfl (fun _ => val_add (lk rfl) lkc) ?_
        refine wa_takeF 10 rfl (by kernel_rfl) (by kernel_rfl) (by kernel_rfl) (by kernel_rfl) (fun _ h => ⟨(_, _), h.mask [false, true, true] rfl⟩) gd_none rfl (fun _ => val_add (lk rfl) (lk rfl)) ?_
        refine wa_takeF 11 rfl (by kernel_rfl) (by kernel_rfl) (by kernel_rfl) (by kernel_rfl) (fun _ h => ⟨(_, _), h.mask [false, true, true] rfl⟩) gd_none rfl (fun _ => val_index es_24 (lk rfl) (lk rfl) (fun hG => rfl) (fun hG => (by omega))) ?_
        refine wa_takeF 12 rfl (by kernel_rfl) (by kernel_rfl) (by kernel_rfl) (by kernel_rfl) (fun _ h => ⟨(_, _), h.mask [false, true, true] rfl⟩) gd_none rfl (fun _ => val_field fo_31_3 (lk rfl)) ?_
        refine wa_only 13 (by kernel_rfl) rfl ?_
        refine wl_store1 0 rfl (lk rfl) (lk rfl) t1_3 rfl (by rw [Nat.blt_eq, List.length_append, flat_len encU_len]; omega) ?_
        refine wl_nil (px_qnF (fun _ h => ⟨(_, _), h.mask [false, true, true] rfl⟩) ?_)
        refine wa_done (by kernel_rfl) ?_
        refine px_block ?_
        refine px_block ?_
        refine px_then ?_
        refine wc_region ?_
        refine wl_v rfl (val_move (lk rfl)) ?_
        refine wl_v rfl (val_inc (lk rfl) (by omega)) ?_
        refine wl_v rfl (val_assign (lk rfl)) ?_
        refine wl_nil ?_
        refine px_round (((ys.set k ⟨(nth d0U ys k).net, (nth d0U ys k).sid, (nth d0U ys k).seq, IntKind.i64.wrap (IntKind.i64.wrap ((nth d0U ys k).byt + 1) + x31)⟩), k + 1, i31, h31)) (⟨(by show (ys.set k _).length = _; rw [List.length_set]; exact hyl), by show k + 1 ≤ _; omega⟩) (by show xs9.length - (k + 1) < xs9.length - k; omega) (⟨rfl, rfl, rfl, rfl, rfl, rfl, rfl, trivial⟩) (fun w1 h => by
          have h2 := h.mask [true, true, true] rfl
          have e1 := set_byt (sp := gs11) hlt (IntKind.i64.wrap (IntKind.i64.wrap ((nth d0U ys k).byt + 1) + x31))
          show HP w [⟨_, true, 31, flat encU (ys.set k ⟨(nth d0U ys k).net, (nth d0U ys k).sid, (nth d0U ys k).seq, IntKind.i64.wrap (IntKind.i64.wrap ((nth d0U ys k).byt + 1) + x31)⟩) ++ gs11⟩, _, _] w1
          rw [← e1]
          exact h2)
    refine wc_seq ?_
    refine wc_region ?_
    refine wl_v rfl (val_eql (lk rfl) lkc) ?_
    refine wl_v rfl (val_assign (lk rfl)) ?_
    refine wl_nil ?_
    refine px_then ?_
    refine wc_cond (lk rfl) (fun hc2 => ?_) (fun hc2 => ?_)
    · refine wc_region ?_
      refine wl_v rfl (val_move (lk rfl)) ?_
      refine wl_v rfl (val_move (lk rfl)) ?_
      refine wl_v rfl (val_move (lk rfl)) ?_
      refine wl_v rfl (val_move (lk rfl)) ?_
      refine wl_v rfl (val_index es_24 (lk rfl) (lk rfl) (fun hG => rfl) (fun hG => (by omega))) ?_
      refine wl_v rfl (val_field fo_31_3 (lk rfl)) ?_
      refine wl_v rfl (val_load1 t1_3 (lk rfl) (own_fld (.head _) encU_len d0U (i := k) (f := 3) (fun hG => by first | omega | (have h9 := of_decide_eq_true hG; omega) | (simp at hG; omega)) rfl)) ?_
      refine wl_v rfl (val_sub (lk rfl) lkc) ?_
      refine wl_call gd_none rfl ci_48 (args2 lkc (lk rfl)) (fun hG w1 hw => sMax_c _ _ w1) ?_
      refine wl_v rfl (val_index es_24 (lk rfl) (lk rfl) (fun hG => rfl) (fun hG => (by omega))) ?_
      refine wl_v rfl (val_field fo_31_3 (lk rfl)) ?_
      refine wl_store1 0 rfl (lk rfl) (lk rfl) t1_3 rfl (by rw [Nat.blt_eq, List.length_append, flat_len encU_len]; omega) ?_
      refine wl_nil ?_
      refine px_block ?_
      refine px_block ?_
      refine px_then ?_
      refine wc_region ?_
      refine wl_v rfl (val_move (lk rfl)) ?_
      refine wl_v rfl (val_inc (lk rfl) (by omega)) ?_
      refine wl_v rfl (val_assign (lk rfl)) ?_
      refine wl_nil ?_
      refine px_round (((ys.set k ⟨(nth d0U ys k).net, (nth d0U ys k).sid, (nth d0U ys k).seq, imax 0 (IntKind.i64.wrap ((nth d0U ys k).byt - 1))⟩), k + 1, i19, h19)) (⟨(by show (ys.set k _).length = _; rw [List.length_set]; exact hyl), by show k + 1 ≤ _; omega⟩) (by show xs9.length - (k + 1) < xs9.length - k; omega) (⟨rfl, rfl, rfl, rfl, rfl, rfl, rfl, trivial⟩) (fun w1 h => by
        have h2 := h.mask [true, true, true] rfl
        have e1 := set_byt (sp := gs11) hlt (imax 0 (IntKind.i64.wrap ((nth d0U ys k).byt - 1)))
        show HP w [⟨_, true, 31, flat encU (ys.set k ⟨(nth d0U ys k).net, (nth d0U ys k).sid, (nth d0U ys k).seq, imax 0 (IntKind.i64.wrap ((nth d0U ys k).byt - 1))⟩) ++ gs11⟩, _, _] w1
        rw [← e1]
        exact h2)
    refine wc_skip ?_
    refine px_block ?_
    refine px_block ?_
    refine px_then ?_
    refine wc_region ?_
    refine wl_v rfl (val_move (lk rfl)) ?_
    refine wl_v rfl (val_inc (lk rfl) (by omega)) ?_
    refine wl_v rfl (val_assign (lk rfl)) ?_
    refine wl_nil ?_
    refine px_round ((ys, k + 1, i19, h19)) (⟨hyl, by show k + 1 ≤ _; omega⟩) (by show xs9.length - (k + 1) < xs9.length - k; omega) (⟨rfl, rfl, rfl, rfl, rfl, rfl, rfl, trivial⟩) (fun _ h => h.mask [true, true, true] rfl)
  refine wc_exit ?_
  refine px_then_exit ?_
  refine px_then_exit ?_
  refine px_block_exit ?_
  refine px_then ?_
  refine wc_seq ?_
  refine wc_seq ?_
  refine wc_region ?_
  refine wl_v rfl (val_move (lk rfl)) ?_
  refine wl_callw 2 rfl ci_54 (args2 (lk rfl) lkc) rfl (fun w1 hw => l1Below_c _ _ _ _ _ _ _ _ _ w1 (hk.hp hw (by simp)) (hw.own _ (.tail _ (.tail _ (.head _))))) (fun _ => rfl) ?_
  rintro ⟨x49, i49, h49⟩ hx49
  simp only at hx49
  refine wl_v rfl (val_assign (lk rfl)) ?_
  refine wl_nil ?_
  refine px_then ?_
  refine wc_block ?_
  refine wc_trim (l' := [(0, _), (2, _), (3, _), (4, _), (5, _), (7, _)]) ⟨rfl, rfl, rfl, rfl, rfl, rfl, trivial⟩ ?_
  refine wc_loopl (X := DLS) (fun x => x.d.row ∧ x.d.xs.length + x.m ≤ 10) (fun x => [(5, (true, .slice (some ⟨x.d.g, 0, none⟩) x.d.xs.length x.d.c)), (7, (true, .int .i64 (x.m : Nat)))]) (fun x => [⟨x.d.g, true, 31, flat encU x.d.xs ++ x.d.sp⟩, ⟨gr9, true, 31, flat encU xs9 ++ gs9⟩, ⟨cb, false, 67, curC A n c x.i x.h⟩]) (fun x => x.m) ⟨⟨ys, gb11, gc11, gs11⟩, x49.toNat, i49, h49⟩ (⟨⟨by have h9 := hgl11; rw [List.length_append, flat_len encU_len] at h9; show (flat encU ys ++ gs11).length = gc11 * 4; rw [List.length_append, flat_len encU_len, hyl]; exact h9, hgc11⟩, by have := hx49.2.1; have := hx49.1; show ys.length + x49.toNat ≤ 10; omega⟩) ⟨slotS hyl.symm, slotI (by have := hx49.1; show x49 = ((x49.toNat : Nat) : Int); omega), rfl, rfl, rfl, rfl, slotS hyl.symm, slotI (by have := hx49.1; show x49 = ((x49.toNat : Nat) : Int); omega), trivial⟩ (fun _ h => h) ?_
  rintro ⟨⟨zs, gz, zc, zp⟩, m, i, h⟩ ⟨⟨hzl, hzc⟩, hmb⟩
  simp only at hzl hzc hmb
  dsimp only
  refine wc_seq ?_
  refine wc_seq ?_
  refine wc_region ?_
  refine wl_v rfl (val_move (lk rfl)) ?_
  refine wl_v rfl (val_gtr (lk rfl) lkc) ?_
  refine wl_nil ?_
  refine px_then ?_
  refine wc_cond (lk rfl) (fun hc3 => ?_) (fun hc3 => ?_)
  · have hm0 : 0 < m := by have := of_decide_eq_true hc3; omega
    refine wc_skip ?_
    refine px_then ?_
    refine wc_seq ?_
    refine wc_block ?_
    refine wc_region ?_
    refine wl_v rfl (val_move (lk rfl)) ?_
    refine wl_v rfl (val_move (lk rfl)) ?_
    refine wl_callw 2 rfl ci_55 (args1 (lk rfl)) rfl (fun w1 hw => l18One_c _ _ _ _ _ _ _ _ w1 (hk.hp hw (by simp)) (hw.own _ (.tail _ (.tail _ (.head _))))) (fun _ => rfl) ?_
    rintro ⟨x57, i57, h57⟩ -
    refine wl_callx rfl ci_17 (args2 (lk rfl) (lk rfl)) (fun w1 hw => sApp_c zs _ _ _ _ x57 w1 (Sl.own hw (.head _)) (by omega)) (fun _ => rfl) ?_
    rintro ⟨gb58, gc58, gs58⟩ ⟨hgl58, hgc58⟩
    refine wl_v rfl (val_move (lk rfl)) ?_
    refine wl_v rfl (val_extract (lk rfl) rfl) ?_
    refine wl_v rfl (val_extract (lk rfl) rfl) ?_
    refine wl_v rfl (val_assign (lk rfl)) ?_
    refine wl_nil ?_
    refine px_block ?_
    refine px_then ?_
    refine wc_region ?_
    refine wl_v rfl (val_move (lk rfl)) ?_
    refine wl_v rfl (val_dec (lk rfl) (fun hG => ⟨by omega, by omega⟩)) ?_
    refine wl_v rfl (val_assign (lk rfl)) ?_
    refine wl_nil ?_
    refine px_round (⟨⟨appU zs x57, gb58, gc58, gs58⟩, m - 1, i57, h57⟩) (⟨⟨hgl58, hgc58⟩, by have := appU_le zs x57; show (appU zs x57).length + (m - 1) ≤ 10; omega⟩) (by show m - 1 < m; omega) (⟨rfl, rfl, rfl, rfl, rfl, rfl, rfl, rfl, trivial⟩) (fun _ h => h.mask [true, false, true, true] rfl)
  have hm0 : m = 0 := by have := of_decide_eq_false hc3; omega
  refine wc_exit ?_
  refine px_then_exit ?_
  refine px_then_exit ?_
  refine px_block_exit ?_
  refine px_then ?_
  refine wc_seq ?_
  refine wc_seq ?_
  refine wc_region ?_
  refine wl_v rfl (val_move (lk rfl)) ?_
  refine wl_callw 2 rfl ci_60 (args2 (lk rfl) lkc) rfl (fun w1 hw => l1Once_c _ _ _ _ _ _ _ _ _ w1 (hk.hp hw (by simp)) (hw.own _ (.tail _ (.tail _ (.head _))))) (fun _ => rfl) ?_
  rintro ⟨x62, i62, h62⟩ -
  refine wl_nil ?_
  refine px_then ?_
  refine wc_cond (lk rfl) (fun hc4 => ?_) (fun hc4 => ?_)
  · refine wc_region ?_
    refine wl_v rfl (val_move (lk rfl)) ?_
    refine wl_v rfl (val_move (lk rfl)) ?_
    refine wl_callw 2 rfl ci_57 (args1 (lk rfl)) rfl (fun w1 hw => l18Any_c _ _ _ _ _ _ _ _ w1 (hk.hp hw (by simp)) (hw.own _ (.tail _ (.tail _ (.head _))))) (fun _ => rfl) ?_
    rintro ⟨⟨xs65, gr65, gc65, gs65⟩, i65, h65⟩ ⟨⟨hgl65, hgc65⟩, hlen65⟩
    simp only at hgl65 hgc65 hlen65
    refine wl_appendR encU_len (by decide) zs xs65 1 es_24 zc_31 rfl eb_31 (lk rfl) rfl hzl hzc (lk rfl) (fun _ hw => Sl.own hw (.head _)) (by first | omega | (simp only [List.length_nil]; omega) | (simp only [List.length_cons, List.length_nil]; omega)) (by first | omega | (simp only [List.length_nil]; omega) | (simp only [List.length_cons, List.length_nil]; omega)) rfl fun a66 ac66 as66 hal66 ham66 => ?_
    refine wl_v rfl (val_assign (lk rfl)) ?_
    refine wl_nil ?_
    refine px_then ?_
    refine wc_seq ?_
    refine wc_region ?_
    refine wl_v rfl (val_move (lk rfl)) ?_
    refine wl_v rfl (val_move (lk rfl)) ?_
    refine wl_v rfl (val_assign (lk rfl)) ?_
    refine wl_v rfl (val_assign (lk rfl)) ?_
    refine wl_nil ?_
    refine px_then ?_
    refine wc_ret ?_
    refine fin2 rfl (res_tmp rfl) (res_tmp rfl) (fun w1 hw => ?_)
    exact ⟨(⟨xs9, gr9, gc9, gs9⟩, ⟨zs ++ xs65, a66, ac66, as66⟩, i65, h65), ⟨⟨hgl9, hgc9⟩, ⟨hal66, ham66⟩, hok9, hlen9, by show (zs ++ xs65).length ≤ 35; simp; omega⟩, rfl, (hw.mask [true, false, true, true] rfl).rev3 rfl⟩
  refine wc_skip ?_
  refine px_then ?_
  refine wc_seq ?_
  refine wc_region ?_
  refine wl_v rfl (val_move (lk rfl)) ?_
  refine wl_v rfl (val_move (lk rfl)) ?_
  refine wl_v rfl (val_assign (lk rfl)) ?_
  refine wl_v rfl (val_assign (lk rfl)) ?_
  refine wl_nil ?_
  refine px_then ?_
  refine wc_ret ?_
  refine fin2 rfl (res_tmp rfl) (res_tmp rfl) (fun w1 hw => ?_)
  exact ⟨(⟨xs9, gr9, gc9, gs9⟩, ⟨zs, gz, zc, zp⟩, i62, h62), ⟨⟨hgl9, hgc9⟩, ⟨hzl, hzc⟩, hok9, hlen9, by show zs.length ≤ 35; omega⟩, rfl, (hw.mask [true, true, true] rfl).rev3 rfl⟩

theorem l19Trio_c (A : Option Addr) (n b o c : Nat) (w : World) (hk : Cod w A n b o) :
    Calls Try.prog 44 #[.slice A n c] w fun e w' => ∃ x : DL × DL × Int, (x.1.row ∧ x.2.1.row ∧ okAll x.1.xs = true ∧ x.1.xs.length ≤ 8 ∧ x.2.1.xs.length ≤ 35) ∧ e = .returned (.tuple #[x.1.val, x.2.1.val, .int .i64 x.2.2]) ∧ HP w [⟨x.1.g, true, 31, flat encU x.1.xs ++ x.1.sp⟩, ⟨x.2.1.g, true, 31, flat encU x.2.1.xs ++ x.2.1.sp⟩] w' := by
  refine calls_entry [] _ Try.func44 rfl Try.ntmps44 (HP.refl w) (env1 rfl) ?_
  refine wc_seq ?_
  refine wc_region ?_
  refine wl_v rfl (val_assign lkc) ?_
  refine wl_v rfl (val_assign lkc) ?_
  refine wl_v rfl (val_assign lkc) ?_
  refine wl_nil ?_
  refine px_then ?_
  refine wc_seq ?_
  refine wc_region ?_
  refine wl_v rfl (val_move (lk rfl)) ?_
  refine wl_callx rfl ci_37 (args1 (lk rfl)) (fun w1 hw => l1New_c _ _ _ _ _ w1 (hk.hp hw rfl)) (fun _ => rfl) ?_
  rintro ⟨gc9, h9⟩ -
  refine wl_v rfl (val_assign (lk rfl)) ?_
  refine wl_nil ?_
  refine px_then ?_
  refine wc_seq ?_
  refine wc_region ?_
  refine wl_v rfl (val_move (lk rfl)) ?_
  refine wl_callw 0 rfl ci_50 (args1 (lk rfl)) rfl (fun w1 hw => l19Two_c _ _ _ _ _ _ _ _ w1 (hk.cur hw rfl (.head _)) (hw.own _ (.head _))) (fun _ => rfl) ?_
  rintro ⟨⟨xs12, gr12, gc12, gs12⟩, ⟨ys12, gy12, yc12, zs12⟩, i12, h12⟩ ⟨⟨hgl12, hgc12⟩, ⟨hyl12, hyc12⟩, hok12, hlen12, hleny12⟩
  simp only at hgl12 hgc12 hyl12 hyc12 hok12 hlen12 hleny12
  refine wl_v rfl (val_move (lk rfl)) ?_
  refine wl_v rfl (val_extract (lk rfl) rfl) ?_
  refine wl_v rfl (val_extract (lk rfl) rfl) ?_
  refine wl_v rfl (val_assign (lk rfl)) ?_
  refine wl_v rfl (val_assign (lk rfl)) ?_
  refine wl_nil ?_
  refine px_then ?_
  refine wc_seq ?_
  refine wc_region ?_
  refine wl_v rfl (val_move (lk rfl)) ?_
  refine wl_v rfl (val_move (lk rfl)) ?_
  refine wl_v rfl (val_move (lk rfl)) ?_
  refine wl_callw 2 rfl ci_54 (args2 (lk rfl) lkc) rfl (fun w1 hw => l1Below_c _ _ _ _ _ _ _ _ _ w1 (hk.cur hw rfl (.tail _ (.tail _ (.head _)))) (hw.own _ (.tail _ (.tail _ (.head _))))) (fun _ => rfl) ?_
  rintro ⟨x18, i18, h18⟩ hx18
  simp only at hx18
  refine wl_v rfl (val_assign (lk rfl)) ?_
  refine wl_v rfl (val_assign (lk rfl)) ?_
  refine wl_v rfl (val_assign (lk rfl)) ?_
  refine wl_nil ?_
  refine px_then ?_
  refine wc_ret ?_
  refine fin3 rfl (res_tmp rfl) (res_tmp rfl) (res_tmp rfl) (fun w1 hw => ?_)
  exact ⟨(⟨xs12, gr12, gc12, gs12⟩, ⟨ys12, gy12, yc12, zs12⟩, x18), ⟨⟨hgl12, hgc12⟩, ⟨hyl12, hyc12⟩, hok12, hlen12, hleny12⟩, rfl, (hw.mask [true, true, false] rfl)⟩

theorem DrawDisp_c (A : Option Addr) (n b o c : Nat) (w : World) (hk : Cod w A n b o) :
    Calls Try.prog 20 #[.slice A n c] w fun e w' => ∃ x : DL × DL × Int, (x.1.row ∧ x.2.1.row ∧ okAll x.1.xs = true ∧ x.1.xs.length ≤ 8 ∧ x.2.1.xs.length ≤ 35) ∧ e = .returned (.tuple #[x.1.val, x.2.1.val, .int .i64 x.2.2]) ∧ HP w [⟨x.1.g, true, 31, flat encU x.1.xs ++ x.1.sp⟩, ⟨x.2.1.g, true, 31, flat encU x.2.1.xs ++ x.2.1.sp⟩] w' := by
  refine calls_entry [] _ Try.func20 rfl Try.ntmps20 (HP.refl w) (env1 rfl) ?_
  refine wc_seq ?_
  refine wc_region ?_
  refine wl_v rfl (val_assign lkc) ?_
  refine wl_v rfl (val_assign lkc) ?_
  refine wl_v rfl (val_assign lkc) ?_
  refine wl_nil ?_
  refine px_then ?_
  refine wc_seq ?_
  refine wc_region ?_
  refine wl_v rfl (val_move (lk rfl)) ?_
  refine wl_callx rfl ci_44 (args1 (lk rfl)) (fun w1 hw => l19Trio_c _ _ _ _ _ w1 (hk.hp hw rfl)) (fun _ => rfl) ?_
  rintro ⟨⟨xs6, gr6, gc6, gs6⟩, ⟨ys6, gy6, yc6, zs6⟩, x6⟩ ⟨⟨hgl6, hgc6⟩, ⟨hyl6, hyc6⟩, hok6, hlen6, hleny6⟩
  simp only at hgl6 hgc6 hyl6 hyc6 hok6 hlen6 hleny6
  refine wl_v rfl (val_extract (lk rfl) rfl) ?_
  refine wl_v rfl (val_extract (lk rfl) rfl) ?_
  refine wl_v rfl (val_extract (lk rfl) rfl) ?_
  refine wl_v rfl (val_assign (lk rfl)) ?_
  refine wl_v rfl (val_assign (lk rfl)) ?_
  refine wl_v rfl (val_assign (lk rfl)) ?_
  refine wl_nil ?_
  refine px_then ?_
  refine wc_ret ?_
  refine fin3 rfl (res_tmp rfl) (res_tmp rfl) (res_tmp rfl) (fun w1 hw => ?_)
  exact ⟨(⟨xs6, gr6, gc6, gs6⟩, ⟨ys6, gy6, yc6, zs6⟩, x6), ⟨⟨hgl6, hgc6⟩, ⟨hyl6, hyc6⟩, hok6, hlen6, hleny6⟩, rfl, (hw.mask [true, true] rfl)⟩

theorem DrawOwed_c (A : Option Addr) (n b o c : Nat) (w : World) (hk : Cod w A n b o) :
    Calls Try.prog 30 #[.slice A n c] w fun e w' => ∃ x : DL × DL × Agr, (x.1.row ∧ x.2.1.row ∧ okAll x.1.xs = true ∧ x.1.xs.length ≤ 8 ∧ x.2.1.xs.length ≤ 35) ∧ e = .returned (.tuple #[.agg (recV encG x.2.2).toArray, x.1.val, x.2.1.val]) ∧ HP w [⟨x.1.g, true, 31, flat encU x.1.xs ++ x.1.sp⟩, ⟨x.2.1.g, true, 31, flat encU x.2.1.xs ++ x.2.1.sp⟩] w' := by
  refine calls_entry [] _ Try.func30 rfl Try.ntmps30 (HP.refl w) (env1 rfl) ?_
  refine wc_seq ?_
  refine wc_region ?_
  refine wl_alloc zc_48 rfl fun b1 => ?_
  refine wl_v rfl (val_assign lkc) ?_
  refine wl_v rfl (val_assign lkc) ?_
  refine wl_nil ?_
  refine px_then ?_
  refine wc_seq ?_
  refine wc_region ?_
  refine wl_v rfl (val_move (lk rfl)) ?_
  refine wl_callx rfl ci_37 (args1 (lk rfl)) (fun w1 hw => l1New_c _ _ _ _ _ w1 (hk.hp hw rfl)) (fun _ => rfl) ?_
  rintro ⟨gc10, h10⟩ -
  refine wl_v rfl (val_assign (lk rfl)) ?_
  refine wl_nil ?_
  refine px_then ?_
  refine wc_seq ?_
  refine wc_region ?_
  refine wl_v rfl (val_move (lk rfl)) ?_
  refine wl_callw 0 rfl ci_49 (args1 (lk rfl)) rfl (fun w1 hw => l19Any_c _ _ _ _ _ _ _ _ w1 (hk.cur hw rfl (.head _)) (hw.own _ (.head _))) (fun _ => rfl) ?_
  rintro ⟨xg12, i12, h12⟩ -
  refine wl_alloc zc_48 rfl fun b2 => ?_
  refine wl_storeB 0 rfl (lk rfl) (lk rfl) ag_48 rfl rfl ?_
  refine wl_nil ?_
  refine px_then ?_
  refine wc_seq ?_
  refine wc_region ?_
  refine wl_v rfl (val_move (lk rfl)) ?_
  refine wl_callw 1 rfl ci_50 (args1 (lk rfl)) rfl (fun w1 hw => l19Two_c _ _ _ _ _ _ _ _ w1 (hk.cur hw rfl (.tail _ (.head _))) (hw.own _ (.tail _ (.head _)))) (fun _ => rfl) ?_
  rintro ⟨⟨xs15, gr15, gc15, gs15⟩, ⟨ys15, gy15, yc15, zs15⟩, i15, h15⟩ ⟨⟨hgl15, hgc15⟩, ⟨hyl15, hyc15⟩, hok15, hlen15, hleny15⟩
  simp only at hgl15 hgc15 hyl15 hyc15 hok15 hlen15 hleny15
  refine wl_v rfl (val_move (lk rfl)) ?_
  refine wl_v rfl (val_extract (lk rfl) rfl) ?_
  refine wl_v rfl (val_extract (lk rfl) rfl) ?_
  refine wl_v rfl (val_assign (lk rfl)) ?_
  refine wl_v rfl (val_assign (lk rfl)) ?_
  refine wl_nil ?_
  refine px_then ?_
  refine wc_seq ?_
  refine wc_region ?_
  refine wl_v rfl (val_loadB (.tail _ (.tail _ (.head _))) (lk rfl) ag_48) ?_
  refine wl_v rfl (val_move (lk rfl)) ?_
  refine wl_v rfl (val_move (lk rfl)) ?_
  refine wl_storeB 4 rfl (lk rfl) (lk rfl) ag_48 rfl rfl ?_
  refine wl_v rfl (val_assign (lk rfl)) ?_
  refine wl_v rfl (val_assign (lk rfl)) ?_
  refine wl_nil ?_
  refine px_then ?_
  refine wc_ret ?_
  refine fin3 rfl (res_cell rfl (.tail _ (.tail _ (.tail _ (.tail _ (.head _))))) ag_48) (res_tmp rfl) (res_tmp rfl) (fun w1 hw => ?_)
  exact ⟨(⟨xs15, gr15, gc15, gs15⟩, ⟨ys15, gy15, yc15, zs15⟩, xg12), ⟨⟨hgl15, hgc15⟩, ⟨hyl15, hyc15⟩, hok15, hlen15, hleny15⟩, rfl, (hw.mask [true, true, false, false, false] rfl)⟩

theorem DrawNet_c (A : Option Addr) (n b o c : Nat) (w : World) (hk : Cod w A n b o) :
    Calls Try.prog 34 #[.slice A n c] w fun e w' => ∃ x : DL × DL × Agr × Agr, (x.1.row ∧ x.2.1.row ∧ okAll x.1.xs = true ∧ x.1.xs.length ≤ 8 ∧ x.2.1.xs.length ≤ 35) ∧ e = .returned (.tuple #[.agg (recV encG x.2.2.1).toArray, .agg (recV encG x.2.2.2).toArray, x.1.val, x.2.1.val]) ∧ HP w [⟨x.1.g, true, 31, flat encU x.1.xs ++ x.1.sp⟩, ⟨x.2.1.g, true, 31, flat encU x.2.1.xs ++ x.2.1.sp⟩] w' := by
  refine calls_entry [] _ Try.func34 rfl Try.ntmps34 (HP.refl w) (env1 rfl) ?_
  refine wc_seq ?_
  refine wc_region ?_
  refine wl_alloc zc_48 rfl fun b1 => ?_
  refine wl_alloc zc_48 rfl fun b2 => ?_
  refine wl_v rfl (val_assign lkc) ?_
  refine wl_v rfl (val_assign lkc) ?_
  refine wl_nil ?_
  refine px_then ?_
  refine wc_seq ?_
  refine wc_region ?_
  refine wl_v rfl (val_move (lk rfl)) ?_
  refine wl_callx rfl ci_37 (args1 (lk rfl)) (fun w1 hw => l1New_c _ _ _ _ _ w1 (hk.hp hw rfl)) (fun _ => rfl) ?_
  rintro ⟨gc12, h12⟩ -
  refine wl_v rfl (val_assign (lk rfl)) ?_
  refine wl_nil ?_
  refine px_then ?_
  refine wc_seq ?_
  refine wc_region ?_
  refine wl_v rfl (val_move (lk rfl)) ?_
  refine wl_callw 0 rfl ci_49 (args1 (lk rfl)) rfl (fun w1 hw => l19Any_c _ _ _ _ _ _ _ _ w1 (hk.cur hw rfl (.head _)) (hw.own _ (.head _))) (fun _ => rfl) ?_
  rintro ⟨xg14, i14, h14⟩ -
  refine wl_alloc zc_48 rfl fun b3 => ?_
  refine wl_storeB 0 rfl (lk rfl) (lk rfl) ag_48 rfl rfl ?_
  refine wl_nil ?_
  refine px_then ?_
  refine wc_seq ?_
  refine wc_region ?_
  refine wl_v rfl (val_move (lk rfl)) ?_
  refine wl_callw 1 rfl ci_49 (args1 (lk rfl)) rfl (fun w1 hw => l19Any_c _ _ _ _ _ _ _ _ w1 (hk.cur hw rfl (.tail _ (.head _))) (hw.own _ (.tail _ (.head _)))) (fun _ => rfl) ?_
  rintro ⟨xg16, i16, h16⟩ -
  refine wl_alloc zc_48 rfl fun b4 => ?_
  refine wl_storeB 0 rfl (lk rfl) (lk rfl) ag_48 rfl rfl ?_
  refine wl_nil ?_
  refine px_then ?_
  refine wc_seq ?_
  refine wc_region ?_
  refine wl_v rfl (val_move (lk rfl)) ?_
  refine wl_callw 2 rfl ci_50 (args1 (lk rfl)) rfl (fun w1 hw => l19Two_c _ _ _ _ _ _ _ _ w1 (hk.cur hw rfl (.tail _ (.tail _ (.head _)))) (hw.own _ (.tail _ (.tail _ (.head _))))) (fun _ => rfl) ?_
  rintro ⟨⟨xs19, gr19, gc19, gs19⟩, ⟨ys19, gy19, yc19, zs19⟩, i19, h19⟩ ⟨⟨hgl19, hgc19⟩, ⟨hyl19, hyc19⟩, hok19, hlen19, hleny19⟩
  simp only at hgl19 hgc19 hyl19 hyc19 hok19 hlen19 hleny19
  refine wl_v rfl (val_move (lk rfl)) ?_
  refine wl_v rfl (val_extract (lk rfl) rfl) ?_
  refine wl_v rfl (val_extract (lk rfl) rfl) ?_
  refine wl_v rfl (val_assign (lk rfl)) ?_
  refine wl_v rfl (val_assign (lk rfl)) ?_
  refine wl_nil ?_
  refine px_then ?_
  refine wc_seq ?_
  refine wc_region_am [true, true, true, true, true, false, false] 8 mo_ rfl ?_
  refine wa_take 0 rfl (by kernel_rfl) (by kernel_rfl) (by kernel_rfl) (by kernel_rfl) (fun _ h => h.mask [true, true, true, true, true, false, false] rfl) gd_none rfl (val_loadB (.tail _ (.tail _ (.tail _ (.head _)))) (lk rfl) ag_48) ?_
  refine wa_take 1 rfl (by kernel_rfl) (by kernel_rfl) (by kernel_rfl) (by kernel_rfl) (fun _ h => h.mask [true, true, true, true, true, false, false] rfl) gd_none rfl (val_loadB (.tail _ (.tail _ (.head _))) (lk rfl) ag_48) ?_
  refine wa_take 2 rfl (by kernel_rfl) (by kernel_rfl) (by kernel_rfl) (by kernel_rfl) (fun _ h => h.mask [true, true, true, true, true, false, false] rfl) gd_none rfl (val_move (lk rfl)) ?_
  refine wa_take 3 rfl (by kernel_rfl) (by kernel_rfl) (by kernel_rfl) (by kernel_rfl) (fun _ h => h.mask [true, true, true, true, true, false, false] rfl) gd_none rfl (val_move (lk rfl)) ?_
  refine wa_only 4 (by kernel_rfl) rfl ?_
  refine wl_storeB 6 rfl (lk rfl) (lk rfl) ag_48 rfl rfl ?_
  refine wl_nil (px_qn (fun _ h => h.mask [true, true, true, true, true, false, false] rfl) ?_)
  refine wa_only 5 (by kernel_rfl) rfl ?_
  refine wl_storeB 5 rfl (lk rfl) (lk rfl) ag_48 rfl rfl ?_
  refine wl_nil (px_qn (fun _ h => h.mask [true, true, true, true, true, false, false] rfl) ?_)
  refine wa_take 6 rfl (by kernel_rfl) (by kernel_rfl) (by kernel_rfl) (by kernel_rfl) (fun _ h => h.mask [true, true, true, true, true, false, false] rfl) gd_none rfl (val_assign (lk rfl)) ?_
  refine wa_take 7 rfl (by kernel_rfl) (by kernel_rfl) (by kernel_rfl) (by kernel_rfl) (fun _ h => h.mask [true, true, true, true, true, false, false] rfl) gd_none rfl (val_assign (lk rfl)) ?_
  refine wa_done (by kernel_rfl) ?_
  refine px_then ?_
  refine wc_ret ?_
  refine fin4 rfl (res_cell rfl (.tail _ (.tail _ (.tail _ (.tail _ (.tail _ (.tail _ (.head _))))))) ag_48) (res_cell rfl (.tail _ (.tail _ (.tail _ (.tail _ (.tail _ (.head _)))))) ag_48) (res_tmp rfl) (res_tmp rfl) (fun w1 hw => ?_)
  exact ⟨(⟨xs19, gr19, gc19, gs19⟩, ⟨ys19, gy19, yc19, zs19⟩, xg14, xg16), ⟨⟨hgl19, hgc19⟩, ⟨hyl19, hyc19⟩, hok19, hlen19, hleny19⟩, rfl, (hw.mask [true, true, false, false, false, false, false] rfl)⟩

end Go.Proofs.Ytcdinidpclmmeaa
