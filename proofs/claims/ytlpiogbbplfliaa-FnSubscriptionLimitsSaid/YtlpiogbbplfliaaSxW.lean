/- Drawn subscriptions and bearers, walked. -/
import Derived.Test.YtlpiogbbplfliaaSxU
namespace Go.Proofs.Ytlpiogbbplfliaa
open Go.RowKit


section
variable {P : Program} {Q : Exit → Act → World → Prop} {w0 : World} {ops : Array Oper} {n : Nat} {rest : List Oper} {l : Env} {bs : List Blk} {d : Tmp} {ty : TypeId} {pos : String} {af : Array Edge} {gd : Option (Nat × Bool)}
/-- a call that makes new memory, behind a guard that holds -/
theorem wl_callxg {G : Bool} {X : Type} {good : X → Prop} {val : X → Value} {nb : X → List Blk} {f : FuncId} {args : List Operand} {atys : Array TypeId} {vals : List Value} (hg : GD ops l n ⟨some d, .call ⟨.value (.func f), args.toArray, atys⟩, ty, pos, af, gd⟩ G) (hG : G = true) (hd : Nat.blt d n = true) (hci : CI P f)
    (ha : Args l n true args vals) (hc : ∀ w, HP w0 bs w → Calls P f vals.toArray w fun e w' => ∃ x, good x ∧ e = .returned (val x) ∧ HP w (nb x) w') (hn : ∀ x, (nb x).all (·.new) = true)
    (k : ∀ x, good x → WL P ops w0 n rest ((d, (true, val x)) :: l) (nb x ++ bs) Q) : WL P ops w0 n (⟨some d, .call ⟨.value (.func f), args.toArray, atys⟩, ty, pos, af, gd⟩ :: rest) l bs Q := fun a w hea hw => by
  refine wpList_step fun K hK => ?_
  rw [hg a hea, hG]
  simp only [if_true]
  unfold Oper.wp
  rw [run_call (vals := vals.toArray) hci a (by simp [ha.map a hea rfl]) w]
  refine (hc w hw).mono fun e w' ⟨x, hx, he, hh⟩ => ?_
  subst he
  exact hK _ _ (k x hx _ w' (hea.put (blt_lt hd) true _ _ rfl) (hw.comp hh (hn x)))
end
theorem HP.sw {w w' : World} {bs : List Blk} {x y : Blk} (h : HP w bs w') (e : bs = [x, y]) : HP w [y, x] w' := by
  subst e
  exact h.perm (List.Perm.swap _ _ _)
def RI (xs : List Int) (A : Option Addr) (c g : Nat) (T : TypeId) (cs : List Value) : Prop := RowG encI 1 3 xs A c g T cs
theorem RI.sl {w0 w : World} {bs : List Blk} {nw : Bool} {xs : List Int} {A : Option Addr} {c g : Nat} {T : TypeId} {cs : List Value} (h : RI xs A c g T cs) (hw : HP w0 bs w) (hm : (⟨g, nw, T, cs⟩ : Blk) ∈ bs) : Sl w A g 0 (flat encI xs) := RowG.sl h hw hm
/-- a drawn subscription -/
structure DP where
  s : Sub
  A : Option Addr
  c : Nat
  g : Nat
  T : TypeId
  cs : List Value
def DP.row (x : DP) : Prop := RI x.s.nets x.A x.c x.g x.T x.cs
def subC (s : Sub) (A : Option Addr) (c : Nat) : List Value := [.int .i64 s.rate, .int .i64 s.best, .int .i64 s.grant, .slice A s.nets.length c]
structure DPS where
  d : DP
  m : Nat
  i : Nat
  h : Int
/-- a drawn list of bearers -/
structure DL where
  xs : List Bear
  g : Nat
  c : Nat
  sp : List Value
def DL.row (x : DL) : Prop := (flat encB x.xs ++ x.sp).length = x.c * 3 ∧ x.c ≤ 9223372036854775807
def DL.val (x : DL) : Value := .slice (some ⟨x.g, 0, none⟩) x.xs.length x.c
structure DLS where
  d : DL
  m : Nat
  i : Nat
  h : Int
def findB (rs : List Bear) (n : Int) : Int := findI (fun r => r.id == n) 0 rs
theorem findB_lt {rs : List Bear} {n : Int} (h : 0 ≤ findB rs n) : (findB rs n).toNat < rs.length ∧ findB rs n < rs.length := by
  have := (findI_lt (fun r : Bear => r.id == n) 0 rs h).2
  rw [← findB] at this
  omega

theorem l11One_c (A : Option Addr) (n b o c cb i : Nat) (h : Int) (w : World) (hk : Code w A n b o cb) (hb : w.heap[cb]? = some (.cells (curC A n c i h).toArray 67 (0, 0))) :
    Calls Try.prog 65 #[.pointer (some ⟨cb, 0, none⟩)] w fun e w' => ∃ x : Bear × Nat × Int, True ∧ e = .returned (.agg (recV encB x.1).toArray) ∧ HP w [⟨cb, false, 67, curC A n c x.2.1 x.2.2⟩] w' := by
  refine calls_entry [⟨cb, false, 67, curC A n c i h⟩] _ Try.func65 rfl Try.ntmps65 (HP.one hb) (env1 rfl) ?_
  refine wc_seq ?_
  refine wc_region ?_
  refine wl_alloc zc_36 rfl fun b1 => ?_
  refine wl_nil ?_
  refine px_then ?_
  refine wc_seq ?_
  refine wc_region ?_
  refine wl_v rfl (val_move (lk rfl)) ?_
  refine wl_callw 1 rfl ci_58 (args2 (lk rfl) lkc) rfl (fun w1 hw => l1Below_c _ _ _ _ _ _ _ _ _ w1 (hk.hp hw (by simp)) (hw.own _ (.tail _ (.head _)))) (fun _ => rfl) ?_
  rintro ⟨x4, i4, h4⟩ hx4
  simp only at hx4
  refine wl_v rfl (val_add lkc (lk rfl)) ?_
  refine wl_v rfl (val_move (lk rfl)) ?_
  refine wl_callw 1 rfl ci_58 (args2 (lk rfl) lkc) rfl (fun w1 hw => l1Below_c _ _ _ _ _ _ _ _ _ w1 (hk.hp hw (by simp)) (hw.own _ (.tail _ (.head _)))) (fun _ => rfl) ?_
  rintro ⟨x7, i7, h7⟩ hx7
  simp only at hx7
  refine wl_v rfl (val_add lkc (lk rfl)) ?_
  refine wl_v rfl (val_move (lk rfl)) ?_
  refine wl_callw 1 rfl ci_58 (args2 (lk rfl) lkc) rfl (fun w1 hw => l1Below_c _ _ _ _ _ _ _ _ _ w1 (hk.hp hw (by simp)) (hw.own _ (.tail _ (.head _)))) (fun _ => rfl) ?_
  rintro ⟨x10, i10, h10⟩ hx10
  simp only at hx10
  refine wl_v rfl (val_add lkc (lk rfl)) ?_
  refine wl_v rfl (val_buildP (partsC (lk rfl) (partsC (lk rfl) (partsC (lk rfl) parts0))) (bl_36_0_1_2 _ _ _)) ?_
  refine wl_storeB 0 rfl (lk rfl) (lk rfl) ag_36 rfl rfl ?_
  refine wl_nil ?_
  refine px_then ?_
  refine wc_ret ?_
  refine fin1 rfl (res_cell rfl (.head _) ag_36) (fun w1 hw => ?_)
  exact ⟨(⟨IntKind.i64.wrap (1 + x4), IntKind.i64.wrap (1 + x7), IntKind.i64.wrap (1 + x10)⟩, i10, h10), trivial, rfl, hw.mask [false, true] rfl⟩

theorem findB_c (rs : List Bear) (A : Option Addr) (b o c : Nat) (v : Int) (w : World) (hs : Sl w A b o (flat encB rs)) (hl : rs.length ≤ 1000) :
    Calls Try.prog 66 #[.slice A rs.length c, .int .i64 v] w fun e w' => e = .returned (.int .i64 (findB rs v)) ∧ HP w [] w' := by
  refine calls_entry [] _ Try.func66 rfl Try.ntmps66 (HP.refl w) (env2 rfl) ?_
  refine wc_seq ?_
  refine wc_region ?_
  refine wl_v rfl (val_assign lkc) ?_
  refine wl_nil ?_
  refine px_then ?_
  refine wc_seq ?_
  refine wc_seq ?_
  refine wc_region ?_
  refine wl_v rfl (val_assign lkc) ?_
  refine wl_nil ?_
  refine px_then ?_
  refine wc_block ?_
  refine wc_trim (l' := [(0, _), (1, _), (4, _), (5, _)]) ⟨rfl, rfl, rfl, rfl, trivial⟩ ?_
  refine wc_loop0 (X := Nat) (fun k => k ≤ rs.length ∧ findI (fun r => r.id == v) k (rs.drop k) = findI (fun r => r.id == v) 0 rs) (fun k => [(5, (true, .int .i64 (k : Nat)))]) (fun k => rs.length - k) 0 (⟨Nat.zero_le _, rfl⟩) ⟨rfl, rfl, rfl, rfl, rfl, trivial⟩ ?_
  rintro k ⟨hk, ht⟩
  refine wc_seq ?_
  refine wc_seq ?_
  refine wc_region ?_
  refine wl_v rfl (val_move (lk rfl)) ?_
  refine wl_v rfl (val_move (lk rfl)) ?_
  refine wl_v rfl (val_len es_44 (lk rfl)) ?_
  refine wl_v rfl (val_lss (lk rfl) (lk rfl)) ?_
  refine wl_nil ?_
  refine px_then ?_
  refine wc_cond (lk rfl) (fun hc0 => ?_) (fun hc0 => ?_)
  · have hlt : k < rs.length := by have := of_decide_eq_true hc0; omega
    refine wc_skip ?_
    refine px_then ?_
    refine wc_seq ?_
    refine wc_block ?_
    refine wc_seq ?_
    refine wc_region ?_
    refine wl_v rfl (val_move (lk rfl)) ?_
    refine wl_v rfl (val_move (lk rfl)) ?_
    refine wl_v rfl (val_index es_44 (lk rfl) (lk rfl) (fun hG => hs.hd encB_len (by decide) (i := k) (by first | omega | (have h9 := of_decide_eq_true hG; omega) | (simp at hG; omega))) (fun hG => by first | omega | (have h9 := of_decide_eq_true hG; omega) | (simp at hG; omega))) ?_
    refine wl_v rfl (val_field fo_36_0 (lk rfl)) ?_
    refine wl_v rfl (val_load1 t1_3 (lk rfl) (cell_old rfl fun hG => hs.fld encB_len d0B (i := k) (f := 0) (by first | omega | (have h9 := of_decide_eq_true hG; omega) | (simp at hG; omega)) (by decide) rfl)) ?_
    refine wl_v rfl (val_move (lk rfl)) ?_
    refine wl_v rfl (val_eql (lk rfl) (lk rfl)) ?_
    refine wl_nil ?_
    refine px_then ?_
    refine wc_cond (lk rfl) (fun hc1 => ?_) (fun hc1 => ?_)
    · refine wc_seq ?_
      refine wc_region ?_
      refine wl_v rfl (val_move (lk rfl)) ?_
      refine wl_v rfl (val_assign (lk rfl)) ?_
      refine wl_nil ?_
      refine px_then ?_
      refine wc_ret ?_
      refine px_block_ret ?_
      refine px_then_ret ?_
      refine px_then_ret ?_
      refine px_block_ret ?_
      refine px_then_ret ?_
      refine fin1 rfl (res_tmp rfl) (fun w1 hw => ?_)
      exact ⟨by rw [findB, ← ht, drop_nth (d := d0B) hlt, findI, if_pos (by simpa using hc1)], hw.drop rfl⟩
    refine wc_skip ?_
    refine px_block ?_
    refine px_then ?_
    refine wc_region ?_
    refine wl_v rfl (val_move (lk rfl)) ?_
    refine wl_v rfl (val_inc (lk rfl) (by omega)) ?_
    refine wl_v rfl (val_assign (lk rfl)) ?_
    refine wl_nil ?_
    refine px_round0 (k + 1) (⟨by omega, by rw [← ht, drop_nth (d := d0B) hlt, findI, if_neg (by simpa using hc1)]⟩) (by omega) (⟨rfl, rfl, rfl, rfl, rfl, trivial⟩) (fun _ h => h.dropN 0 rfl)
  have hge : k = rs.length := by have := of_decide_eq_false hc0; omega
  subst hge
  refine wc_exit ?_
  refine px_then_exit ?_
  refine px_then_exit ?_
  refine px_block_exit ?_
  refine px_then ?_
  refine wc_seq ?_
  refine wc_region ?_
  refine wl_v rfl (val_assign lkc) ?_
  refine wl_nil ?_
  refine px_then ?_
  refine wc_ret ?_
  refine fin1 rfl (res_tmp rfl) (fun w1 hw => ?_)
  exact ⟨by rw [findB, ← ht]; simp [findI], hw.drop rfl⟩

theorem copyB_c (rs : List Bear) (A : Option Addr) (b o c : Nat) (w : World) (hs : Sl w A b o (flat encB rs)) (hl : rs.length ≤ 1000) :
    Calls Try.prog 61 #[.slice A rs.length c] w fun e w' => ∃ x : Nat × Nat × List Value, ((flat encB (rs) ++ x.2.2).length = x.2.1 * 3 ∧ x.2.1 ≤ 9223372036854775807) ∧ e = .returned (.slice (some ⟨x.1, 0, none⟩) (rs).length x.2.1) ∧ HP w [⟨x.1, true, 36, flat encB (rs) ++ x.2.2⟩] w' := by
  refine calls_entry [] _ Try.func61 rfl Try.ntmps61 (HP.refl w) (env1 rfl) ?_
  refine wc_seq ?_
  refine wc_region ?_
  refine wl_v rfl (val_assign lkc) ?_
  refine wl_nil ?_
  refine px_then ?_
  refine wc_seq ?_
  refine wc_region ?_
  refine wl_bslice parts0 bsl_44_0_ rfl fun b1 => ?_
  refine wl_v rfl (val_move (lk rfl)) ?_
  refine wl_appendR (sp := []) encB_len (by decide) [] rs 0 es_44 zc_36 rfl eb_36 (lk rfl) rfl rfl (by decide) (lk rfl) (fun _ hw => hs.hp hw rfl) (by first | omega | (simp <;> omega)) (by first | omega | (simp <;> omega)) rfl fun a5 ac5 as5 hal5 ham5 => ?_
  refine wl_v rfl (val_assign (lk rfl)) ?_
  refine wl_nil ?_
  refine px_then ?_
  refine wc_ret ?_
  refine fin1 rfl (res_tmp rfl) (fun w1 hw => ?_)
  exact ⟨(a5, ac5, as5), ⟨hal5, ham5⟩, rfl, hw.mask [true] rfl⟩

theorem okB_c (rs : List Bear) (A : Option Addr) (b o c : Nat) (w : World) (hs : Sl w A b o (flat encB rs)) (hl : rs.length ≤ 1000) :
    Calls Try.prog 67 #[.slice A rs.length c] w fun e w' => ∃ x : Bool × Unit, True ∧ e = .returned (.bool x.1) ∧ HP w [] w' := by
  refine calls_entry [] _ Try.func67 rfl Try.ntmps67 (HP.refl w) (env1 rfl) ?_
  refine wc_seq ?_
  refine wc_region ?_
  refine wl_v rfl (val_assign lkc) ?_
  refine wl_nil ?_
  refine px_then ?_
  refine wc_seq ?_
  refine wc_seq ?_
  refine wc_region ?_
  refine wl_v rfl (val_assign lkc) ?_
  refine wl_nil ?_
  refine px_then ?_
  refine wc_block ?_
  refine wc_trim (l' := [(0, _), (2, _), (3, _)]) ⟨rfl, rfl, rfl, trivial⟩ ?_
  refine wc_loop0 (X := Nat) (fun k => k ≤ rs.length) (fun k => [(3, (true, .int .i64 (k : Nat)))]) (fun k => rs.length - k) 0 (Nat.zero_le _) ⟨rfl, rfl, rfl, rfl, trivial⟩ ?_
  intro k hk
  refine wc_seq ?_
  refine wc_seq ?_
  refine wc_region ?_
  refine wl_v rfl (val_move (lk rfl)) ?_
  refine wl_v rfl (val_move (lk rfl)) ?_
  refine wl_v rfl (val_len es_44 (lk rfl)) ?_
  refine wl_v rfl (val_lss (lk rfl) (lk rfl)) ?_
  refine wl_nil ?_
  refine px_then ?_
  refine wc_cond (lk rfl) (fun hc0 => ?_) (fun hc0 => ?_)
  · have hlt : k < rs.length := by have := of_decide_eq_true hc0; omega
    refine wc_skip ?_
    refine px_then ?_
    refine wc_seq ?_
    refine wc_block ?_
    refine wc_seq ?_
    refine wc_region_q mo_ (by kernel_rfl) ?_
    refine wq_v rfl (val_move (lk rfl)) ?_
    refine wq_v rfl (val_move (lk rfl)) ?_
    refine wq_v rfl (val_index es_44 (lk rfl) (lk rfl) (fun hG => hs.hd encB_len (by decide) (i := k) (by first | omega | (have h9 := of_decide_eq_true hG; omega) | (simp at hG; omega))) (fun hG => by first | omega | (have h9 := of_decide_eq_true hG; omega) | (simp at hG; omega))) ?_
    refine wq_v rfl (val_field fo_36_0 (lk rfl)) ?_
    refine wq_v rfl (val_load1 t1_3 (lk rfl) (cell_old rfl fun hG => hs.fld encB_len d0B (i := k) (f := 0) (by first | omega | (have h9 := of_decide_eq_true hG; omega) | (simp at hG; omega)) (by decide) rfl)) ?_
    refine wq_call gd_none rfl ci_41 (args3 (lk rfl) lkc lkc) (fun hG w1 hw => l1In_c _ _ _ w1) ?_
    refine wq_v rfl (val_not (lk rfl)) ?_
    refine wq_v rfl (val_move (lk rfl)) ?_
    refine wq_val (gd_f rfl rfl rfl) rfl (val_move (lk rfl)) ?_
    refine wq_val (gd_f rfl rfl rfl) rfl (val_move (lk rfl)) ?_
    refine wq_val (gd_f rfl rfl rfl) rfl (val_index es_44 (lkg rfl) (lkg rfl) (fun hG => hs.hd encB_len (by decide) (i := k) (by first | omega | (have h9 := of_decide_eq_true hG; omega) | (simp at hG; omega))) (fun hG => by first | omega | (have h9 := of_decide_eq_true hG; omega) | (simp at hG; omega))) ?_
    refine wq_val (gd_f rfl rfl rfl) rfl (val_field fo_36_1 (lkg rfl)) ?_
    refine wq_val (gd_f rfl rfl rfl) rfl (val_load1 t1_3 (lkg rfl) (cell_old rfl fun hG => hs.fld encB_len d0B (i := k) (f := 1) (by first | omega | (have h9 := of_decide_eq_true hG; omega) | (simp at hG; omega)) (by decide) rfl)) ?_
    refine wq_call (gd_f rfl rfl rfl) rfl ci_41 (args3 (lkg rfl) lkc lkc) (fun hG w1 hw => l1In_c _ _ _ w1) ?_
    refine wq_val (gd_f rfl rfl rfl) rfl (val_not (lkg rfl)) ?_
    refine wq_v rfl (val_or (lk rfl) (lkg rfl)) ?_
    refine wq_v rfl (val_move (lk rfl)) ?_
    refine wq_val (gd_f rfl rfl rfl) rfl (val_move (lk rfl)) ?_
    refine wq_val (gd_f rfl rfl rfl) rfl (val_move (lk rfl)) ?_
    refine wq_val (gd_f rfl rfl rfl) rfl (val_index es_44 (lkg rfl) (lkg rfl) (fun hG => hs.hd encB_len (by decide) (i := k) (by first | omega | (have h9 := of_decide_eq_true hG; omega) | (simp at hG; omega))) (fun hG => by first | omega | (have h9 := of_decide_eq_true hG; omega) | (simp at hG; omega))) ?_
    refine wq_val (gd_f rfl rfl rfl) rfl (val_field fo_36_2 (lkg rfl)) ?_
    refine wq_val (gd_f rfl rfl rfl) rfl (val_load1 t1_3 (lkg rfl) (cell_old rfl fun hG => hs.fld encB_len d0B (i := k) (f := 2) (by first | omega | (have h9 := of_decide_eq_true hG; omega) | (simp at hG; omega)) (by decide) rfl)) ?_
    refine wq_call (gd_f rfl rfl rfl) rfl ci_41 (args3 (lkg rfl) lkc lkc) (fun hG w1 hw => l1In_c _ _ _ w1) ?_
    refine wq_val (gd_f rfl rfl rfl) rfl (val_not (lkg rfl)) ?_
    refine wq_v rfl (val_or (lk rfl) (lkg rfl)) ?_
    refine wq_v rfl (val_move (lk rfl)) ?_
    refine wq_val (gd_f rfl rfl rfl) rfl (val_move (lk rfl)) ?_
    refine wq_val (gd_f rfl rfl rfl) rfl (val_gtr (lkg rfl) lkc) ?_
    refine wq_val (gd_f rfl rfl rfl) rfl (val_move (lkg rfl)) ?_
    refine wq_val (gd_gt rfl rfl rfl) rfl (val_move (lk rfl)) ?_
    refine wq_val (gd_gt rfl rfl rfl) rfl (val_move (lk rfl)) ?_
    refine wq_val (gd_gt rfl rfl rfl) rfl (val_dec (lkg rfl) (fun hG => ⟨by simp at hG; omega, by omega⟩)) ?_
    refine wq_val (gd_gt rfl rfl rfl) rfl (val_index es_44 (lkg rfl) (lkg rfl) (fun hG => hs.hd encB_len (by decide) (i := (k - 1)) (by first | omega | (have h9 := of_decide_eq_true hG; omega) | (simp at hG; omega))) (fun hG => by first | omega | (have h9 := of_decide_eq_true hG; omega) | (simp at hG; omega))) ?_
    refine wq_val (gd_gt rfl rfl rfl) rfl (val_field fo_36_0 (lkg rfl)) ?_
    refine wq_val (gd_gt rfl rfl rfl) rfl (val_load1 t1_3 (lkg rfl) (cell_old rfl fun hG => hs.fld encB_len d0B (i := (k - 1)) (f := 0) (by first | omega | (have h9 := of_decide_eq_true hG; omega) | (simp at hG; omega)) (by decide) rfl)) ?_
    refine wq_val (gd_gt rfl rfl rfl) rfl (val_move (lk rfl)) ?_
    refine wq_val (gd_gt rfl rfl rfl) rfl (val_move (lk rfl)) ?_
    refine wq_val (gd_gt rfl rfl rfl) rfl (val_index es_44 (lkg rfl) (lkg rfl) (fun hG => hs.hd encB_len (by decide) (i := k) (by first | omega | (have h9 := of_decide_eq_true hG; omega) | (simp at hG; omega))) (fun hG => by first | omega | (have h9 := of_decide_eq_true hG; omega) | (simp at hG; omega))) ?_
    refine wq_val (gd_gt rfl rfl rfl) rfl (val_field fo_36_0 (lkg rfl)) ?_
    refine wq_val (gd_gt rfl rfl rfl) rfl (val_load1 t1_3 (lkg rfl) (cell_old rfl fun hG => hs.fld encB_len d0B (i := k) (f := 0) (by first | omega | (have h9 := of_decide_eq_true hG; omega) | (simp at hG; omega)) (by decide) rfl)) ?_
    refine wq_val (gd_gt rfl rfl rfl) rfl (val_geq (lkg rfl) (lkg rfl)) ?_
    refine wq_val (gd_f rfl rfl rfl) rfl (val_and (lkg rfl) (lkg rfl)) ?_
    refine wq_v rfl (val_or (lk rfl) (lkg rfl)) ?_
    refine wq_nil ?_
    refine px_then ?_
    refine wc_cond (lk rfl) (fun hc1 => ?_) (fun hc1 => ?_)
    · refine wc_seq ?_
      refine wc_region ?_
      refine wl_v rfl (val_assign lkc) ?_
      refine wl_nil ?_
      refine px_then ?_
      refine wc_ret ?_
      refine px_block_ret ?_
      refine px_then_ret ?_
      refine px_then_ret ?_
      refine px_block_ret ?_
      refine px_then_ret ?_
      refine fin1 rfl (res_tmp rfl) (fun w1 hw => ?_)
      exact ⟨(_, ()), trivial, rfl, hw.drop rfl⟩
    refine wc_skip ?_
    refine px_block ?_
    refine px_then ?_
    refine wc_region ?_
    refine wl_v rfl (val_move (lk rfl)) ?_
    refine wl_v rfl (val_inc (lk rfl) (by omega)) ?_
    refine wl_v rfl (val_assign (lk rfl)) ?_
    refine wl_nil ?_
    refine px_round0 (k + 1) (by omega) (by omega) (⟨rfl, rfl, rfl, rfl, trivial⟩) (fun _ h => h.dropN 0 rfl)
  have hge : k = rs.length := by have := of_decide_eq_false hc0; omega
  subst hge
  refine wc_exit ?_
  refine px_then_exit ?_
  refine px_then_exit ?_
  refine px_block_exit ?_
  refine px_then ?_
  refine wc_seq ?_
  refine wc_region ?_
  refine wl_v rfl (val_move (lk rfl)) ?_
  refine wl_v rfl (val_len es_44 (lk rfl)) ?_
  refine wl_v rfl (val_leq (lk rfl) lkc) ?_
  refine wl_v rfl (val_assign (lk rfl)) ?_
  refine wl_nil ?_
  refine px_then ?_
  refine wc_ret ?_
  refine fin1 rfl (res_tmp rfl) (fun w1 hw => ?_)
  exact ⟨(_, ()), trivial, rfl, hw.drop rfl⟩

theorem setB_c (rs : List Bear) (A : Option Addr) (b o c : Nat) (r : Bear) (w : World) (hs : Sl w A b o (flat encB rs)) (hl : rs.length ≤ 900) :
    Calls Try.prog 64 #[.slice A rs.length c, .agg (recV encB r).toArray] w fun e w' => ∃ x : List Bear × Nat × Nat × List Value × Bool, (((flat encB x.1 ++ x.2.2.2.1).length = x.2.2.1 * 3 ∧ x.2.2.1 ≤ 9223372036854775807) ∧ x.1.length ≤ rs.length + 1) ∧ e = .returned (.tuple #[.slice (some ⟨x.2.1, 0, none⟩) x.1.length x.2.2.1, .bool x.2.2.2.2]) ∧ HP w [⟨x.2.1, true, 36, flat encB x.1 ++ x.2.2.2.1⟩] w' := by
  refine calls_entry [] _ Try.func64 rfl Try.ntmps64 (HP.refl w) (env2 rfl) ?_
  refine wc_seq ?_
  refine wc_region ?_
  refine wl_box (lk rfl) rfl fun b1 => ?_
  refine wl_v rfl (val_assign lkc) ?_
  refine wl_v rfl (val_assign lkc) ?_
  refine wl_nil ?_
  refine px_then ?_
  refine wc_seq ?_
  refine wc_region ?_
  refine wl_v rfl (val_move (lk rfl)) ?_
  refine wl_callx rfl ci_61 (args1 (lk rfl)) (fun w1 hw => copyB_c rs _ _ _ _ w1 (hs.hp hw rfl) (by omega)) (fun _ => rfl) ?_
  rintro ⟨gb9, gc9, gs9⟩ ⟨hgl9, hgc9⟩
  have hcp : rs.length ≤ gc9 := cap_le encB_len (by decide) hgl9
  have hcp2 : rs.length ≤ (gb9, gc9, gs9).snd.fst := hcp
  refine wl_v rfl (val_assign (lk rfl)) ?_
  refine wl_nil ?_
  refine px_then ?_
  refine wc_seq ?_
  refine wc_region ?_
  refine wl_v rfl (val_move (lk rfl)) ?_
  refine wl_v rfl (val_field fo_36_0 (lk rfl)) ?_
  refine wl_v rfl (val_load1 t1_3 (lk rfl) (cell_own (.tail _ (.head _)) fun _ => rfl)) ?_
  refine wl_call gd_none rfl ci_66 (args2 (lk rfl) (lk rfl)) (fun hG w1 hw => findB_c rs _ _ _ _ r.id w1 (hs.hp hw rfl) (by omega)) ?_
  refine wl_v rfl (val_assign (lk rfl)) ?_
  refine wl_nil ?_
  refine px_then ?_
  refine wc_seq ?_
  refine wc_seq ?_
  refine wc_region ?_
  refine wl_v rfl (val_move (lk rfl)) ?_
  refine wl_v rfl (val_geq (lk rfl) lkc) ?_
  refine wl_nil ?_
  refine px_then ?_
  refine wc_cond (lk rfl) (fun hc0 => ?_) (fun hc0 => ?_)
  · have h0 := of_decide_eq_true hc0
    have hlt := findB_lt h0
    have hlen : rs.length = (rs.set (findB rs r.id).toNat r).length := by rw [List.length_set]
    have e1 : (flat encB rs ++ gs9).take (0 + (findB rs r.id).toNat * 3) ++ recV encB r ++ (flat encB rs ++ gs9).drop (0 + (findB rs r.id).toNat * 3 + 3) = flat encB (rs.set (findB rs r.id).toNat r) ++ gs9 := by rw [Nat.zero_add]; exact set_nth encB_len rs _ hlt.1 r gs9
    refine wc_region ?_
    refine wl_v rfl (val_move (lk rfl)) ?_
    refine wl_v rfl (val_move (lk rfl)) ?_
    refine wl_v rfl (val_loadB (.tail _ (.head _)) (lk rfl) ag_36) ?_
    refine wl_v rfl (val_indexI es_44 (lk rfl) (lk rfl) (fun _ => rfl) (fun _ => ⟨h0, hlt.2⟩)) ?_
    refine wl_storeN (cs := flat encB rs ++ gs9) (vs := recV encB r) 0 ag_36 (lk rfl) (lk rfl) rfl rfl rfl (by rw [List.length_append, flat_len encB_len]; omega) ?_
    rw [e1]
    refine wl_nil ?_
    refine px_then ?_
    refine wc_seq ?_
    refine wc_seq ?_
    refine wc_region ?_
    refine wl_v rfl ((val_move (lk rfl)).eq (congrArg (fun m => Value.slice _ m _) hlen)) ?_
    refine wl_callx rfl ci_67 (args1 (lk rfl)) (fun w1 hw => okB_c _ _ _ _ _ w1 (Sl.own hw (.head _)) (by first | omega | (simp; omega))) (fun _ => rfl) ?_
    rintro ⟨x49, u49⟩ -
    refine wl_v rfl (val_not (lk rfl)) ?_
    refine wl_nil ?_
    refine px_then ?_
    refine wc_cond (lk rfl) (fun hc1 => ?_) (fun hc1 => ?_)
    · refine wc_seq ?_
      refine wc_region ?_
      refine wl_v rfl (val_move (lk rfl)) ?_
      refine wl_callx rfl ci_61 (args1 (lk rfl)) (fun w1 hw => copyB_c rs _ _ _ _ w1 (hs.hp hw rfl) (by omega)) (fun _ => rfl) ?_
      rintro ⟨gb52, gc52, gs52⟩ ⟨hgl52, hgc52⟩
      refine wl_v rfl (val_assign (lk rfl)) ?_
      refine wl_v rfl (val_assign lkc) ?_
      refine wl_nil ?_
      refine px_then ?_
      refine wc_ret ?_
      refine px_then_ret ?_
      refine fin2 rfl (res_tmp rfl) (res_tmp rfl) (fun w1 hw => ?_)
      exact ⟨(rs, gb52, gc52, gs52, _), ⟨⟨hgl52, hgc52⟩, Nat.le_succ _⟩, rfl, hw.mask [true, false, false] rfl⟩
    refine wc_skip ?_
    refine px_then ?_
    refine wc_seq ?_
    refine wc_region ?_
    refine wl_v rfl ((val_move (lk rfl)).eq (congrArg (fun m => Value.slice _ m _) hlen)) ?_
    refine wl_v rfl (val_assign (lk rfl)) ?_
    refine wl_v rfl (val_assign lkc) ?_
    refine wl_nil ?_
    refine px_then ?_
    refine wc_ret ?_
    refine fin2 rfl (res_tmp rfl) (res_tmp rfl) (fun w1 hw => ?_)
    exact ⟨(rs.set (findB rs r.id).toNat r, gb9, gc9, gs9, _), ⟨⟨by have h9 := hgl9; rw [List.length_append, flat_len encB_len] at h9 ⊢; rw [← hlen]; exact h9, hgc9⟩, by rw [List.length_set]; omega⟩, rfl, hw.mask [true, false] rfl⟩
  refine wc_seq ?_
  refine wc_region ?_
  refine wl_v rfl (val_assign lkc) ?_
  refine wl_nil ?_
  refine px_then ?_
  refine wc_seq ?_
  refine wc_block ?_
  refine wc_trim (l' := [(0, _), (3, _), (4, _), (5, _), (6, _), (7, _)]) ⟨rfl, rfl, rfl, rfl, rfl, rfl, trivial⟩ ?_
  refine wc_loop0 (X := Nat) (fun k => k ≤ rs.length) (fun k => [(7, (true, .int .i64 (k : Nat)))]) (fun k => rs.length - k) 0 (Nat.zero_le _) ⟨rfl, rfl, rfl, rfl, rfl, rfl, rfl, trivial⟩ ?_
  intro k hk
  refine wc_seq ?_
  refine wc_seq ?_
  refine wc_region_q mo_ (by kernel_rfl) ?_
  refine wq_v rfl (val_move (lk rfl)) ?_
  refine wq_v rfl (val_move (lk rfl)) ?_
  refine wq_v rfl (val_len es_44 (lk rfl)) ?_
  refine wq_v rfl (val_lss (lk rfl) (lk rfl)) ?_
  refine wq_v rfl (val_move (lk rfl)) ?_
  refine wq_val (gd_t rfl rfl rfl) rfl (val_move (lk rfl)) ?_
  refine wq_val (gd_t rfl rfl rfl) rfl (val_move (lk rfl)) ?_
  refine wq_val (gd_t rfl rfl rfl) rfl (val_index es_44 (lkg rfl) (lkg rfl) (fun hG => rfl) (fun hG => by first | omega | (have h9 := of_decide_eq_true hG; omega) | (simp at hG; omega))) ?_
  refine wq_val (gd_t rfl rfl rfl) rfl (val_field fo_36_0 (lkg rfl)) ?_
  refine wq_val (gd_t rfl rfl rfl) rfl (val_load1 t1_3 (lkg rfl) (own_fld (.head _) encB_len d0B (i := k) (f := 0) (fun hG => by first | omega | (have h9 := of_decide_eq_true hG; omega) | (simp at hG; omega)) rfl)) ?_
  refine wq_val (gd_t rfl rfl rfl) rfl (val_field fo_36_0 (lk rfl)) ?_
  refine wq_val (gd_t rfl rfl rfl) rfl (val_load1 t1_3 (lkg rfl) (cell_own (.tail _ (.head _)) fun _ => rfl)) ?_
  refine wq_val (gd_t rfl rfl rfl) rfl (val_lss (lkg rfl) (lkg rfl)) ?_
  refine wq_v rfl (val_and (lk rfl) (lkg rfl)) ?_
  refine wq_nil ?_
  refine px_then ?_
  refine wc_cond (lk rfl) (fun hc2 => ?_) (fun hc2 => ?_)
  · have hlt : k < rs.length := by have h9 : ((k : Nat) : Int) < ((rs.length : Nat) : Int) := of_decide_eq_true (Bool.and_eq_true _ _ ▸ hc2 : _ ∧ _).1; omega
    refine wc_skip ?_
    refine px_then ?_
    refine wc_block ?_
    refine wc_region ?_
    refine wl_v rfl (val_move (lk rfl)) ?_
    refine wl_v rfl (val_inc (lk rfl) (by omega)) ?_
    refine wl_v rfl (val_assign (lk rfl)) ?_
    refine wl_nil ?_
    refine px_block ?_
    refine px_round0 (k + 1) (by omega) (by omega) (⟨rfl, rfl, rfl, rfl, rfl, rfl, rfl, trivial⟩) (fun _ h => h.dropN 0 rfl)
  have hlen : ((([] ++ rs.take k) ++ [r]) ++ rs.drop k).length = ((([] ++ rs.take k) ++ [r]) ++ rs.drop k).length := rfl
  refine wc_exit ?_
  refine px_then_exit ?_
  refine px_then_exit ?_
  refine px_block_exit ?_
  refine px_then ?_
  refine wc_region_a0 13 mo_ rfl ?_
  refine wa_take 1 rfl (by kernel_rfl) (by kernel_rfl) (by kernel_rfl) (by kernel_rfl) (fun _ h => h.dropN 0 rfl) gd_none rfl (val_move (lk rfl)) ?_
  refine wa_take 2 rfl (by kernel_rfl) (by kernel_rfl) (by kernel_rfl) (by kernel_rfl) (fun _ h => h.dropN 0 rfl) gd_none rfl (val_move (lk rfl)) ?_
  refine wa_take 3 rfl (by kernel_rfl) (by kernel_rfl) (by kernel_rfl) (by kernel_rfl) (fun _ h => h.dropN 0 rfl) gd_none rfl ((val_slice_all es_44 (lk rfl) none (some (.tmp 38)) 0 k rfl ⟨_, lk rfl⟩ (fun _ => Nat.zero_le _) (fun _ => by omega)).eq (show _ = Value.slice (some ⟨gb9, 0, none⟩) (rs.take k).length gc9 by rw [List.length_take, Nat.min_eq_left (by omega)]; split <;> rfl)) ?_
  refine wa_take 5 rfl (by kernel_rfl) (by kernel_rfl) (by kernel_rfl) (by kernel_rfl) (fun _ h => h.dropN 0 rfl) gd_none rfl (val_loadB (.tail _ (.head _)) (lk rfl) ag_36) ?_
  refine wa_take 8 rfl (by kernel_rfl) (by kernel_rfl) (by kernel_rfl) (by kernel_rfl) (fun _ h => h.dropN 0 rfl) gd_none rfl (val_move (lk rfl)) ?_
  refine wa_take 9 rfl (by kernel_rfl) (by kernel_rfl) (by kernel_rfl) (by kernel_rfl) (fun _ h => h.dropN 0 rfl) gd_none rfl (val_move (lk rfl)) ?_
  refine wa_take 10 rfl (by kernel_rfl) (by kernel_rfl) (by kernel_rfl) (by kernel_rfl) (fun _ h => h.dropN 0 rfl) gd_none rfl ((val_slice_all es_44 (lk rfl) (some (.tmp 45)) none k rs.length ⟨_, lk rfl⟩ rfl (fun _ => by omega) (fun _ => by omega)).eq (show _ = Value.slice (if gc9 = k then some ⟨gb9, 0, none⟩ else some (Addr.add ⟨gb9, 0, none⟩ (k * 3))) (rs.drop k).length (gc9 - k) by rw [List.length_drop]; split <;> rfl)) ?_
  refine wa_two 0 6 (by kernel_rfl) rfl rfl ?_ ?_
  · refine wl_bslice parts0 bsl_44_0_ rfl fun b2 => ?_
    refine wl_nil (px_qn (fun _ h => h.dropN 1 rfl) ?_)
    refine wa_two 4 6 (by kernel_rfl) rfl rfl ?_ ?_
    · refine wl_appendR (sp := []) encB_len (by decide) [] (rs.take k) 0 es_44 zc_36 rfl eb_36 (lk rfl) rfl rfl (by decide) (lk rfl) (fun _ hw => ((Sl.own hw (.tail _ (.head _))).take (k * 3)).eq (flat_take encB_len rs k (by omega))) (by first | omega | (simp <;> omega)) (by first | omega | (simp <;> omega)) rfl fun a40 ac40 as40 hal40 ham40 => ?_
      refine wl_nil (px_qn (fun _ h => h.dropN 1 rfl) ?_)
      refine wa_only 6 (by kernel_rfl) rfl ?_
      refine wl_bslice (partsC (lk rfl) parts0) (bsl_44_1_0 _ _ _) rfl fun b3 => ?_
      refine wl_nil (px_qn (fun _ h => h.dropN 2 rfl) ?_)
      refine wa_only 7 (by kernel_rfl) rfl ?_
      refine wl_appendR encB_len (by decide) ([] ++ (rs.take k)) [r] 1 es_44 zc_36 rfl eb_36 (lk rfl) rfl hal40 ham40 (lk rfl) (fun _ hw => Sl.own' (vs := flat encB [r]) hw (.head _)) (by first | omega | (simp <;> omega)) (by first | omega | (simp <;> omega)) rfl fun a43 ac43 as43 hal43 ham43 => ?_
      refine wl_nil (px_qn (fun _ h => h.dropN 2 rfl) ?_)
      refine wa_only 11 (by kernel_rfl) rfl ?_
      refine wl_appendR encB_len (by decide) (([] ++ (rs.take k)) ++ [r]) (rs.drop k) 0 es_44 zc_36 rfl eb_36 (lk rfl) rfl hal43 ham43 (lk rfl) (fun _ hw => ((Sl.own hw (.tail _ (.tail _ (.head _)))).sub (by rw [flat_len encB_len]; omega)).eq (flat_drop encB_len rs k (by omega))) (by first | omega | (simp <;> omega)) (by first | omega | (simp <;> omega)) rfl fun a47 ac47 as47 hal47 ham47 => ?_
      refine wl_nil (px_qn (fun _ h => h.dropN 2 rfl) ?_)
      refine wa_take 12 rfl (by kernel_rfl) (by kernel_rfl) (by kernel_rfl) (by kernel_rfl) (fun _ h => h.dropN 2 rfl) gd_none rfl (val_assign (lk rfl)) ?_
      refine wa_done (by kernel_rfl) ?_
      refine px_then ?_
      refine wc_seq ?_
      refine wc_seq ?_
      refine wc_region ?_
      refine wl_v rfl ((val_move (lk rfl)).eq (congrArg (fun m => Value.slice _ m _) hlen)) ?_
      refine wl_callx rfl ci_67 (args1 (lk rfl)) (fun w1 hw => okB_c _ _ _ _ _ w1 (Sl.own hw (.head _)) (by first | omega | (simp; omega))) (fun _ => rfl) ?_
      rintro ⟨x49, u49⟩ -
      refine wl_v rfl (val_not (lk rfl)) ?_
      refine wl_nil ?_
      refine px_then ?_
      refine wc_cond (lk rfl) (fun hc3 => ?_) (fun hc3 => ?_)
      · refine wc_seq ?_
        refine wc_region ?_
        refine wl_v rfl (val_move (lk rfl)) ?_
        refine wl_callx rfl ci_61 (args1 (lk rfl)) (fun w1 hw => copyB_c rs _ _ _ _ w1 (hs.hp hw rfl) (by omega)) (fun _ => rfl) ?_
        rintro ⟨gb52, gc52, gs52⟩ ⟨hgl52, hgc52⟩
        refine wl_v rfl (val_assign (lk rfl)) ?_
        refine wl_v rfl (val_assign lkc) ?_
        refine wl_nil ?_
        refine px_then ?_
        refine wc_ret ?_
        refine px_then_ret ?_
        refine fin2 rfl (res_tmp rfl) (res_tmp rfl) (fun w1 hw => ?_)
        exact ⟨(rs, gb52, gc52, gs52, _), ⟨⟨hgl52, hgc52⟩, Nat.le_succ _⟩, rfl, hw.mask [true, false, false, false, false] rfl⟩
      refine wc_skip ?_
      refine px_then ?_
      refine wc_seq ?_
      refine wc_region ?_
      refine wl_v rfl ((val_move (lk rfl)).eq (congrArg (fun m => Value.slice _ m _) hlen)) ?_
      refine wl_v rfl (val_assign (lk rfl)) ?_
      refine wl_v rfl (val_assign lkc) ?_
      refine wl_nil ?_
      refine px_then ?_
      refine wc_ret ?_
      refine fin2 rfl (res_tmp rfl) (res_tmp rfl) (fun w1 hw => ?_)
      exact ⟨(((([] ++ rs.take k) ++ [r]) ++ rs.drop k), a47, ac47, as47, _), ⟨⟨hal47, ham47⟩, by simp; omega⟩, rfl, hw.mask [true, false, false, false] rfl⟩
    · refine wl_bslice (partsC (lk rfl) parts0) (bsl_44_1_0 _ _ _) rfl fun b4 => ?_
      refine wl_nil (px_qn (fun _ h => h.dropN 2 rfl) ?_)
      refine wa_only 4 (by kernel_rfl) rfl ?_
      refine wl_appendR (sp := []) encB_len (by decide) [] (rs.take k) 1 es_44 zc_36 rfl eb_36 (lk rfl) rfl rfl (by decide) (lk rfl) (fun _ hw => ((Sl.own hw (.tail _ (.tail _ (.head _)))).take (k * 3)).eq (flat_take encB_len rs k (by omega))) (by first | omega | (simp <;> omega)) (by first | omega | (simp <;> omega)) rfl fun a40 ac40 as40 hal40 ham40 => ?_
      refine wl_nil (px_qn (fun _ h => h.dropN 2 rfl) ?_)
      refine wa_only 7 (by kernel_rfl) rfl ?_
      refine wl_appendR encB_len (by decide) ([] ++ (rs.take k)) [r] 0 es_44 zc_36 rfl eb_36 (lk rfl) rfl hal40 ham40 (lk rfl) (fun _ hw => Sl.own' (vs := flat encB [r]) hw (.tail _ (.head _))) (by first | omega | (simp <;> omega)) (by first | omega | (simp <;> omega)) rfl fun a43 ac43 as43 hal43 ham43 => ?_
      refine wl_nil (px_qn (fun _ h => h.dropN 2 rfl) ?_)
      refine wa_only 11 (by kernel_rfl) rfl ?_
      refine wl_appendR encB_len (by decide) (([] ++ (rs.take k)) ++ [r]) (rs.drop k) 0 es_44 zc_36 rfl eb_36 (lk rfl) rfl hal43 ham43 (lk rfl) (fun _ hw => ((Sl.own hw (.tail _ (.tail _ (.head _)))).sub (by rw [flat_len encB_len]; omega)).eq (flat_drop encB_len rs k (by omega))) (by first | omega | (simp <;> omega)) (by first | omega | (simp <;> omega)) rfl fun a47 ac47 as47 hal47 ham47 => ?_
      refine wl_nil (px_qn (fun _ h => h.dropN 2 rfl) ?_)
      refine wa_take 12 rfl (by kernel_rfl) (by kernel_rfl) (by kernel_rfl) (by kernel_rfl) (fun _ h => h.dropN 2 rfl) gd_none rfl (val_assign (lk rfl)) ?_
      refine wa_done (by kernel_rfl) ?_
      refine px_then ?_
      refine wc_seq ?_
      refine wc_seq ?_
      refine wc_region ?_
      refine wl_v rfl ((val_move (lk rfl)).eq (congrArg (fun m => Value.slice _ m _) hlen)) ?_
      refine wl_callx rfl ci_67 (args1 (lk rfl)) (fun w1 hw => okB_c _ _ _ _ _ w1 (Sl.own hw (.head _)) (by first | omega | (simp; omega))) (fun _ => rfl) ?_
      rintro ⟨x49, u49⟩ -
      refine wl_v rfl (val_not (lk rfl)) ?_
      refine wl_nil ?_
      refine px_then ?_
      refine wc_cond (lk rfl) (fun hc3 => ?_) (fun hc3 => ?_)
      · refine wc_seq ?_
        refine wc_region ?_
        refine wl_v rfl (val_move (lk rfl)) ?_
        refine wl_callx rfl ci_61 (args1 (lk rfl)) (fun w1 hw => copyB_c rs _ _ _ _ w1 (hs.hp hw rfl) (by omega)) (fun _ => rfl) ?_
        rintro ⟨gb52, gc52, gs52⟩ ⟨hgl52, hgc52⟩
        refine wl_v rfl (val_assign (lk rfl)) ?_
        refine wl_v rfl (val_assign lkc) ?_
        refine wl_nil ?_
        refine px_then ?_
        refine wc_ret ?_
        refine px_then_ret ?_
        refine fin2 rfl (res_tmp rfl) (res_tmp rfl) (fun w1 hw => ?_)
        exact ⟨(rs, gb52, gc52, gs52, _), ⟨⟨hgl52, hgc52⟩, Nat.le_succ _⟩, rfl, hw.mask [true, false, false, false, false] rfl⟩
      refine wc_skip ?_
      refine px_then ?_
      refine wc_seq ?_
      refine wc_region ?_
      refine wl_v rfl ((val_move (lk rfl)).eq (congrArg (fun m => Value.slice _ m _) hlen)) ?_
      refine wl_v rfl (val_assign (lk rfl)) ?_
      refine wl_v rfl (val_assign lkc) ?_
      refine wl_nil ?_
      refine px_then ?_
      refine wc_ret ?_
      refine fin2 rfl (res_tmp rfl) (res_tmp rfl) (fun w1 hw => ?_)
      exact ⟨(((([] ++ rs.take k) ++ [r]) ++ rs.drop k), a47, ac47, as47, _), ⟨⟨hal47, ham47⟩, by simp; omega⟩, rfl, hw.mask [true, false, false, false] rfl⟩
  · refine wl_bslice (partsC (lk rfl) parts0) (bsl_44_1_0 _ _ _) rfl fun b5 => ?_
    refine wl_nil (px_qn (fun _ h => h.dropN 1 rfl) ?_)
    refine wa_only 0 (by kernel_rfl) rfl ?_
    refine wl_bslice parts0 bsl_44_0_ rfl fun b6 => ?_
    refine wl_nil (px_qn (fun _ h => h.dropN 2 rfl) ?_)
    refine wa_only 4 (by kernel_rfl) rfl ?_
    refine wl_appendR (sp := []) encB_len (by decide) [] (rs.take k) 0 es_44 zc_36 rfl eb_36 (lk rfl) rfl rfl (by decide) (lk rfl) (fun _ hw => ((Sl.own hw (.tail _ (.tail _ (.head _)))).take (k * 3)).eq (flat_take encB_len rs k (by omega))) (by first | omega | (simp <;> omega)) (by first | omega | (simp <;> omega)) rfl fun a40 ac40 as40 hal40 ham40 => ?_
    refine wl_nil (px_qn (fun _ h => h.dropN 2 rfl) ?_)
    refine wa_only 7 (by kernel_rfl) rfl ?_
    refine wl_appendR encB_len (by decide) ([] ++ (rs.take k)) [r] 0 es_44 zc_36 rfl eb_36 (lk rfl) rfl hal40 ham40 (lk rfl) (fun _ hw => Sl.own' (vs := flat encB [r]) hw (.tail _ (.head _))) (by first | omega | (simp <;> omega)) (by first | omega | (simp <;> omega)) rfl fun a43 ac43 as43 hal43 ham43 => ?_
    refine wl_nil (px_qn (fun _ h => h.dropN 2 rfl) ?_)
    refine wa_only 11 (by kernel_rfl) rfl ?_
    refine wl_appendR encB_len (by decide) (([] ++ (rs.take k)) ++ [r]) (rs.drop k) 0 es_44 zc_36 rfl eb_36 (lk rfl) rfl hal43 ham43 (lk rfl) (fun _ hw => ((Sl.own hw (.tail _ (.tail _ (.head _)))).sub (by rw [flat_len encB_len]; omega)).eq (flat_drop encB_len rs k (by omega))) (by first | omega | (simp <;> omega)) (by first | omega | (simp <;> omega)) rfl fun a47 ac47 as47 hal47 ham47 => ?_
    refine wl_nil (px_qn (fun _ h => h.dropN 2 rfl) ?_)
    refine wa_take 12 rfl (by kernel_rfl) (by kernel_rfl) (by kernel_rfl) (by kernel_rfl) (fun _ h => h.dropN 2 rfl) gd_none rfl (val_assign (lk rfl)) ?_
    refine wa_done (by kernel_rfl) ?_
    refine px_then ?_
    refine wc_seq ?_
    refine wc_seq ?_
    refine wc_region ?_
    refine wl_v rfl ((val_move (lk rfl)).eq (congrArg (fun m => Value.slice _ m _) hlen)) ?_
    refine wl_callx rfl ci_67 (args1 (lk rfl)) (fun w1 hw => okB_c _ _ _ _ _ w1 (Sl.own hw (.head _)) (by first | omega | (simp; omega))) (fun _ => rfl) ?_
    rintro ⟨x49, u49⟩ -
    refine wl_v rfl (val_not (lk rfl)) ?_
    refine wl_nil ?_
    refine px_then ?_
    refine wc_cond (lk rfl) (fun hc3 => ?_) (fun hc3 => ?_)
    · refine wc_seq ?_
      refine wc_region ?_
      refine wl_v rfl (val_move (lk rfl)) ?_
      refine wl_callx rfl ci_61 (args1 (lk rfl)) (fun w1 hw => copyB_c rs _ _ _ _ w1 (hs.hp hw rfl) (by omega)) (fun _ => rfl) ?_
      rintro ⟨gb52, gc52, gs52⟩ ⟨hgl52, hgc52⟩
      refine wl_v rfl (val_assign (lk rfl)) ?_
      refine wl_v rfl (val_assign lkc) ?_
      refine wl_nil ?_
      refine px_then ?_
      refine wc_ret ?_
      refine px_then_ret ?_
      refine fin2 rfl (res_tmp rfl) (res_tmp rfl) (fun w1 hw => ?_)
      exact ⟨(rs, gb52, gc52, gs52, _), ⟨⟨hgl52, hgc52⟩, Nat.le_succ _⟩, rfl, hw.mask [true, false, false, false, false] rfl⟩
    refine wc_skip ?_
    refine px_then ?_
    refine wc_seq ?_
    refine wc_region ?_
    refine wl_v rfl ((val_move (lk rfl)).eq (congrArg (fun m => Value.slice _ m _) hlen)) ?_
    refine wl_v rfl (val_assign (lk rfl)) ?_
    refine wl_v rfl (val_assign lkc) ?_
    refine wl_nil ?_
    refine px_then ?_
    refine wc_ret ?_
    refine fin2 rfl (res_tmp rfl) (res_tmp rfl) (fun w1 hw => ?_)
    exact ⟨(((([] ++ rs.take k) ++ [r]) ++ rs.drop k), a47, ac47, as47, _), ⟨⟨hal47, ham47⟩, by simp; omega⟩, rfl, hw.mask [true, false, false, false] rfl⟩

theorem l11Draw_c (A : Option Addr) (n b o c cb i : Nat) (h : Int) (w : World) (hk : Code w A n b o cb) (hb : w.heap[cb]? = some (.cells (curC A n c i h).toArray 67 (0, 0))) :
    Calls Try.prog 60 #[.pointer (some ⟨cb, 0, none⟩)] w fun e w' => ∃ x : DL × Nat × Int, (x.1.row ∧ x.1.xs.length ≤ 5) ∧ e = .returned x.1.val ∧ HP w [⟨cb, false, 67, curC A n c x.2.1 x.2.2⟩, ⟨x.1.g, true, 36, flat encB x.1.xs ++ x.1.sp⟩] w' := by
  refine calls_entry [⟨cb, false, 67, curC A n c i h⟩] _ Try.func60 rfl Try.ntmps60 (HP.one hb) (env1 rfl) ?_
  refine wc_seq ?_
  refine wc_region ?_
  refine wl_v rfl (val_assign lkc) ?_
  refine wl_nil ?_
  refine px_then ?_
  refine wc_seq ?_
  refine wc_region ?_
  refine wl_bslice parts0 bsl_44_0_ rfl fun b1 => ?_
  refine wl_v rfl (val_assign (lk rfl)) ?_
  refine wl_nil ?_
  refine px_then ?_
  refine wc_seq ?_
  refine wc_seq ?_
  refine wc_region ?_
  refine wl_v rfl (val_move (lk rfl)) ?_
  refine wl_callw 1 rfl ci_58 (args2 (lk rfl) lkc) rfl (fun w1 hw => l1Below_c _ _ _ _ _ _ _ _ _ w1 (hk.hp hw (by simp)) (hw.own _ (.tail _ (.head _)))) (fun _ => rfl) ?_
  rintro ⟨x7, i7, h7⟩ hx7
  simp only at hx7
  refine wl_v rfl (val_assign (lk rfl)) ?_
  refine wl_nil ?_
  refine px_then ?_
  refine wc_block ?_
  refine wc_trim (l' := [(0, _), (2, _), (3, _), (4, _)]) ⟨rfl, rfl, rfl, rfl, trivial⟩ ?_
  refine wc_loopl (X := DLS) (fun x => x.d.row ∧ x.d.xs.length + x.m ≤ 5) (fun x => [(3, (true, .slice (some ⟨x.d.g, 0, none⟩) x.d.xs.length x.d.c)), (4, (true, .int .i64 (x.m : Nat)))]) (fun x => [⟨x.d.g, true, 36, flat encB x.d.xs ++ x.d.sp⟩, ⟨cb, false, 67, curC A n c x.i x.h⟩]) (fun x => x.m) ⟨⟨[], b1, 0, []⟩, x7.toNat, i7, h7⟩ (⟨⟨rfl, Nat.zero_le _⟩, by have := hx7.2.1; show 0 + x7.toNat ≤ 5; omega⟩) ⟨rfl, slotI (by have := hx7.1; show x7 = ((x7.toNat : Nat) : Int); omega), rfl, rfl, rfl, slotI (by have := hx7.1; show x7 = ((x7.toNat : Nat) : Int); omega), trivial⟩ (fun _ h => h) ?_
  rintro ⟨⟨xs, gr, gc, gs⟩, m, i, h⟩ ⟨⟨hgl, hgc⟩, hmb⟩
  simp only at hgl hgc hmb
  dsimp only
  refine wc_seq ?_
  refine wc_seq ?_
  refine wc_region ?_
  refine wl_v rfl (val_move (lk rfl)) ?_
  refine wl_v rfl (val_gtr (lk rfl) lkc) ?_
  refine wl_nil ?_
  refine px_then ?_
  refine wc_cond (lk rfl) (fun hc0 => ?_) (fun hc0 => ?_)
  · have hm0 : 0 < m := by have := of_decide_eq_true hc0; omega
    refine wc_skip ?_
    refine px_then ?_
    refine wc_seq ?_
    refine wc_block ?_
    refine wc_region ?_
    refine wl_v rfl (val_move (lk rfl)) ?_
    refine wl_v rfl (val_move (lk rfl)) ?_
    refine wl_callw 1 rfl ci_65 (args1 (lk rfl)) rfl (fun w1 hw => l11One_c _ _ _ _ _ _ _ _ w1 (hk.hp hw (by simp)) (hw.own _ (.tail _ (.head _)))) (fun _ => rfl) ?_
    rintro ⟨x15, i15, h15⟩ -
    refine wl_callx rfl ci_64 (args2 (lk rfl) (lk rfl)) (fun w1 hw => setB_c xs _ _ _ _ x15 w1 (Sl.own hw (.head _)) (by omega)) (fun _ => rfl) ?_
    rintro ⟨ys16, gb16, gc16, gs16, rb16⟩ ⟨⟨hgl16, hgc16⟩, hyl16⟩
    simp only at hgl16 hgc16 hyl16
    refine wl_v rfl (val_move (lk rfl)) ?_
    refine wl_v rfl (val_extract (lk rfl) rfl) ?_
    refine wl_v rfl (val_extract (lk rfl) rfl) ?_
    refine wl_v rfl (val_assign (lk rfl)) ?_
    refine wl_nil ?_
    refine px_block ?_
    refine px_then ?_
    refine wc_region ?_
    refine wl_v rfl (val_move (lk rfl)) ?_
    refine wl_v rfl (val_dec (lk rfl) (fun hG => ⟨by omega, by omega⟩)) ?_
    refine wl_v rfl (val_assign (lk rfl)) ?_
    refine wl_nil ?_
    refine px_round (⟨⟨ys16, gb16, gc16, gs16⟩, m - 1, i15, h15⟩) (⟨⟨hgl16, hgc16⟩, by show ys16.length + (m - 1) ≤ 5; omega⟩) (by show m - 1 < m; omega) (⟨rfl, rfl, rfl, rfl, rfl, rfl, trivial⟩) (fun _ h => h.mask [true, false, true] rfl)
  have hm0 : m = 0 := by have := of_decide_eq_false hc0; omega
  refine wc_exit ?_
  refine px_then_exit ?_
  refine px_then_exit ?_
  refine px_block_exit ?_
  refine px_then ?_
  refine wc_seq ?_
  refine wc_region ?_
  refine wl_v rfl (val_move (lk rfl)) ?_
  refine wl_v rfl (val_assign (lk rfl)) ?_
  refine wl_nil ?_
  refine px_then ?_
  refine wc_ret ?_
  refine fin1 rfl (res_tmp rfl) (fun w1 hw => ?_)
  exact ⟨(⟨xs, gr, gc, gs⟩, i, h), ⟨⟨hgl, hgc⟩, by show xs.length ≤ 5; omega⟩, rfl, (hw.mask [true, true] rfl).sw rfl⟩

theorem l11Any_c (A : Option Addr) (n b o c cb i : Nat) (h : Int) (w : World) (hk : Code w A n b o cb) (hb : w.heap[cb]? = some (.cells (curC A n c i h).toArray 67 (0, 0))) :
    Calls Try.prog 56 #[.pointer (some ⟨cb, 0, none⟩)] w fun e w' => ∃ x : DL × Nat × Int, (x.1.row ∧ x.1.xs.length ≤ 10) ∧ e = .returned x.1.val ∧ HP w [⟨cb, false, 67, curC A n c x.2.1 x.2.2⟩, ⟨x.1.g, true, 36, flat encB x.1.xs ++ x.1.sp⟩] w' := by
  refine calls_entry [⟨cb, false, 67, curC A n c i h⟩] _ Try.func56 rfl Try.ntmps56 (HP.one hb) (env1 rfl) ?_
  refine wc_seq ?_
  refine wc_region ?_
  refine wl_v rfl (val_assign lkc) ?_
  refine wl_nil ?_
  refine px_then ?_
  refine wc_seq ?_
  refine wc_region ?_
  refine wl_v rfl (val_move (lk rfl)) ?_
  refine wl_callw 0 rfl ci_60 (args1 (lk rfl)) rfl (fun w1 hw => l11Draw_c _ _ _ _ _ _ _ _ w1 (hk.hp hw (by simp)) (hw.own _ (.head _))) (fun _ => rfl) ?_
  rintro ⟨⟨xs5, gr5, gc5, gs5⟩, i5, h5⟩ ⟨⟨hgl5, hgc5⟩, hlen5⟩
  simp only at hgl5 hgc5 hlen5
  refine wl_v rfl (val_assign (lk rfl)) ?_
  refine wl_nil ?_
  refine px_then ?_
  refine wc_seq ?_
  refine wc_seq ?_
  refine wc_region ?_
  refine wl_v rfl (val_move (lk rfl)) ?_
  refine wl_callw 1 rfl ci_58 (args2 (lk rfl) lkc) rfl (fun w1 hw => l1Below_c _ _ _ _ _ _ _ _ _ w1 (hk.hp hw (by simp)) (hw.own _ (.tail _ (.head _)))) (fun _ => rfl) ?_
  rintro ⟨x7, i7, h7⟩ hx7
  simp only at hx7
  refine wl_nil ?_
  refine px_then ?_
  refine wc_block ?_
  refine wc_seq ?_
  refine wc_region ?_
  refine wl_v rfl (val_eql (lk rfl) lkc) ?_
  refine wl_v rfl (val_assign (lk rfl)) ?_
  refine wl_nil ?_
  refine px_then ?_
  refine wc_cond (lk rfl) (fun hc0 => ?_) (fun hc0 => ?_)
  · refine wc_region ?_
    refine wl_v rfl (val_move (lk rfl)) ?_
    refine wl_v rfl (val_move (lk rfl)) ?_
    refine wl_bslice (partsC lkc (partsC lkc (partsC lkc parts0))) (bsl_22_3_0_1_2 _ _ _) rfl fun b1 => ?_
    refine wl_callw 2 rfl ci_59 (args2 (lk rfl) (lk rfl)) rfl (fun w1 hw => l1Int_c _ _ _ _ _ _ _ _ [0, 8, 9] _ _ 0 _ w1 (hk.hp hw (by simp)) (hw.own _ (.tail _ (.tail _ (.head _)))) (Sl.own' hw (.head _)) (by have h9 := hw.nodup; simp at h9 ⊢; omega) (by simp) (by simp)) (fun _ => rfl) ?_
    rintro ⟨x13, i13, h13⟩ hx13
    simp only at hx13
    refine wl_v rfl (val_move (lk rfl)) ?_
    refine wl_bslice (partsC lkc (partsC lkc (partsC lkc (partsC lkc parts0)))) (bsl_22_4_0_1_2_3 _ _ _ _) rfl fun b2 => ?_
    refine wl_callw 3 rfl ci_59 (args2 (lk rfl) (lk rfl)) rfl (fun w1 hw => l1Int_c _ _ _ _ _ _ _ _ [0, 1, 4, 5] _ _ 0 _ w1 (hk.hp hw (by simp)) (hw.own _ (.tail _ (.tail _ (.tail _ (.head _))))) (Sl.own' hw (.head _)) (by have h9 := hw.nodup; simp at h9 ⊢; omega) (by simp) (by simp)) (fun _ => rfl) ?_
    rintro ⟨x16, i16, h16⟩ hx16
    simp only at hx16
    refine wl_v rfl (val_move (lk rfl)) ?_
    refine wl_bslice (partsC lkc (partsC lkc (partsC lkc (partsC lkc parts0)))) (bsl_22_4_0_1_2_3 _ _ _ _) rfl fun b3 => ?_
    refine wl_callw 4 rfl ci_59 (args2 (lk rfl) (lk rfl)) rfl (fun w1 hw => l1Int_c _ _ _ _ _ _ _ _ [0, 1, 1000, 1001] _ _ 0 _ w1 (hk.hp hw (by simp)) (hw.own _ (.tail _ (.tail _ (.tail _ (.tail _ (.head _)))))) (Sl.own' hw (.head _)) (by have h9 := hw.nodup; simp at h9 ⊢; omega) (by simp) (by simp)) (fun _ => rfl) ?_
    rintro ⟨x19, i19, h19⟩ hx19
    simp only at hx19
    refine wl_v rfl (val_buildP (partsC (lk rfl) (partsC (lk rfl) (partsC (lk rfl) parts0))) (bl_36_0_1_2 _ _ _)) ?_
    refine wl_bslice (partsC (lk rfl) parts0) (bsl_44_1_0 _ _ _) rfl fun b4 => ?_
    refine wl_appendR encB_len (by decide) xs5 [(⟨nth d0I [0, 8, 9] x13, nth d0I [0, 1, 4, 5] x16, nth d0I [0, 1, 1000, 1001] x19⟩ : Bear)] 4 es_44 zc_36 rfl eb_36 (lk rfl) rfl hgl5 hgc5 (lk rfl) (fun _ hw => Sl.own' (vs := flat encB [(⟨nth d0I [0, 8, 9] x13, nth d0I [0, 1, 4, 5] x16, nth d0I [0, 1, 1000, 1001] x19⟩ : Bear)]) hw (.head _)) (by first | omega | (simp <;> omega)) (by first | omega | (simp <;> omega)) rfl fun a22 ac22 as22 hal22 ham22 => ?_
    refine wl_v rfl (val_assign (lk rfl)) ?_
    refine wl_nil ?_
    refine px_block ?_
    refine px_then ?_
    refine wc_seq ?_
    refine wc_region ?_
    refine wl_v rfl (val_move (lk rfl)) ?_
    refine wl_v rfl (val_assign (lk rfl)) ?_
    refine wl_nil ?_
    refine px_then ?_
    refine wc_ret ?_
    refine fin1 rfl (res_tmp rfl) (fun w1 hw => ?_)
    exact ⟨(⟨xs5 ++ [(⟨nth d0I [0, 8, 9] x13, nth d0I [0, 1, 4, 5] x16, nth d0I [0, 1, 1000, 1001] x19⟩ : Bear)], a22, ac22, as22⟩, i19, h19), ⟨⟨hal22, ham22⟩, by show (xs5 ++ [_]).length ≤ 10; simp; omega⟩, rfl, (hw.mask [true, false, false, false, false, true] rfl).sw rfl⟩
  refine wc_seq ?_
  refine wc_region ?_
  refine wl_v rfl (val_eql (lk rfl) lkc) ?_
  refine wl_v rfl (val_assign (lk rfl)) ?_
  refine wl_nil ?_
  refine px_then ?_
  refine wc_cond (lk rfl) (fun hc1 => ?_) (fun hc1 => ?_)
  · refine wc_region ?_
    refine wl_v rfl (val_move (lk rfl)) ?_
    refine wl_v rfl (val_move (lk rfl)) ?_
    refine wl_callx rfl ci_61 (args1 (lk rfl)) (fun w1 hw => copyB_c xs5 _ _ _ _ w1 (Sl.own hw (.head _)) (by omega)) (fun _ => rfl) ?_
    rintro ⟨gb27, gc27, gs27⟩ ⟨hgl27, hgc27⟩
    refine wl_appendR encB_len (by decide) xs5 xs5 1 es_44 zc_36 rfl eb_36 (lk rfl) rfl hgl5 hgc5 (lk rfl) (fun _ hw => Sl.own hw (.head _)) (by first | omega | (simp <;> omega)) (by first | omega | (simp <;> omega)) rfl fun a28 ac28 as28 hal28 ham28 => ?_
    refine wl_v rfl (val_assign (lk rfl)) ?_
    refine wl_nil ?_
    refine px_block ?_
    refine px_then ?_
    refine wc_seq ?_
    refine wc_region ?_
    refine wl_v rfl (val_move (lk rfl)) ?_
    refine wl_v rfl (val_assign (lk rfl)) ?_
    refine wl_nil ?_
    refine px_then ?_
    refine wc_ret ?_
    refine fin1 rfl (res_tmp rfl) (fun w1 hw => ?_)
    exact ⟨(⟨xs5 ++ xs5, a28, ac28, as28⟩, i7, h7), ⟨⟨hal28, ham28⟩, by show (xs5 ++ xs5).length ≤ 10; simp; omega⟩, rfl, (hw.mask [true, false, true] rfl).sw rfl⟩
  refine wc_skip ?_
  refine px_block ?_
  refine px_then ?_
  refine wc_seq ?_
  refine wc_region ?_
  refine wl_v rfl (val_move (lk rfl)) ?_
  refine wl_v rfl (val_assign (lk rfl)) ?_
  refine wl_nil ?_
  refine px_then ?_
  refine wc_ret ?_
  refine fin1 rfl (res_tmp rfl) (fun w1 hw => ?_)
  exact ⟨(⟨xs5, gr5, gc5, gs5⟩, i7, h7), ⟨⟨hgl5, hgc5⟩, by show xs5.length ≤ 10; omega⟩, rfl, (hw.mask [true, true] rfl).sw rfl⟩


/-- a subscription under way: its networks are nil, or lie in a block of their own -/
structure QS where
  s : Sub
  r : Option (Nat × Nat × List Value)
  m : Nat
  i : Nat
  h : Int
def QS.nb (x : QS) : List Blk := match x.r with | none => [] | some (g, _, sp) => [⟨g, true, 3, flat encI x.s.nets ++ sp⟩]
def QS.A (x : QS) : Option Addr := match x.r with | none => none | some (g, _, _) => some ⟨g, 0, none⟩
def QS.c (x : QS) : Nat := match x.r with | none => 0 | some (_, c, _) => c
def QS.row (x : QS) : Prop := match x.r with | none => x.s.nets = [] | some (_, c, sp) => (flat encI x.s.nets ++ sp).length = c * 1 ∧ c ≤ 9223372036854775807

theorem l20Plan_c (A : Option Addr) (n b o c cb i : Nat) (h : Int) (w : World) (hk : Code w A n b o cb) (hb : w.heap[cb]? = some (.cells (curC A n c i h).toArray 67 (0, 0))) :
    Calls Try.prog 57 #[.pointer (some ⟨cb, 0, none⟩)] w fun e w' => ∃ x : DP × Nat × Int, (x.1.row ∧ x.1.s.nets.length ≤ 4) ∧ e = .returned (x.1.s.val x.1.A x.1.c) ∧ HP w [⟨cb, false, 67, curC A n c x.2.1 x.2.2⟩, ⟨x.1.g, true, x.1.T, x.1.cs⟩] w' := by
  refine calls_entry [⟨cb, false, 67, curC A n c i h⟩] _ Try.func57 rfl Try.ntmps57 (HP.one hb) (env1 rfl) ?_
  refine wc_seq ?_
  refine wc_region ?_
  refine wl_alloc zc_27 rfl fun b1 => ?_
  refine wl_nil ?_
  refine px_then ?_
  refine wc_seq ?_
  refine wc_region ?_
  refine wl_v rfl (val_move (lk rfl)) ?_
  refine wl_callw 1 rfl ci_58 (args2 (lk rfl) lkc) rfl (fun w1 hw => l1Below_c _ _ _ _ _ _ _ _ _ w1 (hk.hp hw (by simp)) (hw.own _ (.tail _ (.head _)))) (fun _ => rfl) ?_
  rintro ⟨x6, i6, h6⟩ hx6
  simp only at hx6
  refine wl_v rfl (val_add lkc (lk rfl)) ?_
  refine wl_v rfl (val_move (lk rfl)) ?_
  refine wl_callw 1 rfl ci_58 (args2 (lk rfl) lkc) rfl (fun w1 hw => l1Below_c _ _ _ _ _ _ _ _ _ w1 (hk.hp hw (by simp)) (hw.own _ (.tail _ (.head _)))) (fun _ => rfl) ?_
  rintro ⟨x9, i9, h9⟩ hx9
  simp only at hx9
  refine wl_v rfl (val_add lkc (lk rfl)) ?_
  refine wl_v rfl (val_move (lk rfl)) ?_
  refine wl_callw 1 rfl ci_58 (args2 (lk rfl) lkc) rfl (fun w1 hw => l1Below_c _ _ _ _ _ _ _ _ _ w1 (hk.hp hw (by simp)) (hw.own _ (.tail _ (.head _)))) (fun _ => rfl) ?_
  rintro ⟨x12, i12, h12⟩ hx12
  simp only at hx12
  refine wl_v rfl (val_add lkc (lk rfl)) ?_
  refine wl_v rfl (val_buildP (partsC (lk rfl) (partsC (lk rfl) (partsC (lk rfl) parts0))) (bl_27_0_1_2 _ _ _)) ?_
  refine wl_alloc zc_27 rfl fun b2 => ?_
  refine wl_storeB 0 rfl (lk rfl) (lk rfl) ag_27 rfl rfl ?_
  refine wl_nil ?_
  refine px_then ?_
  refine wc_seq ?_
  refine wc_seq ?_
  refine wc_region ?_
  refine wl_v rfl (val_assign lkc) ?_
  refine wl_nil ?_
  refine px_then ?_
  refine wc_block ?_
  refine wc_trim (l' := [(0, _), (2, _), (3, _), (4, _)]) ⟨rfl, rfl, rfl, rfl, trivial⟩ ?_
  refine wc_loopl (X := QS) (fun x => x.row ∧ x.s.nets.length ≤ x.m ∧ x.m ≤ 4) (fun x => [(4, (true, .int .i64 (x.m : Nat)))]) (fun x => x.nb ++ [⟨b2, true, 27, subC x.s x.A x.c⟩, ⟨b1, true, 27, [.int .i64 0, .int .i64 0, .int .i64 0, .slice none 0 0]⟩, ⟨cb, false, 67, curC A n c x.i x.h⟩]) (fun x => 4 - x.m) ⟨⟨IntKind.i64.wrap (1 + x6), IntKind.i64.wrap (1 + x9), IntKind.i64.wrap (1 + x12), []⟩, none, 0, i12, h12⟩ (⟨rfl, Nat.zero_le _, Nat.zero_le _⟩) ⟨rfl, rfl, rfl, rfl, rfl, trivial⟩ (fun _ h => h) ?_
  rintro ⟨⟨sr, sb, sg, sn⟩, _ | ⟨gr, gc, gs⟩, m, i, h⟩ hgd
  · obtain ⟨hnil, hnm, hm4⟩ : sn = [] ∧ sn.length ≤ m ∧ m ≤ 4 := hgd
    subst hnil
    dsimp only [QS.nb, QS.A, QS.c, List.nil_append]
    refine wc_seq ?_
    refine wc_seq ?_
    refine wc_region ?_
    refine wl_v rfl (val_move (lk rfl)) ?_
    refine wl_v rfl (val_lss (lk rfl) lkc) ?_
    refine wl_nil ?_
    refine px_then ?_
    refine wc_cond (lk rfl) (fun hc0 => ?_) (fun hc0 => ?_)
    · have hlt : m < 4 := by have := of_decide_eq_true hc0; omega
      refine wc_skip ?_
      refine px_then ?_
      refine wc_seq ?_
      refine wc_block ?_
      refine wc_seq ?_
      refine wc_region ?_
      refine wl_v rfl (val_move (lk rfl)) ?_
      refine wl_callw 2 rfl ci_62 (args2 (lk rfl) lkc) rfl (fun w1 hw => l1Once_c _ _ _ _ _ _ _ _ _ w1 (hk.hp hw (by simp)) (hw.own _ (.tail _ (.tail _ (.head _))))) (fun _ => rfl) ?_
      rintro ⟨x20, i20, h20⟩ -
      refine wl_nil ?_
      refine px_then ?_
      refine wc_cond (lk rfl) (fun hc1 => ?_) (fun hc1 => ?_)
      · refine wc_region ?_
        refine wl_v rfl (val_field fo_27_3 (lk rfl)) ?_
        refine wl_v rfl (val_load1 t1_22 (lk rfl) (cell_own (.head _) fun _ => rfl)) ?_
        refine wl_v rfl (val_move (lk rfl)) ?_
        refine wl_bslice (partsC (lk rfl) parts0) (bsl_22_1_0 _) rfl fun b3 => ?_
        refine wl_append0R encI_len (by decide) [((m : Nat) : Int)] es_22 zc_3 rfl eb_3 (lk rfl) (lk rfl) (by simp) (fun _ hw => Sl.own' (vs := flat encI [((m : Nat) : Int)]) hw (.head _)) (by simp) (by simp) rfl fun a25 ac25 as25 hal25 ham25 => ?_
        refine wl_v rfl (val_field fo_27_3 (lk rfl)) ?_
        refine wl_store1 2 rfl (lk rfl) (lk rfl) t1_22 rfl (rfl) ?_
        refine wl_nil ?_
        refine px_block ?_
        refine px_then ?_
        refine wc_region ?_
        refine wl_v rfl (val_move (lk rfl)) ?_
        refine wl_v rfl (val_inc (lk rfl) (by omega)) ?_
        refine wl_v rfl (val_assign (lk rfl)) ?_
        refine wl_nil ?_
        refine px_round (⟨⟨sr, sb, sg, [((m : Nat) : Int)]⟩, some (a25, ac25, as25), m + 1, i20, h20⟩) (⟨⟨hal25, ham25⟩, by show (1 : Nat) ≤ m + 1; omega, by show m + 1 ≤ 4; omega⟩) (by show 4 - (m + 1) < 4 - m; omega) (⟨rfl, rfl, rfl, rfl, rfl, trivial⟩) (fun _ h => h.mask [true, false, true, true, true] rfl)
      refine wc_skip ?_
      refine px_block ?_
      refine px_then ?_
      refine wc_region ?_
      refine wl_v rfl (val_move (lk rfl)) ?_
      refine wl_v rfl (val_inc (lk rfl) (by omega)) ?_
      refine wl_v rfl (val_assign (lk rfl)) ?_
      refine wl_nil ?_
      refine px_round (⟨⟨sr, sb, sg, []⟩, none, m + 1, i20, h20⟩) (⟨rfl, by show 0 ≤ m + 1; omega, by show m + 1 ≤ 4; omega⟩) (by show 4 - (m + 1) < 4 - m; omega) (⟨rfl, rfl, rfl, rfl, rfl, trivial⟩) (fun _ h => h.mask [true, true, true] rfl)
    refine wc_exit ?_
    refine px_then_exit ?_
    refine px_then_exit ?_
    refine px_block_exit ?_
    refine px_then ?_
    refine wc_seq ?_
    refine wc_region ?_
    refine wl_v rfl (val_loadB (.head _) (lk rfl) ag_27) ?_
    refine wl_storeB 1 rfl (lk rfl) (lk rfl) ag_27 rfl rfl ?_
    refine wl_nil ?_
    refine px_then ?_
    refine wc_ret ?_
    refine fin1 rfl (res_cell rfl (.tail _ (.head _)) ag_27) (fun w1 hw => ?_)
    exact ⟨(⟨⟨sr, sb, sg, []⟩, none, 0, b1, 27, subC ⟨sr, sb, sg, []⟩ none 0⟩, i, h), ⟨RowG.nil, Nat.zero_le _⟩, rfl, (hw.mask [false, true, true] rfl).sw rfl⟩
  · obtain ⟨⟨hgl, hgc⟩, hnm, hm4⟩ : ((flat encI sn ++ gs).length = gc * 1 ∧ gc ≤ 9223372036854775807) ∧ sn.length ≤ m ∧ m ≤ 4 := hgd
    dsimp only [QS.nb, QS.A, QS.c, List.nil_append, List.cons_append]
    refine wc_seq ?_
    refine wc_seq ?_
    refine wc_region ?_
    refine wl_v rfl (val_move (lk rfl)) ?_
    refine wl_v rfl (val_lss (lk rfl) lkc) ?_
    refine wl_nil ?_
    refine px_then ?_
    refine wc_cond (lk rfl) (fun hc0 => ?_) (fun hc0 => ?_)
    · have hlt : m < 4 := by have := of_decide_eq_true hc0; omega
      refine wc_skip ?_
      refine px_then ?_
      refine wc_seq ?_
      refine wc_block ?_
      refine wc_seq ?_
      refine wc_region ?_
      refine wl_v rfl (val_move (lk rfl)) ?_
      refine wl_callw 3 rfl ci_62 (args2 (lk rfl) lkc) rfl (fun w1 hw => l1Once_c _ _ _ _ _ _ _ _ _ w1 (hk.hp hw (by simp)) (hw.own _ (.tail _ (.tail _ (.tail _ (.head _)))))) (fun _ => rfl) ?_
      rintro ⟨x20, i20, h20⟩ -
      refine wl_nil ?_
      refine px_then ?_
      refine wc_cond (lk rfl) (fun hc1 => ?_) (fun hc1 => ?_)
      · refine wc_region ?_
        refine wl_v rfl (val_field fo_27_3 (lk rfl)) ?_
        refine wl_v rfl (val_load1 t1_22 (lk rfl) (cell_own (.tail _ (.head _)) fun _ => rfl)) ?_
        refine wl_v rfl (val_move (lk rfl)) ?_
        refine wl_bslice (partsC (lk rfl) parts0) (bsl_22_1_0 _) rfl fun b4 => ?_
        refine wl_appendR encI_len (by decide) sn [((m : Nat) : Int)] 1 es_22 zc_3 rfl eb_3 (lk rfl) rfl hgl hgc (lk rfl) (fun _ hw => Sl.own' (vs := flat encI [((m : Nat) : Int)]) hw (.head _)) (by simp; omega) (by simp; omega) rfl fun a25 ac25 as25 hal25 ham25 => ?_
        refine wl_v rfl (val_field fo_27_3 (lk rfl)) ?_
        refine wl_store1 2 rfl (lk rfl) (lk rfl) t1_22 rfl (rfl) ?_
        refine wl_nil ?_
        refine px_block ?_
        refine px_then ?_
        refine wc_region ?_
        refine wl_v rfl (val_move (lk rfl)) ?_
        refine wl_v rfl (val_inc (lk rfl) (by omega)) ?_
        refine wl_v rfl (val_assign (lk rfl)) ?_
        refine wl_nil ?_
        refine px_round (⟨⟨sr, sb, sg, sn ++ [((m : Nat) : Int)]⟩, some (a25, ac25, as25), m + 1, i20, h20⟩) (⟨⟨hal25, ham25⟩, by show (sn ++ [((m : Nat) : Int)]).length ≤ m + 1; simp; omega, by show m + 1 ≤ 4; omega⟩) (by show 4 - (m + 1) < 4 - m; omega) (⟨rfl, rfl, rfl, rfl, rfl, trivial⟩) (fun _ h => h.mask [true, false, true, true, true] rfl)
      refine wc_skip ?_
      refine px_block ?_
      refine px_then ?_
      refine wc_region ?_
      refine wl_v rfl (val_move (lk rfl)) ?_
      refine wl_v rfl (val_inc (lk rfl) (by omega)) ?_
      refine wl_v rfl (val_assign (lk rfl)) ?_
      refine wl_nil ?_
      refine px_round (⟨⟨sr, sb, sg, sn⟩, some (gr, gc, gs), m + 1, i20, h20⟩) (⟨⟨hgl, hgc⟩, by show sn.length ≤ m + 1; omega, by show m + 1 ≤ 4; omega⟩) (by show 4 - (m + 1) < 4 - m; omega) (⟨rfl, rfl, rfl, rfl, rfl, trivial⟩) (fun _ h => h.mask [true, true, true, true] rfl)
    refine wc_exit ?_
    refine px_then_exit ?_
    refine px_then_exit ?_
    refine px_block_exit ?_
    refine px_then ?_
    refine wc_seq ?_
    refine wc_region ?_
    refine wl_v rfl (val_loadB (.tail _ (.head _)) (lk rfl) ag_27) ?_
    refine wl_storeB 2 rfl (lk rfl) (lk rfl) ag_27 rfl rfl ?_
    refine wl_nil ?_
    refine px_then ?_
    refine wc_ret ?_
    refine fin1 rfl (res_cell rfl (.tail _ (.tail _ (.head _))) ag_27) (fun w1 hw => ?_)
    exact ⟨(⟨⟨sr, sb, sg, sn⟩, some ⟨gr, 0, none⟩, gc, gr, 3, flat encI sn ++ gs⟩, i, h), ⟨RowG.own hgl hgc, by show sn.length ≤ 4; omega⟩, rfl, (hw.mask [true, false, false, true] rfl).sw rfl⟩

theorem l20Any_c (A : Option Addr) (n b o c cb i : Nat) (h : Int) (w : World) (hk : Code w A n b o cb) (hb : w.heap[cb]? = some (.cells (curC A n c i h).toArray 67 (0, 0))) :
    Calls Try.prog 55 #[.pointer (some ⟨cb, 0, none⟩)] w fun e w' => ∃ x : DP × Nat × Int, (x.1.row ∧ x.1.s.nets.length ≤ 5) ∧ e = .returned (x.1.s.val x.1.A x.1.c) ∧ HP w [⟨cb, false, 67, curC A n c x.2.1 x.2.2⟩, ⟨x.1.g, true, x.1.T, x.1.cs⟩] w' := by
  refine calls_entry [⟨cb, false, 67, curC A n c i h⟩] _ Try.func55 rfl Try.ntmps55 (HP.one hb) (env1 rfl) ?_
  refine wc_seq ?_
  refine wc_region ?_
  refine wl_alloc zc_27 rfl fun b1 => ?_
  refine wl_nil ?_
  refine px_then ?_
  refine wc_seq ?_
  refine wc_region ?_
  refine wl_v rfl (val_move (lk rfl)) ?_
  refine wl_callw 1 rfl ci_57 (args1 (lk rfl)) rfl (fun w1 hw => l20Plan_c _ _ _ _ _ _ _ _ w1 (hk.hp hw (by simp)) (hw.own _ (.tail _ (.head _)))) (fun _ => rfl) ?_
  rintro ⟨⟨rs5, rA5, rc5, gr5, rT5, rcs5⟩, i5, h5⟩ ⟨hR5, hlen5⟩
  simp only [DP.row] at hR5
  simp only at hlen5
  refine wl_alloc zc_27 rfl fun b2 => ?_
  refine wl_storeB 0 rfl (lk rfl) (lk rfl) ag_27 rfl rfl ?_
  refine wl_nil ?_
  refine px_then ?_
  refine wc_seq ?_
  refine wc_seq ?_
  refine wc_region ?_
  refine wl_v rfl (val_move (lk rfl)) ?_
  refine wl_callw 3 rfl ci_58 (args2 (lk rfl) lkc) rfl (fun w1 hw => l1Below_c _ _ _ _ _ _ _ _ _ w1 (hk.hp hw (by simp)) (hw.own _ (.tail _ (.tail _ (.tail _ (.head _)))))) (fun _ => rfl) ?_
  rintro ⟨x7, i7, h7⟩ hx7
  simp only at hx7
  refine wl_nil ?_
  refine px_then ?_
  refine wc_block ?_
  refine wc_seq ?_
  refine wc_region ?_
  refine wl_v rfl (val_eql (lk rfl) lkc) ?_
  refine wl_v rfl (val_assign (lk rfl)) ?_
  refine wl_nil ?_
  refine px_then ?_
  refine wc_cond (lk rfl) (fun hc0 => ?_) (fun hc0 => ?_)
  · refine wc_region ?_
    refine wl_v rfl (val_move (lk rfl)) ?_
    refine wl_bslice (partsC lkc (partsC lkc (partsC lkc parts0))) (bsl_22_3_0_1_2 _ _ _) rfl fun b3 => ?_
    refine wl_callw 4 rfl ci_59 (args2 (lk rfl) (lk rfl)) rfl (fun w1 hw => l1Int_c _ _ _ _ _ _ _ _ [0, 1000, 1001] _ _ 0 _ w1 (hk.hp hw (by simp)) (hw.own _ (.tail _ (.tail _ (.tail _ (.tail _ (.head _)))))) (Sl.own' hw (.head _)) (by have h9 := hw.nodup; simp at h9 ⊢; omega) (by simp) (by simp)) (fun _ => rfl) ?_
    rintro ⟨x12, i12, h12⟩ hx12
    simp only at hx12
    refine wl_v rfl (val_field fo_27_0 (lk rfl)) ?_
    refine wl_store1 1 rfl (lk rfl) (lk rfl) t1_3 rfl (rfl) ?_
    refine wl_nil ?_
    refine px_block ?_
    refine px_then ?_
    refine wc_seq ?_
    refine wc_region ?_
    refine wl_v rfl (val_loadB (.tail _ (.head _)) (lk rfl) ag_27) ?_
    refine wl_storeB 3 rfl (lk rfl) (lk rfl) ag_27 rfl rfl ?_
    refine wl_nil ?_
    refine px_then ?_
    refine wc_ret ?_
    refine fin1 rfl (res_cell rfl (.tail _ (.tail _ (.tail _ (.head _)))) ag_27) (fun w1 hw => ?_)
    exact ⟨(⟨⟨nth d0I [0, 1000, 1001] x12, rs5.best, rs5.grant, rs5.nets⟩, rA5, rc5, gr5, rT5, rcs5⟩, i12, h12), ⟨hR5, by show rs5.nets.length ≤ 5; omega⟩, rfl, (hw.mask [false, false, true, false, true] rfl).sw rfl⟩
  refine wc_seq ?_
  refine wc_region ?_
  refine wl_v rfl (val_eql (lk rfl) lkc) ?_
  refine wl_v rfl (val_assign (lk rfl)) ?_
  refine wl_nil ?_
  refine px_then ?_
  refine wc_cond (lk rfl) (fun hc1 => ?_) (fun hc1 => ?_)
  · refine wc_region ?_
    refine wl_v rfl (val_move (lk rfl)) ?_
    refine wl_bslice (partsC lkc (partsC lkc (partsC lkc parts0))) (bsl_22_3_0_1_2 _ _ _) rfl fun b4 => ?_
    refine wl_callw 4 rfl ci_59 (args2 (lk rfl) (lk rfl)) rfl (fun w1 hw => l1Int_c _ _ _ _ _ _ _ _ [0, 100000, 100001] _ _ 0 _ w1 (hk.hp hw (by simp)) (hw.own _ (.tail _ (.tail _ (.tail _ (.tail _ (.head _)))))) (Sl.own' hw (.head _)) (by have h9 := hw.nodup; simp at h9 ⊢; omega) (by simp) (by simp)) (fun _ => rfl) ?_
    rintro ⟨x18, i18, h18⟩ hx18
    simp only at hx18
    refine wl_v rfl (val_field fo_27_2 (lk rfl)) ?_
    refine wl_store1 1 rfl (lk rfl) (lk rfl) t1_3 rfl (rfl) ?_
    refine wl_nil ?_
    refine px_block ?_
    refine px_then ?_
    refine wc_seq ?_
    refine wc_region ?_
    refine wl_v rfl (val_loadB (.tail _ (.head _)) (lk rfl) ag_27) ?_
    refine wl_storeB 3 rfl (lk rfl) (lk rfl) ag_27 rfl rfl ?_
    refine wl_nil ?_
    refine px_then ?_
    refine wc_ret ?_
    refine fin1 rfl (res_cell rfl (.tail _ (.tail _ (.tail _ (.head _)))) ag_27) (fun w1 hw => ?_)
    exact ⟨(⟨⟨rs5.rate, rs5.best, nth d0I [0, 100000, 100001] x18, rs5.nets⟩, rA5, rc5, gr5, rT5, rcs5⟩, i18, h18), ⟨hR5, by show rs5.nets.length ≤ 5; omega⟩, rfl, (hw.mask [false, false, true, false, true] rfl).sw rfl⟩
  refine wc_seq ?_
  refine wc_region ?_
  refine wl_v rfl (val_eql (lk rfl) lkc) ?_
  refine wl_v rfl (val_assign (lk rfl)) ?_
  refine wl_nil ?_
  refine px_then ?_
  refine wc_cond (lk rfl) (fun hc2 => ?_) (fun hc2 => ?_)
  · refine wc_region_aF 8 3 (fun y : Nat × Int => (⟨cb, false, 67, curC A n c y.1 y.2⟩ : Blk)) [true, false, true, true] 9 mo_ rfl ?_
    refine wa_takeF 0 rfl (by kernel_rfl) (by kernel_rfl) (by kernel_rfl) (by kernel_rfl) (fun _ h => ⟨(_, _), h.mask [true, false, true, true] rfl⟩) gd_none rfl (fun _ => val_field fo_27_3 (lk rfl)) ?_
    refine wa_takeF 1 rfl (by kernel_rfl) (by kernel_rfl) (by kernel_rfl) (by kernel_rfl) (fun _ h => ⟨(_, _), h.mask [true, false, true, true] rfl⟩) gd_none rfl (fun _ => val_load1 t1_22 (lk rfl) (cell_own (.head _) fun _ => rfl)) ?_
    refine wa_takeF 2 rfl (by kernel_rfl) (by kernel_rfl) (by kernel_rfl) (by kernel_rfl) (fun _ h => ⟨(_, _), h.mask [true, false, true, true] rfl⟩) gd_none rfl (fun _ => val_move (lk rfl)) ?_
    refine wa_only 3 (by kernel_rfl) rfl ?_
    refine wl_callw 3 rfl ci_58 (args2 (lk rfl) lkc) rfl (fun w1 hw => l1Below_c _ _ _ _ _ _ _ _ _ w1 (hk.hp hw (by simp)) (hw.own _ (.tail _ (.tail _ (.tail _ (.head _)))))) (fun _ => rfl) ?_
    rintro ⟨x25, i25, h25⟩ hx25
    simp only at hx25
    refine wl_nil (px_qnF (fun _ h => ⟨(_, _), h.mask [true, false, true, true] rfl⟩) ?_)
    refine wa_takeF 4 rfl (by kernel_rfl) (by kernel_rfl) (by kernel_rfl) (by kernel_rfl) (fun _ h => ⟨(_, _), h.mask [true, false, true, true] rfl⟩) gd_none rfl (fun _ => val_sub (lk rfl) lkc) ?_
    refine wa_only 5 (by kernel_rfl) rfl ?_
    refine wl_bslice (partsC (lk rfl) parts0) (bsl_22_1_0 _) rfl fun b5 => ?_
    refine wl_nil (px_qnF (fun _ h => ⟨(_, _), h.mask [false, true, false, true, true] rfl⟩) ?_)
    refine wa_only 6 (by kernel_rfl) rfl ?_
    refine wl_appendG encI_len (by decide) [IntKind.i64.wrap (x25 - 1)] 2 es_22 zc_3 rfl eb_3 (lk rfl) hR5 rfl (lk rfl) (by simp) (fun _ hw => Sl.own' (vs := flat encI [IntKind.i64.wrap (x25 - 1)]) hw (.head _)) (by simp; omega) (by simp; omega) rfl fun a28 ac28 as28 hal28 ham28 => ?_
    refine wl_nil (px_qnF (fun _ h => ⟨(_, _), h.mask [false, false, true, true, true] rfl⟩) ?_)
    refine wa_takeF 7 rfl (by kernel_rfl) (by kernel_rfl) (by kernel_rfl) (by kernel_rfl) (fun _ h => ⟨(_, _), h.mask [false, false, true, true, true] rfl⟩) gd_none rfl (fun _ => val_field fo_27_3 (lk rfl)) ?_
    refine wa_only 8 (by kernel_rfl) rfl ?_
    refine wl_store1 2 rfl (lk rfl) (lk rfl) t1_22 rfl (rfl) ?_
    refine wl_nil (px_qlF ?_)
    refine wa_done (by kernel_rfl) ?_
    refine px_block ?_
    refine px_then ?_
    refine wc_seq ?_
    refine wc_region ?_
    refine wl_v rfl (val_loadB (.tail _ (.tail _ (.head _))) (lk rfl) ag_27) ?_
    refine wl_storeB 3 rfl (lk rfl) (lk rfl) ag_27 rfl rfl ?_
    refine wl_nil ?_
    refine px_then ?_
    refine wc_ret ?_
    refine fin1 rfl (res_cell rfl (.tail _ (.tail _ (.tail _ (.head _)))) ag_27) (fun w1 hw => ?_)
    exact ⟨(⟨⟨rs5.rate, rs5.best, rs5.grant, rs5.nets ++ [IntKind.i64.wrap (x25 - 1)]⟩, some ⟨a28, 0, none⟩, ac28, a28, 3, flat encI (rs5.nets ++ [IntKind.i64.wrap (x25 - 1)]) ++ as28⟩, i25, h25), ⟨RowG.own hal28 ham28, by show (rs5.nets ++ [_]).length ≤ 5; simp; omega⟩, rfl, (hw.mask [true, false, false, false, true] rfl).sw rfl⟩
  refine wc_seq ?_
  refine wc_region ?_
  refine wl_v rfl (val_eql (lk rfl) lkc) ?_
  refine wl_v rfl (val_assign (lk rfl)) ?_
  refine wl_nil ?_
  refine px_then ?_
  refine wc_cond (lk rfl) (fun hc3 => ?_) (fun hc3 => ?_)
  · refine wc_region ?_
    refine wl_v rfl (val_move (lk rfl)) ?_
    refine wl_bslice (partsC lkc (partsC lkc (partsC lkc parts0))) (bsl_22_3_0_1_2 _ _ _) rfl fun b6 => ?_
    refine wl_callw 4 rfl ci_59 (args2 (lk rfl) (lk rfl)) rfl (fun w1 hw => l1Int_c _ _ _ _ _ _ _ _ [0, 4, 5] _ _ 0 _ w1 (hk.hp hw (by simp)) (hw.own _ (.tail _ (.tail _ (.tail _ (.tail _ (.head _)))))) (Sl.own' hw (.head _)) (by have h9 := hw.nodup; simp at h9 ⊢; omega) (by simp) (by simp)) (fun _ => rfl) ?_
    rintro ⟨x34, i34, h34⟩ hx34
    simp only at hx34
    refine wl_v rfl (val_field fo_27_1 (lk rfl)) ?_
    refine wl_store1 1 rfl (lk rfl) (lk rfl) t1_3 rfl (rfl) ?_
    refine wl_nil ?_
    refine px_block ?_
    refine px_then ?_
    refine wc_seq ?_
    refine wc_region ?_
    refine wl_v rfl (val_loadB (.tail _ (.head _)) (lk rfl) ag_27) ?_
    refine wl_storeB 3 rfl (lk rfl) (lk rfl) ag_27 rfl rfl ?_
    refine wl_nil ?_
    refine px_then ?_
    refine wc_ret ?_
    refine fin1 rfl (res_cell rfl (.tail _ (.tail _ (.tail _ (.head _)))) ag_27) (fun w1 hw => ?_)
    exact ⟨(⟨⟨rs5.rate, nth d0I [0, 4, 5] x34, rs5.grant, rs5.nets⟩, rA5, rc5, gr5, rT5, rcs5⟩, i34, h34), ⟨hR5, by show rs5.nets.length ≤ 5; omega⟩, rfl, (hw.mask [false, false, true, false, true] rfl).sw rfl⟩
  refine wc_skip ?_
  refine px_block ?_
  refine px_then ?_
  refine wc_seq ?_
  refine wc_region ?_
  refine wl_v rfl (val_loadB (.head _) (lk rfl) ag_27) ?_
  refine wl_storeB 2 rfl (lk rfl) (lk rfl) ag_27 rfl rfl ?_
  refine wl_nil ?_
  refine px_then ?_
  refine wc_ret ?_
  refine fin1 rfl (res_cell rfl (.tail _ (.tail _ (.head _))) ag_27) (fun w1 hw => ?_)
  exact ⟨(⟨rs5, rA5, rc5, gr5, rT5, rcs5⟩, i7, h7), ⟨hR5, by show rs5.nets.length ≤ 5; omega⟩, rfl, (hw.mask [false, true, false, true] rfl).sw rfl⟩

theorem l20Pair_c (A : Option Addr) (n b o c : Nat) (w : World) (hk : Cod w A n b o) :
    Calls Try.prog 51 #[.slice A n c] w fun e w' => ∃ x : DP × DL, (x.1.row ∧ x.1.s.nets.length ≤ 5 ∧ x.2.row ∧ x.2.xs.length ≤ 10) ∧ e = .returned (.tuple #[x.1.s.val x.1.A x.1.c, x.2.val]) ∧ HP w [⟨x.1.g, true, x.1.T, x.1.cs⟩, ⟨x.2.g, true, 36, flat encB x.2.xs ++ x.2.sp⟩] w' := by
  refine calls_entry [] _ Try.func51 rfl Try.ntmps51 (HP.refl w) (env1 rfl) ?_
  refine wc_seq ?_
  refine wc_region ?_
  refine wl_alloc zc_27 rfl fun b1 => ?_
  refine wl_v rfl (val_assign lkc) ?_
  refine wl_nil ?_
  refine px_then ?_
  refine wc_seq ?_
  refine wc_region ?_
  refine wl_v rfl (val_move (lk rfl)) ?_
  refine wl_callx rfl ci_54 (args1 (lk rfl)) (fun w1 hw => l1New_c _ _ _ _ _ w1 (hk.hp hw rfl)) (fun _ => rfl) ?_
  rintro ⟨gc7, h7⟩ -
  refine wl_v rfl (val_assign (lk rfl)) ?_
  refine wl_nil ?_
  refine px_then ?_
  refine wc_seq ?_
  refine wc_region ?_
  refine wl_v rfl (val_move (lk rfl)) ?_
  refine wl_callw 0 rfl ci_55 (args1 (lk rfl)) rfl (fun w1 hw => l20Any_c _ _ _ _ _ _ _ _ w1 (hk.cur hw rfl (.head _)) (hw.own _ (.head _))) (fun _ => rfl) ?_
  rintro ⟨⟨rs9, rA9, rc9, gr9, rT9, rcs9⟩, i9, h9⟩ ⟨hR9, hlen9⟩
  simp only [DP.row] at hR9
  simp only at hlen9
  refine wl_alloc zc_27 rfl fun b2 => ?_
  refine wl_storeB 0 rfl (lk rfl) (lk rfl) ag_27 rfl rfl ?_
  refine wl_nil ?_
  refine px_then ?_
  refine wc_seq ?_
  refine wc_region_am [true, true, false, false] 5 mo_ rfl ?_
  refine wa_take 0 rfl (by kernel_rfl) (by kernel_rfl) (by kernel_rfl) (by kernel_rfl) (fun _ h => h.mask [true, true, false, false] rfl) gd_none rfl (val_loadB (.head _) (lk rfl) ag_27) ?_
  refine wa_take 1 rfl (by kernel_rfl) (by kernel_rfl) (by kernel_rfl) (by kernel_rfl) (fun _ h => h.mask [true, true, false, false] rfl) gd_none rfl (val_move (lk rfl)) ?_
  refine wa_only 2 (by kernel_rfl) rfl ?_
  refine wl_callw 2 rfl ci_56 (args1 (lk rfl)) rfl (fun w1 hw => l11Any_c _ _ _ _ _ _ _ _ w1 (hk.cur hw rfl (.tail _ (.tail _ (.head _)))) (hw.own _ (.tail _ (.tail _ (.head _))))) (fun _ => rfl) ?_
  rintro ⟨⟨xs12, gr12, gc12, gs12⟩, i12, h12⟩ ⟨⟨hgl12, hgc12⟩, hlen12⟩
  simp only at hgl12 hgc12 hlen12
  refine wl_nil (px_qn (fun _ h => h.mask [false, true, true, false, false] rfl) ?_)
  refine wa_only 3 (by kernel_rfl) rfl ?_
  refine wl_storeB 4 rfl (lk rfl) (lk rfl) ag_27 rfl rfl ?_
  refine wl_nil (px_qn (fun _ h => h.mask [false, true, true, false, false] rfl) ?_)
  refine wa_take 4 rfl (by kernel_rfl) (by kernel_rfl) (by kernel_rfl) (by kernel_rfl) (fun _ h => h.mask [false, true, true, false, false] rfl) gd_none rfl (val_assign (lk rfl)) ?_
  refine wa_done (by kernel_rfl) ?_
  refine px_then ?_
  refine wc_ret ?_
  refine fin2 rfl (res_cell rfl (.tail _ (.tail _ (.tail _ (.tail _ (.head _))))) ag_27) (res_tmp rfl) (fun w1 hw => ?_)
  exact ⟨(⟨rs9, rA9, rc9, gr9, rT9, rcs9⟩, ⟨xs12, gr12, gc12, gs12⟩), ⟨hR9, hlen9, ⟨hgl12, hgc12⟩, hlen12⟩, rfl, (hw.mask [true, false, true, false, false] rfl).sw rfl⟩

theorem DrawLim_c (A : Option Addr) (n b o c : Nat) (w : World) (hk : Cod w A n b o) :
    Calls Try.prog 34 #[.slice A n c] w fun e w' => ∃ x : DP × DL, (x.1.row ∧ x.1.s.nets.length ≤ 5 ∧ x.2.row ∧ x.2.xs.length ≤ 10) ∧ e = .returned (.tuple #[x.1.s.val x.1.A x.1.c, x.2.val]) ∧ HP w [⟨x.1.g, true, x.1.T, x.1.cs⟩, ⟨x.2.g, true, 36, flat encB x.2.xs ++ x.2.sp⟩] w' := by
  refine calls_entry [] _ Try.func34 rfl Try.ntmps34 (HP.refl w) (env1 rfl) ?_
  refine wc_seq ?_
  refine wc_region ?_
  refine wl_alloc zc_27 rfl fun b1 => ?_
  refine wl_v rfl (val_assign lkc) ?_
  refine wl_nil ?_
  refine px_then ?_
  refine wc_seq ?_
  refine wc_region ?_
  refine wl_v rfl (val_move (lk rfl)) ?_
  refine wl_callx rfl ci_51 (args1 (lk rfl)) (fun w1 hw => l20Pair_c _ _ _ _ _ w1 (hk.hp hw rfl)) (fun _ => rfl) ?_
  rintro ⟨⟨rs5, rA5, rc5, gr5, rT5, rcs5⟩, ⟨ys5, gy5, yc5, zs5⟩⟩ ⟨hR5, hlen5, ⟨hyl5, hyc5⟩, hln5⟩
  simp only [DP.row] at hR5
  simp only at hlen5 hyl5 hyc5 hln5
  refine wl_v rfl (val_extract (lk rfl) rfl) ?_
  refine wl_v rfl (val_extract (lk rfl) rfl) ?_
  refine wl_storeB 2 rfl (lk rfl) (lk rfl) ag_27 rfl rfl ?_
  refine wl_v rfl (val_assign (lk rfl)) ?_
  refine wl_nil ?_
  refine px_then ?_
  refine wc_ret ?_
  refine fin2 rfl (res_cell rfl (.tail _ (.tail _ (.head _))) ag_27) (res_tmp rfl) (fun w1 hw => ?_)
  exact ⟨(⟨rs5, rA5, rc5, gr5, rT5, rcs5⟩, ⟨ys5, gy5, yc5, zs5⟩), ⟨hR5, hlen5, ⟨hyl5, hyc5⟩, hln5⟩, rfl, hw.mask [true, true, false] rfl⟩

end Go.Proofs.Ytlpiogbbplfliaa
