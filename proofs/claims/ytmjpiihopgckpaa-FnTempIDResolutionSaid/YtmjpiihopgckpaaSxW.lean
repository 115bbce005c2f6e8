/- Drawn registrations, walked. -/
import Derived.Test.YtmjpiihopgckpaaSxU
namespace Go.Proofs.Ytmjpiihopgckpaa
open Go.RowKit


section
variable {P : Program} {Q : Exit → Act → World → Prop} {w0 : World} {ops : Array Oper} {n : Nat} {rest : List Oper} {l : Env} {bs : List Blk} {d : Tmp} {ty : TypeId} {pos : String} {af : Array Edge} {gd : Option (Nat × Bool)}
/-- a call behind a guard that writes our block number i over -/
theorem wl_callwg {G : Bool} {X : Type} {good : X → Prop} {val : X → Value} {nb : X → List Blk} {cs' : X → List Value} {f : FuncId} {args : List Operand} {atys : Array TypeId} {vals : List Value} {b : Nat} {nw : Bool} {t : TypeId} {cs : List Value} (i : Nat) (hg : GD ops l n ⟨some d, .call ⟨.value (.func f), args.toArray, atys⟩, ty, pos, af, gd⟩ G) (hd : Nat.blt d n = true) (hci : CI P f)
    (ha : Args l n G args vals) (hi : bs[i]? = some ⟨b, nw, t, cs⟩) (hs : ∃ x, good x ∧ cs' x = cs ∧ nb x = [])
    (hc : G = true → ∀ w, HP w0 bs w → Calls P f vals.toArray w fun e w' => ∃ x, good x ∧ e = .returned (val x) ∧ HP w (⟨b, false, t, cs' x⟩ :: nb x) w') (hn : ∀ x, (nb x).all (·.new) = true)
    (k : ∀ x, good x → WL P ops w0 n rest ((d, (G, val x)) :: l) (nb x ++ bs.set i ⟨b, nw, t, cs' x⟩) Q) : WL P ops w0 n (⟨some d, .call ⟨.value (.func f), args.toArray, atys⟩, ty, pos, af, gd⟩ :: rest) l bs Q := fun a w hea hw => by
  refine wpList_step fun K hK => ?_
  rw [hg a hea]
  cases G with
  | false =>
    simp only [Bool.false_eq_true, if_false]
    obtain ⟨x, hx, h1, h2⟩ := hs
    have hk := k x hx
    have h3 : nb x ++ bs.set i ⟨b, nw, t, cs' x⟩ = bs := by
      rw [h1, h2, List.nil_append]
      obtain ⟨hil, hie⟩ := List.getElem?_eq_some_iff.1 hi
      rw [← hie]
      exact List.set_getElem_self _
    rw [h3] at hk
    exact hK _ _ (hk _ w (hea.put (blt_lt hd) false _ undef rfl) hw)
  | true =>
    simp only [if_true]
    unfold Oper.wp
    rw [run_call (vals := vals.toArray) hci a (by simp [ha.map a hea rfl]) w]
    refine (hc rfl w hw).mono fun e w' ⟨x, hx, he, hh⟩ => ?_
    subst he
    exact hK _ _ (k x hx _ w' (hea.put (blt_lt hd) true _ _ rfl) (hw.compw hi hh (hn x)))
end
def regOut (rs : List Reg) (r : Reg) : List Reg := if 0 ≤ findW rs r.id then rs.set (findW rs r.id).toNat r else rs ++ [r]
def regW (rs : List Reg) (r : Reg) : List Reg := if okRegs (regOut rs r) then regOut rs r else rs
theorem regOut_len (rs : List Reg) (r : Reg) : (regOut rs r).length ≤ rs.length + 1 := by
  unfold regOut; split <;> simp
theorem regW_len (rs : List Reg) (r : Reg) : (regW rs r).length ≤ rs.length + 1 := by
  have := regOut_len rs r
  unfold regW; split <;> omega
theorem HP.sw {w w' : World} {bs : List Blk} {x y : Blk} (h : HP w bs w') (e : bs = [x, y]) : HP w [y, x] w' := by
  subst e
  exact h.perm (List.Perm.swap _ _ _)
theorem okRegs_iff (rs : List Reg) : okRegs rs = true ↔ rs.length ≤ 8 ∧ (∀ r ∈ rs, okW r = true) ∧ rs.Pairwise (fun s r => clash s r = false) := by
  simp only [okRegs, allAt, Bool.and_eq_true, decide_eq_true_eq, List.all_eq_true, List.mem_range, okWAt, Bool.not_eq_true', List.any_eq_false]
  refine and_congr Iff.rfl ⟨fun h => ⟨fun r hr => ?_, ?_⟩, fun h k hk => ⟨?_, fun s hs => ?_⟩⟩
  · obtain ⟨i, hi, rfl⟩ := List.getElem_of_mem hr
    have := (h i hi).1
    rwa [nth_eq hi] at this
  · rw [List.pairwise_iff_getElem]
    intro i j hi hj hij
    have := (h j hj).2 rs[i] (List.mem_take_iff_getElem.2 ⟨i, by omega, rfl⟩)
    rw [nth_eq hj] at this
    simpa using this
  · rw [nth_eq hk]; exact h.1 _ (List.getElem_mem _)
  · obtain ⟨i, hi, rfl⟩ := List.mem_take_iff_getElem.1 hs
    have := (List.pairwise_iff_getElem.1 h.2) i k (by omega) hk (by omega)
    rw [nth_eq hk]
    simpa using this
def allT (rs : List Reg) : Prop := ∀ r ∈ rs, r.tmp.1 = 1
theorem regW_ok {rs : List Reg} (h : okRegs rs = true) (r : Reg) : okRegs (regW rs r) = true := by
  unfold regW; split
  · assumption
  · exact h
theorem regW_all {rs : List Reg} (h : allT rs) {r : Reg} (hr : r.tmp.1 = 1) : allT (regW rs r) := by
  have h1 : allT (regOut rs r) := by
    unfold regOut; split
    · intro s hs
      rcases List.mem_or_eq_of_mem_set hs with h2 | h2
      · exact h s h2
      · rw [h2]; exact hr
    · intro s hs
      rcases List.mem_append.1 hs with h2 | h2
      · exact h s h2
      · rw [List.mem_singleton.1 h2]; exact hr
  unfold regW; split
  · exact h1
  · exact h
theorem dereg_sub (rs : List Reg) (p : Int × Int) (net : Int) : (dereg rs p net).Sublist rs := by
  unfold dereg; split
  · exact List.Sublist.refl _
  · unfold cutW; rw [← List.eraseIdx_eq_take_drop_succ]; exact List.eraseIdx_sublist _ _
theorem dereg_ok {rs : List Reg} (h : okRegs rs = true) (p : Int × Int) (net : Int) : okRegs (dereg rs p net) = true := by
  have hs := dereg_sub rs p net
  obtain ⟨h1, h2, h3⟩ := (okRegs_iff rs).1 h
  exact (okRegs_iff _).2 ⟨Nat.le_trans hs.length_le h1, fun r hr => h2 r (hs.subset hr), h3.sublist hs⟩
theorem dereg_all {rs : List Reg} (h : allT rs) (p : Int × Int) (net : Int) : allT (dereg rs p net) := fun r hr => h r ((dereg_sub rs p net).subset hr)
theorem okRegs_len {rs : List Reg} (h : okRegs rs = true) : rs.length ≤ 8 := ((okRegs_iff rs).1 h).1
structure DW where
  xs : List Reg
  g : Nat
  c : Nat
  sp : List Value
def DW.row (x : DW) : Prop := (flat encW x.xs ++ x.sp).length = x.c * 6 ∧ x.c ≤ 9223372036854775807
def DW.val (x : DW) : Value := .slice (some ⟨x.g, 0, none⟩) x.xs.length x.c
structure DWS where
  d : DW
  m : Nat
  i : Nat
  h : Int

theorem mod_c (a m : Int) (w : World) :
    Calls Try.prog 63 #[.int .i64 a, .int .i64 m] w fun e w' => ∃ x : Int × Unit, True ∧ e = .returned (.int .i64 x.1) ∧ HP w [] w' := by
  refine calls_entry [] _ Try.func63 rfl Try.ntmps63 (HP.refl w) (env2 rfl) ?_
  refine wc_seq ?_
  refine wc_region ?_
  refine wl_v rfl (val_assign lkc) ?_
  refine wl_nil ?_
  refine px_then ?_
  refine wc_seq ?_
  refine wc_seq ?_
  refine wc_region ?_
  refine wl_v rfl (val_move (lk rfl)) ?_
  refine wl_call gd_none rfl ci_42 (args3 (lk rfl) lkc lkc) (fun hG w1 hw => l1In_c _ _ _ w1) ?_
  refine wl_v rfl (val_not (lk rfl)) ?_
  refine wl_nil ?_
  refine px_then ?_
  refine wc_cond (lk rfl) (fun hc0 => ?_) (fun hc0 => ?_)
  · refine wc_seq ?_
    refine wc_region ?_
    refine wl_v rfl (val_assign lkc) ?_
    refine wl_nil ?_
    refine px_then ?_
    refine wc_ret ?_
    refine px_then_ret ?_
    refine fin1 rfl (res_tmp rfl) (fun w1 hw => ?_)
    exact ⟨(0, ()), trivial, rfl, hw.drop rfl⟩
  have hb0 : m ≠ 0 := by simp [inRange] at hc0; omega
  refine wc_skip ?_
  refine px_then ?_
  refine wc_seq ?_
  refine wc_region ?_
  refine wl_v rfl (val_move (lk rfl)) ?_
  refine wl_v rfl (val_move (lk rfl)) ?_
  refine wl_v rfl (val_rem (lk rfl) (lk rfl) (fun _ => hb0)) ?_
  refine wl_v rfl (val_move (lk rfl)) ?_
  refine wl_v rfl (val_add (lk rfl) (lk rfl)) ?_
  refine wl_v rfl (val_move (lk rfl)) ?_
  refine wl_v rfl (val_rem (lk rfl) (lk rfl) (fun _ => hb0)) ?_
  refine wl_v rfl (val_assign (lk rfl)) ?_
  refine wl_nil ?_
  refine px_then ?_
  refine wc_ret ?_
  refine fin1 rfl (res_tmp rfl) (fun w1 hw => ?_)
  exact ⟨(_, ()), trivial, rfl, hw.drop rfl⟩

theorem hash_c (xs : List Int) (A : Option Addr) (b o c : Nat) (w : World) (hs : Sl w A b o (flat encI xs)) (hl : xs.length ≤ 1048576) :
    Calls Try.prog 65 #[.slice A xs.length c] w fun e w' => ∃ x : Int × Unit, True ∧ e = .returned (.int .i64 x.1) ∧ HP w [] w' := by
  refine calls_entry [] _ Try.func65 rfl Try.ntmps65 (HP.refl w) (env1 rfl) ?_
  refine wc_seq ?_
  refine wc_region ?_
  refine wl_v rfl (val_assign lkc) ?_
  refine wl_nil ?_
  refine px_then ?_
  refine wc_seq ?_
  refine wc_region ?_
  refine wl_v rfl (val_assign lkc) ?_
  refine wl_nil ?_
  refine px_then ?_
  refine wc_seq ?_
  refine wc_seq ?_
  refine wc_region ?_
  refine wl_v rfl (val_assign lkc) ?_
  refine wl_nil ?_
  refine px_then ?_
  refine wc_block ?_
  refine wc_trim (l' := [(0, _), (2, _), (3, _), (4, _)]) ⟨rfl, rfl, rfl, rfl, trivial⟩ ?_
  refine wc_loop0 (X := Nat × Int) (fun x => x.1 ≤ xs.length) (fun x => [(3, (true, .int .i64 x.2)), (4, (true, .int .i64 (x.1 : Nat)))]) (fun x => xs.length - x.1) (0, 11) (Nat.zero_le _) ⟨rfl, rfl, rfl, rfl, rfl, rfl, trivial⟩ ?_
  rintro ⟨k, h⟩ hk0
  simp only at hk0
  refine wc_seq ?_
  refine wc_seq ?_
  refine wc_region ?_
  refine wl_v rfl (val_move (lk rfl)) ?_
  refine wl_v rfl (val_move (lk rfl)) ?_
  refine wl_v rfl (val_len es_84 (lk rfl)) ?_
  refine wl_v rfl (val_lss (lk rfl) (lk rfl)) ?_
  refine wl_nil ?_
  refine px_then ?_
  refine wc_cond (lk rfl) (fun hc0 => ?_) (fun hc0 => ?_)
  · have hlt : k < xs.length := by have h9 : ((k : Nat) : Int) < ((xs.length : Nat) : Int) := of_decide_eq_true hc0; omega
    refine wc_skip ?_
    refine px_then ?_
    refine wc_seq ?_
    refine wc_block ?_
    refine wc_region ?_
    refine wl_v rfl (val_move (lk rfl)) ?_
    refine wl_v rfl (val_mul (lk rfl) lkc) ?_
    refine wl_v rfl (val_move (lk rfl)) ?_
    refine wl_v rfl (val_move (lk rfl)) ?_
    refine wl_v rfl (val_index es_84 (lk rfl) (lk rfl) (fun hG => hs.hd encI_len (by decide) (i := k) (by first | omega | (have h9 := of_decide_eq_true hG; omega) | (simp at hG; omega))) (fun hG => by first | omega | (have h9 := of_decide_eq_true hG; omega) | (simp at hG; omega))) ?_
    refine wl_v rfl (val_load1 t1_3 (lk rfl) (cell_old rfl fun hG => hs.fld encI_len d0I (i := k) (f := 0) (by first | omega | (have h9 := of_decide_eq_true hG; omega) | (simp at hG; omega)) (by decide) rfl)) ?_
    refine wl_callx rfl ci_63 (args2 (lk rfl) lkc) (fun w1 hw => mod_c _ _ w1) (fun _ => rfl) ?_
    rintro ⟨m17, u17⟩ -
    refine wl_v rfl (val_add (lk rfl) (lk rfl)) ?_
    refine wl_v rfl (val_add (lk rfl) lkc) ?_
    refine wl_v rfl (val_rem (lk rfl) lkc (fun _ => by decide)) ?_
    refine wl_v rfl (val_assign (lk rfl)) ?_
    refine wl_nil ?_
    refine px_block ?_
    refine px_then ?_
    refine wc_region ?_
    refine wl_v rfl (val_move (lk rfl)) ?_
    refine wl_v rfl (val_inc (lk rfl) (by omega)) ?_
    refine wl_v rfl (val_assign (lk rfl)) ?_
    refine wl_nil ?_
    refine px_round0 ((k + 1, _)) (hlt) (by show xs.length - (k + 1) < xs.length - k; omega) (⟨rfl, rfl, rfl, rfl, rfl, rfl, trivial⟩) (fun _ h => h.dropN 0 rfl)
  refine wc_exit ?_
  refine px_then_exit ?_
  refine px_then_exit ?_
  refine px_block_exit ?_
  refine px_then ?_
  refine wc_seq ?_
  refine wc_region ?_
  refine wl_v rfl (val_move (lk rfl)) ?_
  refine wl_v rfl (val_assign (lk rfl)) ?_
  refine wl_nil ?_
  refine px_then ?_
  refine wc_ret ?_
  refine fin1 rfl (res_tmp rfl) (fun w1 hw => ?_)
  exact ⟨(h, ()), trivial, rfl, hw.drop rfl⟩

theorem kh_c (s : Int) (xs : List Int) (A : Option Addr) (b o c : Nat) (w : World) (hs : Sl w A b o (flat encI xs)) (hl : xs.length ≤ 1000) :
    Calls Try.prog 64 #[.int .i64 s, .slice A xs.length c] w fun e w' => ∃ x : Int × Unit, True ∧ e = .returned (.int .i64 x.1) ∧ HP w [] w' := by
  refine calls_entry [] _ Try.func64 rfl Try.ntmps64 (HP.refl w) (env2 rfl) ?_
  refine wc_seq ?_
  refine wc_region ?_
  refine wl_v rfl (val_assign lkc) ?_
  refine wl_nil ?_
  refine px_then ?_
  refine wc_seq ?_
  refine wc_region ?_
  refine wl_v rfl (val_move (lk rfl)) ?_
  refine wl_bslice (partsC (lk rfl) parts0) (bsl_84_1_0 _) rfl fun b1 => ?_
  refine wl_v rfl (val_move (lk rfl)) ?_
  refine wl_appendR (sp := []) encI_len (by decide) [s] xs 0 es_84 zc_3 rfl eb_3 (lk rfl) rfl rfl (by decide) (lk rfl) (fun _ hw => hs.hp hw rfl) (by first | omega | (simp <;> omega)) (by first | omega | (simp <;> omega)) rfl fun a8 ac8 as8 hal8 ham8 => ?_
  refine wl_v rfl (val_move (lk rfl)) ?_
  refine wl_bslice (partsC (lk rfl) parts0) (bsl_84_1_0 _) rfl fun b2 => ?_
  refine wl_appendR encI_len (by decide) ([s] ++ xs) [s] 1 es_84 zc_3 rfl eb_3 (lk rfl) rfl hal8 ham8 (lk rfl) (fun _ hw => Sl.own' (vs := flat encI [s]) hw (.head _)) (by first | omega | (simp <;> omega)) (by first | omega | (simp <;> omega)) rfl fun a11 ac11 as11 hal11 ham11 => ?_
  refine wl_callx rfl ci_65 (args1 (lk rfl)) (fun w1 hw => hash_c (([s] ++ xs) ++ [s]) _ _ _ _ w1 (Sl.own hw (.head _)) (by simp; omega)) (fun _ => rfl) ?_
  rintro ⟨m12, u12⟩ -
  refine wl_v rfl (val_assign (lk rfl)) ?_
  refine wl_nil ?_
  refine px_then ?_
  refine wc_ret ?_
  refine fin1 rfl (res_tmp rfl) (fun w1 hw => ?_)
  exact ⟨(m12, ()), trivial, rfl, hw.drop rfl⟩

theorem tic_c (s q : Int) (p : Int × Int) (m : Int) (w : World) :
    Calls Try.prog 60 #[.int .i64 s, .int .i64 q, .agg (recV enc2 p).toArray, .int .i64 m] w fun e w' => ∃ x : Int × Unit, True ∧ e = .returned (.agg (recV enc2 (q, x.1)).toArray) ∧ HP w [] w' := by
  refine calls_entry [] _ Try.func60 rfl Try.ntmps60 (HP.refl w) (env4 rfl) ?_
  refine wc_seq ?_
  refine wc_region ?_
  refine wl_box (lk rfl) rfl fun b1 => ?_
  refine wl_alloc zc_37 rfl fun b2 => ?_
  refine wl_nil ?_
  refine px_then ?_
  refine wc_seq ?_
  refine wc_region ?_
  refine wl_v rfl (val_move (lk rfl)) ?_
  refine wl_v rfl (val_move (lk rfl)) ?_
  refine wl_v rfl (val_field fo_29_0 (lk rfl)) ?_
  refine wl_v rfl (val_load1 t1_3 (lk rfl) (cell_own (.tail _ (.head _)) fun _ => rfl)) ?_
  refine wl_v rfl (val_field fo_29_1 (lk rfl)) ?_
  refine wl_v rfl (val_load1 t1_3 (lk rfl) (cell_own (.tail _ (.head _)) fun _ => rfl)) ?_
  refine wl_v rfl (val_move (lk rfl)) ?_
  refine wl_bslice (partsC (lk rfl) (partsC (lk rfl) (partsC (lk rfl) parts0))) (bsl_84_3_0_1_2 _ _ _) rfl fun b3 => ?_
  refine wl_callx rfl ci_64 (args2 (lk rfl) (lk rfl)) (fun w1 hw => kh_c s [p.1, p.2, m] _ _ 0 _ w1 (Sl.own' (vs := flat encI [p.1, p.2, m]) hw (.head _)) (by simp)) (fun _ => rfl) ?_
  rintro ⟨m17, u17⟩ -
  refine wl_callx rfl ci_63 (args2 (lk rfl) lkc) (fun w1 hw => mod_c _ _ w1) (fun _ => rfl) ?_
  rintro ⟨m18, u18⟩ -
  refine wl_v rfl (val_buildP (partsC (lk rfl) (partsC (lk rfl) parts0)) (bl_37_0_1 _ _)) ?_
  refine wl_storeB 1 rfl (lk rfl) (lk rfl) ag_37 rfl rfl ?_
  refine wl_nil ?_
  refine px_then ?_
  refine wc_ret ?_
  refine fin1 rfl (res_cell rfl (.tail _ (.head _)) ag_37) (fun w1 hw => ?_)
  exact ⟨(m18, ()), trivial, rfl, hw.drop rfl⟩

theorem l4Who_c (A : Option Addr) (n b o c cb i : Nat) (h : Int) (w : World) (hk : Code w A n b o cb) (hb : w.heap[cb]? = some (.cells (curC A n c i h).toArray 74 (0, 0))) :
    Calls Try.prog 57 #[.pointer (some ⟨cb, 0, none⟩)] w fun e w' => ∃ x : (Int × Int) × Nat × Int, True ∧ e = .returned (.agg (recV enc2 x.1).toArray) ∧ HP w [⟨cb, false, 74, curC A n c x.2.1 x.2.2⟩] w' := by
  refine calls_entry [⟨cb, false, 74, curC A n c i h⟩] _ Try.func57 rfl Try.ntmps57 (HP.one hb) (env1 rfl) ?_
  refine wc_seq ?_
  refine wc_region ?_
  refine wl_alloc zc_29 rfl fun b1 => ?_
  refine wl_nil ?_
  refine px_then ?_
  refine wc_seq ?_
  refine wc_region ?_
  refine wl_v rfl (val_move (lk rfl)) ?_
  refine wl_callw 1 rfl ci_53 (args2 (lk rfl) lkc) rfl (fun w1 hw => l1Below_c _ _ _ _ _ _ _ _ _ w1 (hk.hp hw (by simp)) (hw.own _ (.tail _ (.head _)))) (fun _ => rfl) ?_
  rintro ⟨x4, i4, h4⟩ hx4
  simp only at hx4
  refine wl_v rfl (val_move (lk rfl)) ?_
  refine wl_callw 1 rfl ci_53 (args2 (lk rfl) lkc) rfl (fun w1 hw => l1Below_c _ _ _ _ _ _ _ _ _ w1 (hk.hp hw (by simp)) (hw.own _ (.tail _ (.head _)))) (fun _ => rfl) ?_
  rintro ⟨x6, i6, h6⟩ hx6
  simp only at hx6
  refine wl_v rfl (val_buildP (partsC (lk rfl) (partsC (lk rfl) parts0)) (bl_29_0_1 _ _)) ?_
  refine wl_storeB 0 rfl (lk rfl) (lk rfl) ag_29 rfl rfl ?_
  refine wl_nil ?_
  refine px_then ?_
  refine wc_ret ?_
  refine fin1 rfl (res_cell rfl (.head _) ag_29) (fun w1 hw => ?_)
  exact ⟨((x4, x6), i6, h6), trivial, rfl, hw.mask [false, true] rfl⟩

theorem l4Any_c (A : Option Addr) (n b o c cb i : Nat) (h : Int) (w : World) (hk : Code w A n b o cb) (hb : w.heap[cb]? = some (.cells (curC A n c i h).toArray 74 (0, 0))) :
    Calls Try.prog 61 #[.pointer (some ⟨cb, 0, none⟩)] w fun e w' => ∃ x : (Int × Int) × Nat × Int, True ∧ e = .returned (.agg (recV enc2 x.1).toArray) ∧ HP w [⟨cb, false, 74, curC A n c x.2.1 x.2.2⟩] w' := by
  refine calls_entry [⟨cb, false, 74, curC A n c i h⟩] _ Try.func61 rfl Try.ntmps61 (HP.one hb) (env1 rfl) ?_
  refine wc_seq ?_
  refine wc_region ?_
  refine wl_alloc zc_29 rfl fun b1 => ?_
  refine wl_nil ?_
  refine px_then ?_
  refine wc_seq ?_
  refine wc_region ?_
  refine wl_v rfl (val_move (lk rfl)) ?_
  refine wl_callw 1 rfl ci_57 (args1 (lk rfl)) rfl (fun w1 hw => l4Who_c _ _ _ _ _ _ _ _ w1 (hk.hp hw (by simp)) (hw.own _ (.tail _ (.head _)))) (fun _ => rfl) ?_
  rintro ⟨x5, i5, h5⟩ -
  refine wl_alloc zc_29 rfl fun b2 => ?_
  refine wl_storeB 0 rfl (lk rfl) (lk rfl) ag_29 rfl rfl ?_
  refine wl_nil ?_
  refine px_then ?_
  refine wc_seq ?_
  refine wc_seq ?_
  refine wc_region ?_
  refine wl_v rfl (val_move (lk rfl)) ?_
  refine wl_callw 2 rfl ci_53 (args2 (lk rfl) lkc) rfl (fun w1 hw => l1Below_c _ _ _ _ _ _ _ _ _ w1 (hk.hp hw (by simp)) (hw.own _ (.tail _ (.tail _ (.head _))))) (fun _ => rfl) ?_
  rintro ⟨x7, i7, h7⟩ hx7
  simp only at hx7
  refine wl_nil ?_
  refine px_then ?_
  refine wc_block ?_
  refine wc_seq ?_
  refine wc_region ?_
  refine wl_v rfl (val_eql (lk rfl) lkc) ?_
  refine wl_v rfl (val_assign (lk rfl)) ?_
  refine wl_nil ?_
  refine px_then ?_
  refine wc_cond (lk rfl) (fun hc0 => ?_) (fun hc0 => ?_)
  · refine wc_region ?_
    refine wl_v rfl (val_move (lk rfl)) ?_
    refine wl_bslice (partsC lkc (partsC lkc (partsC lkc parts0))) (bsl_84_3_0_1_2 _ _ _) rfl fun b3 => ?_
    refine wl_callw 3 rfl ci_62 (args2 (lk rfl) (lk rfl)) rfl (fun w1 hw => l1Int_c _ _ _ _ _ _ _ _ [-1, 3, 4] _ _ 0 _ w1 (hk.hp hw (by simp)) (hw.own _ (.tail _ (.tail _ (.tail _ (.head _))))) (Sl.own' hw (.head _)) (by have h9 := hw.nodup; simp at h9 ⊢; omega) (by simp) (by simp)) (fun _ => rfl) ?_
    rintro ⟨x12, i12, h12⟩ hx12
    simp only at hx12
    refine wl_v rfl (val_field fo_29_0 (lk rfl)) ?_
    refine wl_store1 1 rfl (lk rfl) (lk rfl) t1_3 rfl (rfl) ?_
    refine wl_nil ?_
    refine px_block ?_
    refine px_then ?_
    refine wc_seq ?_
    refine wc_region ?_
    refine wl_v rfl (val_loadB (.tail _ (.head _)) (lk rfl) ag_29) ?_
    refine wl_storeB 2 rfl (lk rfl) (lk rfl) ag_29 rfl rfl ?_
    refine wl_nil ?_
    refine px_then ?_
    refine wc_ret ?_
    refine fin1 rfl (res_cell rfl (.tail _ (.tail _ (.head _))) ag_29) (fun w1 hw => ?_)
    exact ⟨((nth d0I [-1, 3, 4] x12, x5.2), i12, h12), trivial, rfl, hw.mask [false, false, false, true] rfl⟩
  refine wc_seq ?_
  refine wc_region ?_
  refine wl_v rfl (val_eql (lk rfl) lkc) ?_
  refine wl_v rfl (val_assign (lk rfl)) ?_
  refine wl_nil ?_
  refine px_then ?_
  refine wc_cond (lk rfl) (fun hc1 => ?_) (fun hc1 => ?_)
  · refine wc_region ?_
    refine wl_v rfl (val_move (lk rfl)) ?_
    refine wl_bslice (partsC lkc (partsC lkc (partsC lkc parts0))) (bsl_84_3_0_1_2 _ _ _) rfl fun b4 => ?_
    refine wl_callw 3 rfl ci_62 (args2 (lk rfl) (lk rfl)) rfl (fun w1 hw => l1Int_c _ _ _ _ _ _ _ _ [-1, 99, 100] _ _ 0 _ w1 (hk.hp hw (by simp)) (hw.own _ (.tail _ (.tail _ (.tail _ (.head _))))) (Sl.own' hw (.head _)) (by have h9 := hw.nodup; simp at h9 ⊢; omega) (by simp) (by simp)) (fun _ => rfl) ?_
    rintro ⟨x18, i18, h18⟩ hx18
    simp only at hx18
    refine wl_v rfl (val_field fo_29_1 (lk rfl)) ?_
    refine wl_store1 1 rfl (lk rfl) (lk rfl) t1_3 rfl (rfl) ?_
    refine wl_nil ?_
    refine px_block ?_
    refine px_then ?_
    refine wc_seq ?_
    refine wc_region ?_
    refine wl_v rfl (val_loadB (.tail _ (.head _)) (lk rfl) ag_29) ?_
    refine wl_storeB 2 rfl (lk rfl) (lk rfl) ag_29 rfl rfl ?_
    refine wl_nil ?_
    refine px_then ?_
    refine wc_ret ?_
    refine fin1 rfl (res_cell rfl (.tail _ (.tail _ (.head _))) ag_29) (fun w1 hw => ?_)
    exact ⟨((x5.1, nth d0I [-1, 99, 100] x18), i18, h18), trivial, rfl, hw.mask [false, false, false, true] rfl⟩
  refine wc_skip ?_
  refine px_block ?_
  refine px_then ?_
  refine wc_seq ?_
  refine wc_region ?_
  refine wl_v rfl (val_loadB (.head _) (lk rfl) ag_29) ?_
  refine wl_storeB 1 rfl (lk rfl) (lk rfl) ag_29 rfl rfl ?_
  refine wl_nil ?_
  refine px_then ?_
  refine wc_ret ?_
  refine fin1 rfl (res_cell rfl (.tail _ (.head _)) ag_29) (fun w1 hw => ?_)
  exact ⟨(x5, i7, h7), trivial, rfl, hw.mask [false, false, true] rfl⟩

theorem l21One_c (A : Option Addr) (n b o c cb i : Nat) (h : Int) (w : World) (hk : Code w A n b o cb) (hb : w.heap[cb]? = some (.cells (curC A n c i h).toArray 74 (0, 0))) :
    Calls Try.prog 55 #[.pointer (some ⟨cb, 0, none⟩)] w fun e w' => ∃ x : Reg × Nat × Int, x.1.tmp.1 = 1 ∧ e = .returned (.agg (recV encW x.1).toArray) ∧ HP w [⟨cb, false, 74, curC A n c x.2.1 x.2.2⟩] w' := by
  refine calls_entry [⟨cb, false, 74, curC A n c i h⟩] _ Try.func55 rfl Try.ntmps55 (HP.one hb) (env1 rfl) ?_
  refine wc_seq ?_
  refine wc_region ?_
  refine wl_alloc zc_55 rfl fun b1 => ?_
  refine wl_nil ?_
  refine px_then ?_
  refine wc_seq ?_
  refine wc_region ?_
  refine wl_v rfl (val_move (lk rfl)) ?_
  refine wl_callw 1 rfl ci_57 (args1 (lk rfl)) rfl (fun w1 hw => l4Who_c _ _ _ _ _ _ _ _ w1 (hk.hp hw (by simp)) (hw.own _ (.tail _ (.head _)))) (fun _ => rfl) ?_
  rintro ⟨x5, i5, h5⟩ -
  refine wl_alloc zc_29 rfl fun b2 => ?_
  refine wl_storeB 0 rfl (lk rfl) (lk rfl) ag_29 rfl rfl ?_
  refine wl_nil ?_
  refine px_then ?_
  refine wc_seq ?_
  refine wc_region_aF 13 2 (fun y : Nat × Int => (⟨cb, false, 74, curC A n c y.1 y.2⟩ : Blk)) [true, true, true] 14 mo_ rfl ?_
  refine wa_takeF 0 rfl (by kernel_rfl) (by kernel_rfl) (by kernel_rfl) (by kernel_rfl) (fun _ h => ⟨(_, _), h.mask [true, true, true] rfl⟩) gd_none rfl (fun _ => val_loadB (.head _) (lk rfl) ag_29) ?_
  refine wa_takeF 1 rfl (by kernel_rfl) (by kernel_rfl) (by kernel_rfl) (by kernel_rfl) (fun _ h => ⟨(_, _), h.mask [true, true, true] rfl⟩) gd_none rfl (fun _ => val_move (lk rfl)) ?_
  refine wa_takeF 3 rfl (by kernel_rfl) (by kernel_rfl) (by kernel_rfl) (by kernel_rfl) (fun _ h => ⟨(_, _), h.mask [true, true, true] rfl⟩) gd_none rfl (fun _ => val_move (lk rfl)) ?_
  refine wa_takeF 5 rfl (by kernel_rfl) (by kernel_rfl) (by kernel_rfl) (by kernel_rfl) (fun _ h => ⟨(_, _), h.mask [true, true, true] rfl⟩) gd_none rfl (fun _ => val_move (lk rfl)) ?_
  refine wa_takeF 8 rfl (by kernel_rfl) (by kernel_rfl) (by kernel_rfl) (by kernel_rfl) (fun _ h => ⟨(_, _), h.mask [true, true, true] rfl⟩) gd_none rfl (fun _ => val_loadB (.head _) (lk rfl) ag_29) ?_
  refine wa_takeF 9 rfl (by kernel_rfl) (by kernel_rfl) (by kernel_rfl) (by kernel_rfl) (fun _ h => ⟨(_, _), h.mask [true, true, true] rfl⟩) gd_none rfl (fun _ => val_move (lk rfl)) ?_
  refine wa_only 2 (by kernel_rfl) rfl ?_
  refine wl_callw 2 rfl ci_53 (args2 (lk rfl) lkc) rfl (fun w1 hw => l1Below_c _ _ _ _ _ _ _ _ _ w1 (hk.hp hw (by simp)) (hw.own _ (.tail _ (.tail _ (.head _))))) (fun _ => rfl) ?_
  rintro ⟨x8, i8, h8⟩ hx8
  simp only at hx8
  refine wl_nil (px_qnF (fun _ h => ⟨(_, _), h.mask [true, true, true] rfl⟩) ?_)
  refine wa_only 4 (by kernel_rfl) rfl ?_
  refine wl_callw 2 rfl ci_53 (args2 (lk rfl) lkc) rfl (fun w1 hw => l1Below_c _ _ _ _ _ _ _ _ _ w1 (hk.hp hw (by simp)) (hw.own _ (.tail _ (.tail _ (.head _))))) (fun _ => rfl) ?_
  rintro ⟨x10, i10, h10⟩ hx10
  simp only at hx10
  refine wl_nil (px_qnF (fun _ h => ⟨(_, _), h.mask [true, true, true] rfl⟩) ?_)
  refine wa_only 6 (by kernel_rfl) rfl ?_
  refine wl_callw 2 rfl ci_53 (args2 (lk rfl) lkc) rfl (fun w1 hw => l1Below_c _ _ _ _ _ _ _ _ _ w1 (hk.hp hw (by simp)) (hw.own _ (.tail _ (.tail _ (.head _))))) (fun _ => rfl) ?_
  rintro ⟨x12, i12, h12⟩ hx12
  simp only at hx12
  refine wl_nil (px_qnF (fun _ h => ⟨(_, _), h.mask [true, true, true] rfl⟩) ?_)
  refine wa_takeF 7 rfl (by kernel_rfl) (by kernel_rfl) (by kernel_rfl) (by kernel_rfl) (fun _ h => ⟨(_, _), h.mask [true, true, true] rfl⟩) gd_none rfl (fun _ => val_add lkc (lk rfl)) ?_
  refine wa_only 10 (by kernel_rfl) rfl ?_
  refine wl_callw 2 rfl ci_53 (args2 (lk rfl) lkc) rfl (fun w1 hw => l1Below_c _ _ _ _ _ _ _ _ _ w1 (hk.hp hw (by simp)) (hw.own _ (.tail _ (.tail _ (.head _))))) (fun _ => rfl) ?_
  rintro ⟨x16, i16, h16⟩ hx16
  simp only at hx16
  refine wl_nil (px_qnF (fun _ h => ⟨(_, _), h.mask [true, true, true] rfl⟩) ?_)
  refine wa_only 11 (by kernel_rfl) rfl ?_
  refine wl_callx rfl ci_60 (args4 (lk rfl) lkc (lk rfl) (lk rfl)) (fun w1 hw => tic_c _ 1 x5 _ w1) (fun _ => rfl) ?_
  rintro ⟨m17, u17⟩ -
  refine wl_nil (px_qnF (fun _ h => ⟨(_, _), h.mask [true, true, true] rfl⟩) ?_)
  refine wa_takeF 12 rfl (by kernel_rfl) (by kernel_rfl) (by kernel_rfl) (by kernel_rfl) (fun _ h => ⟨(_, _), h.mask [true, true, true] rfl⟩) gd_none rfl (fun _ => val_buildP (partsC (lk rfl) (partsC (lk rfl) (partsC (lk rfl) (partsC (lk rfl) parts0)))) (bl_55_0_1_2_3 _ _ _ _ _ _)) ?_
  refine wa_only 13 (by kernel_rfl) rfl ?_
  refine wl_storeB 1 rfl (lk rfl) (lk rfl) ag_55 rfl rfl ?_
  refine wl_nil (px_qlF ?_)
  refine wa_done (by kernel_rfl) ?_
  refine px_then ?_
  refine wc_ret ?_
  refine fin1 rfl (res_cell rfl (.tail _ (.head _)) ag_55) (fun w1 hw => ?_)
  exact ⟨(⟨x5, x8, x10, (1, m17)⟩, i16, h16), rfl, rfl, hw.mask [false, false, true] rfl⟩

theorem sReg_c (rs : List Reg) (A : Option Addr) (b o c : Nat) (r : Reg) (w : World) (hs : Sl w A b o (flat encW rs)) (hl : rs.length ≤ 1000) :
    Calls Try.prog 54 #[.slice A rs.length c, .agg (recV encW r).toArray] w fun e w' => ∃ x : Nat × Nat × List Value × Int × Bool, ((flat encW (regW rs r) ++ x.2.2.1).length = x.2.1 * 6 ∧ x.2.1 ≤ 9223372036854775807) ∧ e = .returned (.tuple #[.slice (some ⟨x.1, 0, none⟩) (regW rs r).length x.2.1, .int .i64 x.2.2.2.1, .bool x.2.2.2.2]) ∧ HP w [⟨x.1, true, 55, flat encW (regW rs r) ++ x.2.2.1⟩] w' := by
  refine calls_entry [] _ Try.func54 rfl Try.ntmps54 (HP.refl w) (env2 rfl) ?_
  refine wc_seq ?_
  refine wc_region ?_
  refine wl_box (lk rfl) rfl fun b1 => ?_
  refine wl_v rfl (val_assign lkc) ?_
  refine wl_v rfl (val_assign lkc) ?_
  refine wl_v rfl (val_assign lkc) ?_
  refine wl_nil ?_
  refine px_then ?_
  refine wc_seq ?_
  refine wc_region ?_
  refine wl_v rfl (val_move (lk rfl)) ?_
  refine wl_callx rfl ci_47 (args1 (lk rfl)) (fun w1 hw => sCopyW_c rs _ _ _ _ w1 (hs.hp hw rfl) (by omega)) (fun _ => rfl) ?_
  rintro ⟨gb11, gc11, gs11⟩ ⟨hgl11, hgc11⟩
  refine wl_v rfl (val_assign (lk rfl)) ?_
  refine wl_nil ?_
  refine px_then ?_
  refine wc_seq ?_
  refine wc_region ?_
  refine wl_v rfl (val_move (lk rfl)) ?_
  refine wl_v rfl (val_field fo_55_0 (lk rfl)) ?_
  refine wl_v rfl (val_loadP (.tail _ (.head _)) (lk rfl) ag_29 rfl) ?_
  refine wl_call gd_none rfl ci_13 (args2 (lk rfl) (lk rfl)) (fun hG w1 hw => sFindW_c rs _ _ _ _ r.id w1 (hs.hp hw rfl) (by omega)) ?_
  refine wl_v rfl (val_assign (lk rfl)) ?_
  refine wl_nil ?_
  refine px_then ?_
  refine wc_seq ?_
  refine wc_region ?_
  refine wl_v rfl (val_assign lkc) ?_
  refine wl_nil ?_
  refine px_then ?_
  refine wc_seq ?_
  refine wc_seq ?_
  refine wc_region ?_
  refine wl_v rfl (val_move (lk rfl)) ?_
  refine wl_v rfl (val_geq (lk rfl) lkc) ?_
  refine wl_nil ?_
  refine px_then ?_
  refine wc_cond (lk rfl) (fun hc0 => ?_) (fun hc0 => ?_)
  · have h0 := of_decide_eq_true hc0
    have hlt := findW_lt h0
    have hro : regOut rs r = rs.set (findW rs r.id).toNat r := if_pos h0
    have hlen : rs.length = (regOut rs r).length := by rw [hro, List.length_set]
    have e1 : (flat encW rs ++ gs11).take (0 + (findW rs r.id).toNat * 6) ++ recV encW r ++ (flat encW rs ++ gs11).drop (0 + (findW rs r.id).toNat * 6 + 6) = flat encW (regOut rs r) ++ gs11 := by rw [hro, Nat.zero_add]; exact set_nth encW_len rs _ hlt.1 r gs11
    refine wc_seq ?_
    refine wc_region ?_
    refine wl_v rfl (val_move (lk rfl)) ?_
    refine wl_v rfl (val_move (lk rfl)) ?_
    refine wl_v rfl (val_indexI es_27 (lk rfl) (lk rfl) (fun _ => hs.hd encW_len (by decide) (i := (findW rs r.id).toNat) hlt.1) (fun _ => ⟨h0, hlt.2⟩)) ?_
    refine wl_v rfl (val_field fo_55_1 (lk rfl)) ?_
    refine wl_v rfl (val_load1 t1_3 (lk rfl) (cell_old rfl fun hG => hs.fld encW_len d0W (i := (findW rs r.id).toNat) (f := 2) hlt.1 (by decide) rfl)) ?_
    refine wl_v rfl (val_assign (lk rfl)) ?_
    refine wl_nil ?_
    refine px_then ?_
    refine wc_region ?_
    refine wl_v rfl (val_move (lk rfl)) ?_
    refine wl_v rfl (val_move (lk rfl)) ?_
    refine wl_v rfl (val_loadB (.tail _ (.head _)) (lk rfl) ag_55) ?_
    refine wl_v rfl (val_indexI es_27 (lk rfl) (lk rfl) (fun _ => rfl) (fun _ => ⟨h0, hlt.2⟩)) ?_
    refine wl_storeN (cs := flat encW rs ++ gs11) (vs := recV encW r) 0 ag_55 (lk rfl) (lk rfl) rfl rfl rfl (by rw [List.length_append, flat_len encW_len]; omega) ?_
    rw [e1]
    refine wl_nil ?_
    refine px_then ?_
    refine wc_seq ?_
    refine wc_seq ?_
    refine wc_region ?_
    refine wl_v rfl ((val_move (lk rfl)).eq (congrArg (fun m => Value.slice _ m _) hlen)) ?_
    refine wl_call gd_none rfl ci_28 (args1 (lk rfl)) (fun hG w1 hw => sOkRegs_c (regOut rs r) _ _ _ _ w1 (by first | exact (Sl.own hw (.head _)) | (rw [hro]; exact (Sl.own hw (.head _)))) (by have := regOut_len rs r; omega) (by rw [← hlen]; exact (cap_le encW_len (by decide) hgl11))) ?_
    refine wl_v rfl (val_not (lk rfl)) ?_
    refine wl_nil ?_
    refine px_then ?_
    refine wc_cond (lk rfl) (fun hc1 => ?_) (fun hc1 => ?_)
    · have hrw : regW rs r = rs := if_neg (by simpa using hc1)
      refine wc_seq ?_
      refine wc_region ?_
      refine wl_v rfl (val_move (lk rfl)) ?_
      refine wl_callx rfl ci_47 (args1 (lk rfl)) (fun w1 hw => sCopyW_c rs _ _ _ _ w1 (hs.hp hw rfl) (by omega)) (fun _ => rfl) ?_
      rintro ⟨gb35, gc35, gs35⟩ ⟨hgl35, hgc35⟩
      refine wl_v rfl (val_assign (lk rfl)) ?_
      refine wl_v rfl (val_assign lkc) ?_
      refine wl_v rfl (val_assign lkc) ?_
      refine wl_nil ?_
      refine px_then ?_
      refine wc_ret ?_
      refine px_then_ret ?_
      refine fin3 rfl (res_tmp rfl) (res_tmp rfl) (res_tmp rfl) (fun w1 hw => ?_)
      rw [hrw]
      exact ⟨(gb35, gc35, gs35, _, _), ⟨hgl35, hgc35⟩, rfl, hw.mask [true, false, false] rfl⟩
    have hrw : regW rs r = regOut rs r := if_pos (by simpa using hc1)
    refine wc_skip ?_
    refine px_then ?_
    refine wc_seq ?_
    refine wc_region ?_
    refine wl_v rfl ((val_move (lk rfl)).eq (congrArg (fun m => Value.slice _ m _) hlen)) ?_
    refine wl_v rfl (val_move (lk rfl)) ?_
    refine wl_v rfl (val_assign (lk rfl)) ?_
    refine wl_v rfl (val_assign (lk rfl)) ?_
    refine wl_v rfl (val_assign lkc) ?_
    refine wl_nil ?_
    refine px_then ?_
    refine wc_ret ?_
    refine fin3 rfl (res_tmp rfl) (res_tmp rfl) (res_tmp rfl) (fun w1 hw => ?_)
    rw [hrw]
    exact ⟨(gb11, gc11, gs11, _, _), ⟨by have h9 := hgl11; rw [List.length_append, flat_len encW_len] at h9 ⊢; rw [← hlen]; exact h9, hgc11⟩, rfl, hw.mask [true, false] rfl⟩
  have hro : regOut rs r = rs ++ [r] := if_neg (of_decide_eq_false hc0)
  have hlen : (rs ++ [r]).length = (regOut rs r).length := by rw [hro]
  refine wc_region ?_
  refine wl_v rfl (val_move (lk rfl)) ?_
  refine wl_v rfl (val_loadB (.tail _ (.head _)) (lk rfl) ag_55) ?_
  refine wl_bslice (partsC (lk rfl) parts0) (bsl_27_1_0 _ _ _ _ _ _) rfl fun b2 => ?_
  refine wl_appendR encW_len (by decide) rs [r] 1 es_27 zc_55 rfl eb_55 (lk rfl) rfl hgl11 hgc11 (lk rfl) (fun _ hw => Sl.own' (vs := flat encW [r]) hw (.head _)) (by first | omega | (simp <;> omega)) (by first | omega | (simp <;> omega)) rfl fun a30 ac30 as30 hal30 ham30 => ?_
  refine wl_v rfl (val_assign (lk rfl)) ?_
  refine wl_nil ?_
  refine px_then ?_
  refine wc_seq ?_
  refine wc_seq ?_
  refine wc_region ?_
  refine wl_v rfl ((val_move (lk rfl)).eq (congrArg (fun m => Value.slice _ m _) hlen)) ?_
  refine wl_call gd_none rfl ci_28 (args1 (lk rfl)) (fun hG w1 hw => sOkRegs_c (regOut rs r) _ _ _ _ w1 (by first | exact (Sl.own hw (.head _)) | (rw [hro]; exact (Sl.own hw (.head _)))) (by have := regOut_len rs r; omega) (by rw [← hlen]; exact (cap_le encW_len (by decide) hal30))) ?_
  refine wl_v rfl (val_not (lk rfl)) ?_
  refine wl_nil ?_
  refine px_then ?_
  refine wc_cond (lk rfl) (fun hc2 => ?_) (fun hc2 => ?_)
  · have hrw : regW rs r = rs := if_neg (by simpa using hc2)
    refine wc_seq ?_
    refine wc_region ?_
    refine wl_v rfl (val_move (lk rfl)) ?_
    refine wl_callx rfl ci_47 (args1 (lk rfl)) (fun w1 hw => sCopyW_c rs _ _ _ _ w1 (hs.hp hw rfl) (by omega)) (fun _ => rfl) ?_
    rintro ⟨gb35, gc35, gs35⟩ ⟨hgl35, hgc35⟩
    refine wl_v rfl (val_assign (lk rfl)) ?_
    refine wl_v rfl (val_assign lkc) ?_
    refine wl_v rfl (val_assign lkc) ?_
    refine wl_nil ?_
    refine px_then ?_
    refine wc_ret ?_
    refine px_then_ret ?_
    refine fin3 rfl (res_tmp rfl) (res_tmp rfl) (res_tmp rfl) (fun w1 hw => ?_)
    rw [hrw]
    exact ⟨(gb35, gc35, gs35, _, _), ⟨hgl35, hgc35⟩, rfl, hw.mask [true, false, false, false] rfl⟩
  have hrw : regW rs r = regOut rs r := if_pos (by simpa using hc2)
  refine wc_skip ?_
  refine px_then ?_
  refine wc_seq ?_
  refine wc_region ?_
  refine wl_v rfl ((val_move (lk rfl)).eq (congrArg (fun m => Value.slice _ m _) hlen)) ?_
  refine wl_v rfl (val_move (lk rfl)) ?_
  refine wl_v rfl (val_assign (lk rfl)) ?_
  refine wl_v rfl (val_assign (lk rfl)) ?_
  refine wl_v rfl (val_assign lkc) ?_
  refine wl_nil ?_
  refine px_then ?_
  refine wc_ret ?_
  refine fin3 rfl (res_tmp rfl) (res_tmp rfl) (res_tmp rfl) (fun w1 hw => ?_)
  rw [hrw, hro]
  exact ⟨(a30, ac30, as30, _, _), ⟨hal30, ham30⟩, by rw [hlen, hro], hw.mask [true, false, false] rfl⟩

theorem l21Draw_c (A : Option Addr) (n b o c cb i : Nat) (h : Int) (w : World) (hk : Code w A n b o cb) (hb : w.heap[cb]? = some (.cells (curC A n c i h).toArray 74 (0, 0))) :
    Calls Try.prog 50 #[.pointer (some ⟨cb, 0, none⟩)] w fun e w' => ∃ x : DW × Nat × Int, (x.1.row ∧ okRegs x.1.xs = true ∧ allT x.1.xs) ∧ e = .returned x.1.val ∧ HP w [⟨cb, false, 74, curC A n c x.2.1 x.2.2⟩, ⟨x.1.g, true, 55, flat encW x.1.xs ++ x.1.sp⟩] w' := by
  refine calls_entry [⟨cb, false, 74, curC A n c i h⟩] _ Try.func50 rfl Try.ntmps50 (HP.one hb) (env1 rfl) ?_
  refine wc_seq ?_
  refine wc_region ?_
  refine wl_v rfl (val_assign lkc) ?_
  refine wl_nil ?_
  refine px_then ?_
  refine wc_seq ?_
  refine wc_region ?_
  refine wl_bslice parts0 bsl_27_0_ rfl fun b1 => ?_
  refine wl_v rfl (val_assign (lk rfl)) ?_
  refine wl_nil ?_
  refine px_then ?_
  refine wc_seq ?_
  refine wc_seq ?_
  refine wc_region ?_
  refine wl_v rfl (val_move (lk rfl)) ?_
  refine wl_callw 1 rfl ci_53 (args2 (lk rfl) lkc) rfl (fun w1 hw => l1Below_c _ _ _ _ _ _ _ _ _ w1 (hk.hp hw (by simp)) (hw.own _ (.tail _ (.head _)))) (fun _ => rfl) ?_
  rintro ⟨x7, i7, h7⟩ hx7
  simp only at hx7
  refine wl_v rfl (val_assign (lk rfl)) ?_
  refine wl_nil ?_
  refine px_then ?_
  refine wc_block ?_
  refine wc_trim (l' := [(0, _), (2, _), (3, _), (4, _)]) ⟨rfl, rfl, rfl, rfl, trivial⟩ ?_
  refine wc_loopl (X := DWS) (fun x => x.d.row ∧ okRegs x.d.xs = true ∧ allT x.d.xs ∧ x.m ≤ 100) (fun x => [(3, (true, .slice (some ⟨x.d.g, 0, none⟩) x.d.xs.length x.d.c)), (4, (true, .int .i64 (x.m : Nat)))]) (fun x => [⟨x.d.g, true, 55, flat encW x.d.xs ++ x.d.sp⟩, ⟨cb, false, 74, curC A n c x.i x.h⟩]) (fun x => x.m) ⟨⟨[], b1, 0, []⟩, x7.toNat, i7, h7⟩ (⟨⟨rfl, Nat.zero_le _⟩, rfl, fun r hr => absurd hr (by simp), by have := hx7.2.1; show x7.toNat ≤ 100; omega⟩) ⟨rfl, slotI (by have := hx7.1; show x7 = ((x7.toNat : Nat) : Int); omega), rfl, rfl, rfl, slotI (by have := hx7.1; show x7 = ((x7.toNat : Nat) : Int); omega), trivial⟩ (fun _ h => h) ?_
  rintro ⟨⟨xs, gr, gc, gs⟩, m, i, h⟩ ⟨⟨hgl, hgc⟩, hok, hal, hmb⟩
  simp only at hgl hgc hok hal hmb
  dsimp only
  have hln := okRegs_len hok
  refine wc_seq ?_
  refine wc_seq ?_
  refine wc_region ?_
  refine wl_v rfl (val_move (lk rfl)) ?_
  refine wl_v rfl (val_gtr (lk rfl) lkc) ?_
  refine wl_nil ?_
  refine px_then ?_
  refine wc_cond (lk rfl) (fun hc0 => ?_) (fun hc0 => ?_)
  · have hm0 : 0 < m := by have := of_decide_eq_true hc0; omega
    refine wc_skip ?_
    refine px_then ?_
    refine wc_seq ?_
    refine wc_block ?_
    refine wc_seq ?_
    refine wc_region ?_
    refine wl_v rfl (val_move (lk rfl)) ?_
    refine wl_v rfl (val_move (lk rfl)) ?_
    refine wl_callw 1 rfl ci_55 (args1 (lk rfl)) rfl (fun w1 hw => l21One_c _ _ _ _ _ _ _ _ w1 (hk.hp hw (by simp)) (hw.own _ (.tail _ (.head _)))) (fun _ => rfl) ?_
    rintro ⟨x15, i15, h15⟩ hx15
    simp only at hx15
    refine wl_callx rfl ci_54 (args2 (lk rfl) (lk rfl)) (fun w1 hw => sReg_c xs _ _ _ _ x15 w1 (Sl.own hw (.head _)) (by omega)) (fun _ => rfl) ?_
    rintro ⟨gb16, gc16, gs16, ro16, rb16⟩ ⟨hgl16, hgc16⟩
    refine wl_v rfl (val_move (lk rfl)) ?_
    refine wl_v rfl (val_extract (lk rfl) rfl) ?_
    refine wl_v rfl (val_extract (lk rfl) rfl) ?_
    refine wl_v rfl (val_extract (lk rfl) rfl) ?_
    refine wl_v rfl (val_assign (lk rfl)) ?_
    refine wl_nil ?_
    refine px_then ?_
    refine wc_seq ?_
    refine wc_region ?_
    refine wl_v rfl (val_move (lk rfl)) ?_
    refine wl_callw 2 rfl ci_56 (args2 (lk rfl) lkc) rfl (fun w1 hw => l1Once_c _ _ _ _ _ _ _ _ _ w1 (hk.hp hw (by simp)) (hw.own _ (.tail _ (.tail _ (.head _))))) (fun _ => rfl) ?_
    rintro ⟨x21, i21, h21⟩ -
    refine wl_nil ?_
    refine px_then ?_
    refine wc_cond (lk rfl) (fun hc1 => ?_) (fun hc1 => ?_)
    · refine wc_region ?_
      refine wl_v rfl (val_move (lk rfl)) ?_
      refine wl_v rfl (val_move (lk rfl)) ?_
      refine wl_callw 2 rfl ci_57 (args1 (lk rfl)) rfl (fun w1 hw => l4Who_c _ _ _ _ _ _ _ _ w1 (hk.hp hw (by simp)) (hw.own _ (.tail _ (.tail _ (.head _))))) (fun _ => rfl) ?_
      rintro ⟨x24, i24, h24⟩ -
      refine wl_v rfl (val_move (lk rfl)) ?_
      refine wl_callw 2 rfl ci_53 (args2 (lk rfl) lkc) rfl (fun w1 hw => l1Below_c _ _ _ _ _ _ _ _ _ w1 (hk.hp hw (by simp)) (hw.own _ (.tail _ (.tail _ (.head _))))) (fun _ => rfl) ?_
      rintro ⟨x26, i26, h26⟩ hx26
      simp only at hx26
      refine wl_callx rfl ci_30 (args3 (lk rfl) (lk rfl) (lk rfl)) (fun w1 hw => sDereg_c (regW xs x15) _ _ _ _ x24 x26 w1 (Sl.own hw (.head _)) (by have := regW_len xs x15; omega) (cap_le encW_len (by decide) hgl16)) (fun _ => rfl) ?_
      rintro ⟨gb27, gc27, gs27⟩ ⟨hgl27, hgc27⟩
      refine wl_v rfl (val_assign (lk rfl)) ?_
      refine wl_nil ?_
      refine px_block ?_
      refine px_then ?_
      refine wc_region ?_
      refine wl_v rfl (val_move (lk rfl)) ?_
      refine wl_v rfl (val_dec (lk rfl) (fun hG => ⟨by omega, by omega⟩)) ?_
      refine wl_v rfl (val_assign (lk rfl)) ?_
      refine wl_nil ?_
      refine px_round (⟨⟨(dereg (regW xs x15) x24 x26), gb27, gc27, gs27⟩, m - 1, i26, h26⟩) (⟨⟨hgl27, hgc27⟩, dereg_ok (regW_ok hok x15) _ _, dereg_all (regW_all hal hx15) _ _, by show m - 1 ≤ 100; omega⟩) (by show m - 1 < m; omega) (⟨rfl, rfl, rfl, rfl, rfl, rfl, trivial⟩) (fun _ h => h.mask [true, false, false, true] rfl)
    refine wc_skip ?_
    refine px_block ?_
    refine px_then ?_
    refine wc_region ?_
    refine wl_v rfl (val_move (lk rfl)) ?_
    refine wl_v rfl (val_dec (lk rfl) (fun hG => ⟨by omega, by omega⟩)) ?_
    refine wl_v rfl (val_assign (lk rfl)) ?_
    refine wl_nil ?_
    refine px_round (⟨⟨regW xs x15, gb16, gc16, gs16⟩, m - 1, i21, h21⟩) (⟨⟨hgl16, hgc16⟩, regW_ok hok x15, regW_all hal hx15, by show m - 1 ≤ 100; omega⟩) (by show m - 1 < m; omega) (⟨rfl, rfl, rfl, rfl, rfl, rfl, trivial⟩) (fun _ h => h.mask [true, false, true] rfl)
  have hm0 : m = 0 := by have := of_decide_eq_false hc0; omega
  refine wc_exit ?_
  refine px_then_exit ?_
  refine px_then_exit ?_
  refine px_block_exit ?_
  refine px_then ?_
  refine wc_seq ?_
  refine wc_region ?_
  refine wl_v rfl (val_move (lk rfl)) ?_
  refine wl_v rfl (val_assign (lk rfl)) ?_
  refine wl_nil ?_
  refine px_then ?_
  refine wc_ret ?_
  refine fin1 rfl (res_tmp rfl) (fun w1 hw => ?_)
  exact ⟨(⟨xs, gr, gc, gs⟩, i, h), ⟨⟨hgl, hgc⟩, hok, hal⟩, rfl, (hw.mask [true, true] rfl).sw rfl⟩

theorem l21Any_c (A : Option Addr) (n b o c cb i : Nat) (h : Int) (w : World) (hk : Code w A n b o cb) (hb : w.heap[cb]? = some (.cells (curC A n c i h).toArray 74 (0, 0))) :
    Calls Try.prog 58 #[.pointer (some ⟨cb, 0, none⟩)] w fun e w' => ∃ x : DW × Nat × Int, (x.1.row ∧ x.1.xs.length ≤ 16) ∧ e = .returned x.1.val ∧ HP w [⟨cb, false, 74, curC A n c x.2.1 x.2.2⟩, ⟨x.1.g, true, 55, flat encW x.1.xs ++ x.1.sp⟩] w' := by
  refine calls_entry [⟨cb, false, 74, curC A n c i h⟩] _ Try.func58 rfl Try.ntmps58 (HP.one hb) (env1 rfl) ?_
  refine wc_seq ?_
  refine wc_region ?_
  refine wl_v rfl (val_assign lkc) ?_
  refine wl_nil ?_
  refine px_then ?_
  refine wc_seq ?_
  refine wc_region ?_
  refine wl_v rfl (val_move (lk rfl)) ?_
  refine wl_callw 0 rfl ci_50 (args1 (lk rfl)) rfl (fun w1 hw => l21Draw_c _ _ _ _ _ _ _ _ w1 (hk.hp hw (by simp)) (hw.own _ (.head _))) (fun _ => rfl) ?_
  rintro ⟨⟨xs5, gr5, gc5, gs5⟩, i5, h5⟩ ⟨⟨hgl5, hgc5⟩, hok5, hal5⟩
  simp only at hgl5 hgc5 hok5 hal5
  have hlen5 := okRegs_len hok5
  refine wl_v rfl (val_assign (lk rfl)) ?_
  refine wl_nil ?_
  refine px_then ?_
  refine wc_seq ?_
  refine wc_seq ?_
  refine wc_region ?_
  refine wl_v rfl (val_move (lk rfl)) ?_
  refine wl_callw 1 rfl ci_53 (args2 (lk rfl) lkc) rfl (fun w1 hw => l1Below_c _ _ _ _ _ _ _ _ _ w1 (hk.hp hw (by simp)) (hw.own _ (.tail _ (.head _)))) (fun _ => rfl) ?_
  rintro ⟨x7, i7, h7⟩ hx7
  simp only at hx7
  refine wl_nil ?_
  refine px_then ?_
  refine wc_block ?_
  refine wc_seq ?_
  refine wc_region ?_
  refine wl_v rfl (val_eql (lk rfl) lkc) ?_
  refine wl_v rfl (val_assign (lk rfl)) ?_
  refine wl_nil ?_
  refine px_then ?_
  refine wc_cond (lk rfl) (fun hc0 => ?_) (fun hc0 => ?_)
  · refine wc_region ?_
    refine wl_v rfl (val_move (lk rfl)) ?_
    refine wl_v rfl (val_move (lk rfl)) ?_
    refine wl_callw 1 rfl ci_61 (args1 (lk rfl)) rfl (fun w1 hw => l4Any_c _ _ _ _ _ _ _ _ w1 (hk.hp hw (by simp)) (hw.own _ (.tail _ (.head _)))) (fun _ => rfl) ?_
    rintro ⟨x12, i12, h12⟩ -
    refine wl_v rfl (val_move (lk rfl)) ?_
    refine wl_bslice (partsC lkc (partsC lkc (partsC lkc parts0))) (bsl_84_3_0_1_2 _ _ _) rfl fun b1 => ?_
    refine wl_callw 2 rfl ci_62 (args2 (lk rfl) (lk rfl)) rfl (fun w1 hw => l1Int_c _ _ _ _ _ _ _ _ [-1, 0, 4] _ _ 0 _ w1 (hk.hp hw (by simp)) (hw.own _ (.tail _ (.tail _ (.head _)))) (Sl.own' hw (.head _)) (by have h9 := hw.nodup; simp at h9 ⊢; omega) (by simp) (by simp)) (fun _ => rfl) ?_
    rintro ⟨x15, i15, h15⟩ hx15
    simp only at hx15
    refine wl_v rfl (val_move (lk rfl)) ?_
    refine wl_bslice (partsC lkc (partsC lkc (partsC lkc parts0))) (bsl_84_3_0_1_2 _ _ _) rfl fun b2 => ?_
    refine wl_callw 3 rfl ci_62 (args2 (lk rfl) (lk rfl)) rfl (fun w1 hw => l1Int_c _ _ _ _ _ _ _ _ [-1, 0, 3] _ _ 0 _ w1 (hk.hp hw (by simp)) (hw.own _ (.tail _ (.tail _ (.tail _ (.head _))))) (Sl.own' hw (.head _)) (by have h9 := hw.nodup; simp at h9 ⊢; omega) (by simp) (by simp)) (fun _ => rfl) ?_
    rintro ⟨x18, i18, h18⟩ hx18
    simp only at hx18
    refine wl_v rfl (val_move (lk rfl)) ?_
    refine wl_bslice (partsC lkc (partsC lkc (partsC lkc parts0))) (bsl_84_3_0_1_2 _ _ _) rfl fun b3 => ?_
    refine wl_callw 4 rfl ci_62 (args2 (lk rfl) (lk rfl)) rfl (fun w1 hw => l1Int_c _ _ _ _ _ _ _ _ [0, -1, 10000] _ _ 0 _ w1 (hk.hp hw (by simp)) (hw.own _ (.tail _ (.tail _ (.tail _ (.tail _ (.head _)))))) (Sl.own' hw (.head _)) (by have h9 := hw.nodup; simp at h9 ⊢; omega) (by simp) (by simp)) (fun _ => rfl) ?_
    rintro ⟨x21, i21, h21⟩ hx21
    simp only at hx21
    refine wl_v rfl (val_buildP (partsC (lk rfl) parts0) (bl_37_1 _)) ?_
    refine wl_v rfl (val_buildP (partsC (lk rfl) (partsC (lk rfl) (partsC (lk rfl) (partsC (lk rfl) parts0)))) (bl_55_0_1_2_3 _ _ _ _ _ _)) ?_
    refine wl_bslice (partsC (lk rfl) parts0) (bsl_27_1_0 _ _ _ _ _ _) rfl fun b4 => ?_
    refine wl_appendR encW_len (by decide) xs5 [(⟨x12, nth d0I [-1, 0, 4] x15, nth d0I [-1, 0, 3] x18, (0, nth d0I [0, -1, 10000] x21)⟩ : Reg)] 4 es_27 zc_55 rfl eb_55 (lk rfl) rfl hgl5 hgc5 (lk rfl) (fun _ hw => Sl.own' (vs := flat encW [(⟨x12, nth d0I [-1, 0, 4] x15, nth d0I [-1, 0, 3] x18, (0, nth d0I [0, -1, 10000] x21)⟩ : Reg)]) hw (.head _)) (by first | omega | (simp <;> omega)) (by first | omega | (simp <;> omega)) rfl fun a25 ac25 as25 hal25 ham25 => ?_
    refine wl_v rfl (val_assign (lk rfl)) ?_
    refine wl_nil ?_
    refine px_block ?_
    refine px_then ?_
    refine wc_seq ?_
    refine wc_region ?_
    refine wl_v rfl (val_move (lk rfl)) ?_
    refine wl_v rfl (val_assign (lk rfl)) ?_
    refine wl_nil ?_
    refine px_then ?_
    refine wc_ret ?_
    refine fin1 rfl (res_tmp rfl) (fun w1 hw => ?_)
    exact ⟨(⟨xs5 ++ [(⟨x12, nth d0I [-1, 0, 4] x15, nth d0I [-1, 0, 3] x18, (0, nth d0I [0, -1, 10000] x21)⟩ : Reg)], a25, ac25, as25⟩, i21, h21), ⟨⟨hal25, ham25⟩, by show (xs5 ++ [_]).length ≤ 16; simp; omega⟩, rfl, (hw.mask [true, false, false, false, false, true] rfl).sw rfl⟩
  refine wc_seq ?_
  refine wc_region ?_
  refine wl_v rfl (val_eql (lk rfl) lkc) ?_
  refine wl_v rfl (val_assign (lk rfl)) ?_
  refine wl_nil ?_
  refine px_then ?_
  refine wc_cond (lk rfl) (fun hc1 => ?_) (fun hc1 => ?_)
  · refine wc_region ?_
    refine wl_v rfl (val_move (lk rfl)) ?_
    refine wl_v rfl (val_move (lk rfl)) ?_
    refine wl_callx rfl ci_47 (args1 (lk rfl)) (fun w1 hw => sCopyW_c xs5 _ _ _ _ w1 (Sl.own hw (.head _)) (by omega)) (fun _ => rfl) ?_
    rintro ⟨gb30, gc30, gs30⟩ ⟨hgl30, hgc30⟩
    refine wl_appendR encW_len (by decide) xs5 xs5 1 es_27 zc_55 rfl eb_55 (lk rfl) rfl hgl5 hgc5 (lk rfl) (fun _ hw => Sl.own hw (.head _)) (by first | omega | (simp <;> omega)) (by first | omega | (simp <;> omega)) rfl fun a31 ac31 as31 hal31 ham31 => ?_
    refine wl_v rfl (val_assign (lk rfl)) ?_
    refine wl_nil ?_
    refine px_block ?_
    refine px_then ?_
    refine wc_seq ?_
    refine wc_region ?_
    refine wl_v rfl (val_move (lk rfl)) ?_
    refine wl_v rfl (val_assign (lk rfl)) ?_
    refine wl_nil ?_
    refine px_then ?_
    refine wc_ret ?_
    refine fin1 rfl (res_tmp rfl) (fun w1 hw => ?_)
    exact ⟨(⟨xs5 ++ xs5, a31, ac31, as31⟩, i7, h7), ⟨⟨hal31, ham31⟩, by show (xs5 ++ xs5).length ≤ 16; simp; omega⟩, rfl, (hw.mask [true, false, true] rfl).sw rfl⟩
  refine wc_skip ?_
  refine px_block ?_
  refine px_then ?_
  refine wc_seq ?_
  refine wc_region ?_
  refine wl_v rfl (val_move (lk rfl)) ?_
  refine wl_v rfl (val_assign (lk rfl)) ?_
  refine wl_nil ?_
  refine px_then ?_
  refine wc_ret ?_
  refine fin1 rfl (res_tmp rfl) (fun w1 hw => ?_)
  exact ⟨(⟨xs5, gr5, gc5, gs5⟩, i7, h7), ⟨⟨hgl5, hgc5⟩, by show xs5.length ≤ 16; omega⟩, rfl, (hw.mask [true, true] rfl).sw rfl⟩

theorem DrawReg_c (A : Option Addr) (n b o c : Nat) (w : World) (hk : Cod w A n b o) :
    Calls Try.prog 35 #[.slice A n c] w fun e w' => ∃ x : DW, (x.row ∧ okRegs x.xs = true ∧ allT x.xs) ∧ e = .returned x.val ∧ HP w [⟨x.g, true, 55, flat encW x.xs ++ x.sp⟩] w' := by
  refine calls_entry [] _ Try.func35 rfl Try.ntmps35 (HP.refl w) (env1 rfl) ?_
  refine wc_seq ?_
  refine wc_region ?_
  refine wl_v rfl (val_assign lkc) ?_
  refine wl_nil ?_
  refine px_then ?_
  refine wc_seq ?_
  refine wc_region ?_
  refine wl_v rfl (val_move (lk rfl)) ?_
  refine wl_callx rfl ci_49 (args1 (lk rfl)) (fun w1 hw => l1New_c _ _ _ _ _ w1 (hk.hp hw rfl)) (fun _ => rfl) ?_
  rintro ⟨gc5, h5⟩ -
  refine wl_v rfl (val_assign (lk rfl)) ?_
  refine wl_nil ?_
  refine px_then ?_
  refine wc_seq ?_
  refine wc_region ?_
  refine wl_v rfl (val_move (lk rfl)) ?_
  refine wl_callw 0 rfl ci_50 (args1 (lk rfl)) rfl (fun w1 hw => l21Draw_c _ _ _ _ _ _ _ _ w1 (hk.cur hw rfl (.head _)) (hw.own _ (.head _))) (fun _ => rfl) ?_
  rintro ⟨⟨xs7, gr7, gc7, gs7⟩, i7, h7⟩ ⟨⟨hgl7, hgc7⟩, hok7, hal7⟩
  simp only at hgl7 hgc7 hok7 hal7
  have hlen7 := okRegs_len hok7
  refine wl_v rfl (val_assign (lk rfl)) ?_
  refine wl_nil ?_
  refine px_then ?_
  refine wc_ret ?_
  refine fin1 rfl (res_tmp rfl) (fun w1 hw => ?_)
  exact ⟨⟨xs7, gr7, gc7, gs7⟩, ⟨⟨hgl7, hgc7⟩, hok7, hal7⟩, rfl, hw.mask [true, false] rfl⟩

theorem l21Pair_c (A : Option Addr) (n b o c : Nat) (w : World) (hk : Cod w A n b o) :
    Calls Try.prog 51 #[.slice A n c] w fun e w' => ∃ x : DW × (Int × Int) × Int, (x.1.row ∧ x.1.xs.length ≤ 16) ∧ e = .returned (.tuple #[x.1.val, .agg (recV enc2 x.2.1).toArray, .int .i64 x.2.2]) ∧ HP w [⟨x.1.g, true, 55, flat encW x.1.xs ++ x.1.sp⟩] w' := by
  refine calls_entry [] _ Try.func51 rfl Try.ntmps51 (HP.refl w) (env1 rfl) ?_
  refine wc_seq ?_
  refine wc_region ?_
  refine wl_v rfl (val_assign lkc) ?_
  refine wl_alloc zc_29 rfl fun b1 => ?_
  refine wl_v rfl (val_assign lkc) ?_
  refine wl_nil ?_
  refine px_then ?_
  refine wc_seq ?_
  refine wc_region ?_
  refine wl_v rfl (val_move (lk rfl)) ?_
  refine wl_callx rfl ci_49 (args1 (lk rfl)) (fun w1 hw => l1New_c _ _ _ _ _ w1 (hk.hp hw rfl)) (fun _ => rfl) ?_
  rintro ⟨gc9, h9⟩ -
  refine wl_v rfl (val_assign (lk rfl)) ?_
  refine wl_nil ?_
  refine px_then ?_
  refine wc_seq ?_
  refine wc_region ?_
  refine wl_v rfl (val_move (lk rfl)) ?_
  refine wl_callw 0 rfl ci_58 (args1 (lk rfl)) rfl (fun w1 hw => l21Any_c _ _ _ _ _ _ _ _ w1 (hk.cur hw rfl (.head _)) (hw.own _ (.head _))) (fun _ => rfl) ?_
  rintro ⟨⟨xs11, gr11, gc11, gs11⟩, i11, h11⟩ ⟨⟨hgl11, hgc11⟩, hlen11⟩
  simp only at hgl11 hgc11 hlen11
  refine wl_v rfl (val_assign (lk rfl)) ?_
  refine wl_nil ?_
  refine px_then ?_
  refine wc_seq ?_
  refine wc_region ?_
  refine wl_v rfl (val_move (lk rfl)) ?_
  refine wl_callw 1 rfl ci_57 (args1 (lk rfl)) rfl (fun w1 hw => l4Who_c _ _ _ _ _ _ _ _ w1 (hk.cur hw rfl (.tail _ (.head _))) (hw.own _ (.tail _ (.head _)))) (fun _ => rfl) ?_
  rintro ⟨x13, i13, h13⟩ -
  refine wl_alloc zc_29 rfl fun b2 => ?_
  refine wl_storeB 0 rfl (lk rfl) (lk rfl) ag_29 rfl rfl ?_
  refine wl_nil ?_
  refine px_then ?_
  refine wc_seq ?_
  refine wc_seq ?_
  refine wc_region ?_
  refine wl_v rfl (val_move (lk rfl)) ?_
  refine wl_v rfl (val_len es_27 (lk rfl)) ?_
  refine wl_v rfl (val_gtr (lk rfl) lkc) ?_
  refine wl_v rfl (val_move (lk rfl)) ?_
  refine wl_val (gd_t rfl rfl rfl) rfl (val_move (lk rfl)) ?_
  refine wl_callwg 2 (gd_t rfl rfl rfl) rfl ci_56 (args2 (lkg rfl) lkc) rfl ⟨(false, i13, h13), trivial, rfl, rfl⟩ (fun _ w1 hw => l1Once_c _ _ _ _ _ _ _ _ _ w1 (hk.cur hw rfl (.tail _ (.tail _ (.head _)))) (hw.own _ (.tail _ (.tail _ (.head _))))) (fun _ => rfl) ?_
  rintro ⟨x19, i19, h19⟩ -
  refine wl_v rfl (val_and (lk rfl) (lkg rfl)) ?_
  refine wl_nil ?_
  refine px_then ?_
  refine wc_cond (lk rfl) (fun hc0 => ?_) (fun hc0 => ?_)
  · have hpos : 0 < xs11.length := by have h9 : ((0 : Int) < ((xs11.length : Nat) : Int)) := of_decide_eq_true (Bool.and_eq_true _ _ ▸ hc0 : _ ∧ _).1; omega
    refine wc_region ?_
    refine wl_v rfl (val_move (lk rfl)) ?_
    refine wl_v rfl (val_move (lk rfl)) ?_
    refine wl_v rfl (val_move (lk rfl)) ?_
    refine wl_v rfl (val_len es_27 (lk rfl)) ?_
    refine wl_callw 2 rfl ci_53 (args2 (lk rfl) (lk rfl)) rfl (fun w1 hw => l1Below_c _ _ _ _ _ _ _ _ _ w1 (hk.cur hw rfl (.tail _ (.tail _ (.head _)))) (hw.own _ (.tail _ (.tail _ (.head _))))) (fun _ => rfl) ?_
    rintro ⟨x25, i25, h25⟩ hx25
    simp only at hx25
    refine wl_v rfl (val_indexI es_27 (lk rfl) (lk rfl) (fun _ => rfl) (fun _ => ⟨hx25.1, hx25.2.1 (by omega)⟩)) ?_
    refine wl_v rfl (val_field fo_55_0 (lk rfl)) ?_
    refine wl_v rfl (val_loadN (vs := ((recV encW (nth d0W xs11 x25.toNat)).drop 0).take 2) ag_29 (lk rfl) rfl (own_recP (.tail _ (.head _)) encW_len d0W (fun _ => by have := hx25.1; have := hx25.2.1 (by omega); omega))) ?_
    refine wl_storeB 0 rfl (lk rfl) (lk rfl) ag_29 rfl rfl ?_
    refine wl_nil ?_
    refine px_then ?_
    refine wc_seq ?_
    refine wc_region_am [true, true, false, false] 7 mo_ rfl ?_
    refine wa_take 0 rfl (by kernel_rfl) (by kernel_rfl) (by kernel_rfl) (by kernel_rfl) (fun _ h => h.mask [true, true, false, false] rfl) gd_none rfl (val_move (lk rfl)) ?_
    refine wa_take 1 rfl (by kernel_rfl) (by kernel_rfl) (by kernel_rfl) (by kernel_rfl) (fun _ h => h.mask [true, true, false, false] rfl) gd_none rfl (val_loadB (.head _) (lk rfl) ag_29) ?_
    refine wa_take 2 rfl (by kernel_rfl) (by kernel_rfl) (by kernel_rfl) (by kernel_rfl) (fun _ h => h.mask [true, true, false, false] rfl) gd_none rfl (val_move (lk rfl)) ?_
    refine wa_only 3 (by kernel_rfl) rfl ?_
    refine wl_callw 2 rfl ci_53 (args2 (lk rfl) lkc) rfl (fun w1 hw => l1Below_c _ _ _ _ _ _ _ _ _ w1 (hk.cur hw rfl (.tail _ (.tail _ (.head _)))) (hw.own _ (.tail _ (.tail _ (.head _))))) (fun _ => rfl) ?_
    rintro ⟨x32, i32, h32⟩ hx32
    simp only at hx32
    refine wl_nil (px_qn (fun _ h => h.mask [true, true, false, false] rfl) ?_)
    refine wa_take 4 rfl (by kernel_rfl) (by kernel_rfl) (by kernel_rfl) (by kernel_rfl) (fun _ h => h.mask [true, true, false, false] rfl) gd_none rfl (val_assign (lk rfl)) ?_
    refine wa_only 5 (by kernel_rfl) rfl ?_
    refine wl_storeB 3 rfl (lk rfl) (lk rfl) ag_29 rfl rfl ?_
    refine wl_nil (px_qn (fun _ h => h.mask [true, true, false, false] rfl) ?_)
    refine wa_take 6 rfl (by kernel_rfl) (by kernel_rfl) (by kernel_rfl) (by kernel_rfl) (fun _ h => h.mask [true, true, false, false] rfl) gd_none rfl (val_assign (lk rfl)) ?_
    refine wa_done (by kernel_rfl) ?_
    refine px_then ?_
    refine wc_ret ?_
    refine fin3 rfl (res_tmp rfl) (res_cell rfl (.tail _ (.tail _ (.tail _ (.head _)))) ag_29) (res_tmp rfl) (fun w1 hw => ?_)
    exact ⟨(⟨xs11, gr11, gc11, gs11⟩, (nth d0W xs11 x25.toNat).id, x32), ⟨⟨hgl11, hgc11⟩, hlen11⟩, rfl, hw.mask [false, true, false, false] rfl⟩
  refine wc_skip ?_
  refine px_then ?_
  refine wc_seq ?_
  refine wc_region_am [true, true, false, false] 7 mo_ rfl ?_
  refine wa_take 0 rfl (by kernel_rfl) (by kernel_rfl) (by kernel_rfl) (by kernel_rfl) (fun _ h => h.mask [true, true, false, false] rfl) gd_none rfl (val_move (lk rfl)) ?_
  refine wa_take 1 rfl (by kernel_rfl) (by kernel_rfl) (by kernel_rfl) (by kernel_rfl) (fun _ h => h.mask [true, true, false, false] rfl) gd_none rfl (val_loadB (.head _) (lk rfl) ag_29) ?_
  refine wa_take 2 rfl (by kernel_rfl) (by kernel_rfl) (by kernel_rfl) (by kernel_rfl) (fun _ h => h.mask [true, true, false, false] rfl) gd_none rfl (val_move (lk rfl)) ?_
  refine wa_only 3 (by kernel_rfl) rfl ?_
  refine wl_callw 2 rfl ci_53 (args2 (lk rfl) lkc) rfl (fun w1 hw => l1Below_c _ _ _ _ _ _ _ _ _ w1 (hk.cur hw rfl (.tail _ (.tail _ (.head _)))) (hw.own _ (.tail _ (.tail _ (.head _))))) (fun _ => rfl) ?_
  rintro ⟨x32, i32, h32⟩ hx32
  simp only at hx32
  refine wl_nil (px_qn (fun _ h => h.mask [true, true, false, false] rfl) ?_)
  refine wa_take 4 rfl (by kernel_rfl) (by kernel_rfl) (by kernel_rfl) (by kernel_rfl) (fun _ h => h.mask [true, true, false, false] rfl) gd_none rfl (val_assign (lk rfl)) ?_
  refine wa_only 5 (by kernel_rfl) rfl ?_
  refine wl_storeB 3 rfl (lk rfl) (lk rfl) ag_29 rfl rfl ?_
  refine wl_nil (px_qn (fun _ h => h.mask [true, true, false, false] rfl) ?_)
  refine wa_take 6 rfl (by kernel_rfl) (by kernel_rfl) (by kernel_rfl) (by kernel_rfl) (fun _ h => h.mask [true, true, false, false] rfl) gd_none rfl (val_assign (lk rfl)) ?_
  refine wa_done (by kernel_rfl) ?_
  refine px_then ?_
  refine wc_ret ?_
  refine fin3 rfl (res_tmp rfl) (res_cell rfl (.tail _ (.tail _ (.tail _ (.head _)))) ag_29) (res_tmp rfl) (fun w1 hw => ?_)
  exact ⟨(⟨xs11, gr11, gc11, gs11⟩, x13, x32), ⟨⟨hgl11, hgc11⟩, hlen11⟩, rfl, hw.mask [false, true, false, false] rfl⟩

theorem DrawMay_c (A : Option Addr) (n b o c : Nat) (w : World) (hk : Cod w A n b o) :
    Calls Try.prog 36 #[.slice A n c] w fun e w' => ∃ x : DW × (Int × Int) × Int, (x.1.row ∧ x.1.xs.length ≤ 16) ∧ e = .returned (.tuple #[x.1.val, .int .i64 x.2.2, .agg (recV enc2 x.2.1).toArray]) ∧ HP w [⟨x.1.g, true, 55, flat encW x.1.xs ++ x.1.sp⟩] w' := by
  refine calls_entry [] _ Try.func36 rfl Try.ntmps36 (HP.refl w) (env1 rfl) ?_
  refine wc_seq ?_
  refine wc_region ?_
  refine wl_v rfl (val_assign lkc) ?_
  refine wl_v rfl (val_assign lkc) ?_
  refine wl_alloc zc_29 rfl fun b1 => ?_
  refine wl_nil ?_
  refine px_then ?_
  refine wc_seq ?_
  refine wc_region ?_
  refine wl_v rfl (val_move (lk rfl)) ?_
  refine wl_callx rfl ci_51 (args1 (lk rfl)) (fun w1 hw => l21Pair_c _ _ _ _ _ w1 (hk.hp hw rfl)) (fun _ => rfl) ?_
  rintro ⟨⟨xs10, gr10, gc10, gs10⟩, rp10, rn10⟩ ⟨⟨hgl10, hgc10⟩, hlen10⟩
  simp only at hgl10 hgc10 hlen10
  refine wl_v rfl (val_move (lk rfl)) ?_
  refine wl_v rfl (val_extract (lk rfl) rfl) ?_
  refine wl_v rfl (val_extract (lk rfl) rfl) ?_
  refine wl_v rfl (val_extract (lk rfl) rfl) ?_
  refine wl_alloc zc_29 rfl fun b2 => ?_
  refine wl_v rfl (val_assign (lk rfl)) ?_
  refine wl_storeB 0 rfl (lk rfl) (lk rfl) ag_29 rfl rfl ?_
  refine wl_v rfl (val_assign (lk rfl)) ?_
  refine wl_nil ?_
  refine px_then ?_
  refine wc_seq ?_
  refine wc_region_aL 5 6 mo_ rfl ?_
  refine wa_take 0 rfl (by kernel_rfl) (by kernel_rfl) (by kernel_rfl) (by kernel_rfl) (fun _ h => h.dropN 0 rfl) gd_none rfl (val_move (lk rfl)) ?_
  refine wa_take 1 rfl (by kernel_rfl) (by kernel_rfl) (by kernel_rfl) (by kernel_rfl) (fun _ h => h.dropN 0 rfl) gd_none rfl (val_move (lk rfl)) ?_
  refine wa_take 2 rfl (by kernel_rfl) (by kernel_rfl) (by kernel_rfl) (by kernel_rfl) (fun _ h => h.dropN 0 rfl) gd_none rfl (val_loadB (.head _) (lk rfl) ag_29) ?_
  refine wa_take 3 rfl (by kernel_rfl) (by kernel_rfl) (by kernel_rfl) (by kernel_rfl) (fun _ h => h.dropN 0 rfl) gd_none rfl (val_assign (lk rfl)) ?_
  refine wa_take 4 rfl (by kernel_rfl) (by kernel_rfl) (by kernel_rfl) (by kernel_rfl) (fun _ h => h.dropN 0 rfl) gd_none rfl (val_assign (lk rfl)) ?_
  refine wa_only 5 (by kernel_rfl) rfl ?_
  refine wl_storeB 2 rfl (lk rfl) (lk rfl) ag_29 rfl rfl ?_
  refine wl_nil (px_ql ?_)
  refine wa_done (by kernel_rfl) ?_
  refine px_then ?_
  refine wc_ret ?_
  refine fin3 rfl (res_tmp rfl) (res_tmp rfl) (res_cell rfl (.tail _ (.tail _ (.head _))) ag_29) (fun w1 hw => ?_)
  exact ⟨(⟨xs10, gr10, gc10, gs10⟩, rp10, rn10), ⟨⟨hgl10, hgc10⟩, hlen10⟩, rfl, hw.mask [false, true, false] rfl⟩

end Go.Proofs.Ytmjpiihopgckpaa
