/- Texts of subscriptions: the program and the reference, walked. -/
import Derived.Test.YtlejciainnlfeaaDoorSxT
namespace Go.Proofs.YtlejciainnlfeaaDoor
open Go.RowKit


theorem tabG : Tryd.prog.globalNamed "internal/strconv.uint64pow10" = some 1 := by kernel_rfl
abbrev Tab (w : World) : Prop := Lib.TabIs Tryd.prog w "internal/strconv.uint64pow10" .u64 Lib.pow10Tab
theorem Tab.hp {w0 w : World} {bs : List Blk} (h : Tab w0) (hw : HP w0 bs w) (hb : bs.all (·.new) = true) : Tab w := Joins.tab_stays tabG h (hw.below hb) (Nat.le_refl _)
theorem jn_nums {s : Sub} (h : s.fine) : ∀ x ∈ [s.rate, s.best, s.grant], rng x := by
  intro x hx
  simp only [List.mem_cons, List.not_mem_nil, or_false] at hx
  rcases hx with rfl | rfl | rfl
  · exact h.1
  · exact h.2.1
  · exact h.2.2.1
theorem jn_len3 (a b c : Int) (ha : rng a) (hb : rng b) (hc : rng c) : (jn [47] [a, b, c]).length ≤ 66 := by
  have := jn_len [47] (by decide) [a, b, c] (fun x hx => by
    simp only [List.mem_cons, List.not_mem_nil, or_false] at hx
    rcases hx with rfl | rfl | rfl
    · exact ha
    · exact hb
    · exact hc)
  simpa using this
theorem ws_get {xs : List Int} {j : Nat} {x : ByteArray} (h : (xs.map fun n => (⟨(Lib.itoa n).toArray⟩ : ByteArray))[j]? = some x) : (ws xs)[j]? = some (.string x) := by
  rw [List.getElem?_map] at h
  rw [ws, List.getElem?_map]
  cases hx : xs[j]? with
  | none => rw [hx] at h; cases h
  | some n => rw [hx] at h; injection h with h; subst h; rfl
theorem join_at (b1 : Nat) (xs : List Int) (sep : List UInt8) (w : World) (hc : ∀ (j : Nat) (u : Value), (ws xs)[j]? = some u → w.cell? ⟨b1, 0 + j, none⟩ = some u) (hb : b1 < w.heap.size) (hl : xs.length ≤ 2097152) (hr : ∀ x ∈ xs, rng x) (hsp : sep.length ≤ 1) :
    Calls Tryd.prog 16 #[.slice (some ⟨b1, 0, none⟩) xs.length xs.length, .string ⟨sep.toArray⟩] w fun e w' => e = .returned (.string ⟨(jn sep xs).toArray⟩) ∧ HP w [] w' := by
  have e1 : ((xs.map fun n => (⟨(Lib.itoa n).toArray⟩ : ByteArray)).map (·.data.toList)) = xs.map Lib.itoa := by rw [List.map_map]; exact List.map_congr_left fun n _ => by simp
  have e2 : Lib.join ((xs.map fun n => (⟨(Lib.itoa n).toArray⟩ : ByteArray)).map (·.data.toList)) (⟨sep.toArray⟩ : ByteArray).data.toList = jn sep xs := by rw [e1]; rfl
  have h := Tryd.strings_Join b1 0 xs.length (xs.map fun n => (⟨(Lib.itoa n).toArray⟩ : ByteArray)) ⟨sep.toArray⟩ w (fun j x hx => hc j _ (ws_get hx)) hb (by rw [List.length_map]; omega) (by rw [List.length_map]; exact Nat.le_refl _) (by rw [e2]; have := jn_len sep hsp xs hr; omega)
  rw [List.length_map, e2] at h
  exact h.mono fun e w' ⟨h1, h2⟩ => ⟨h1, HP.ofBelow h2⟩

theorem Fmt_c (n : Int) (w : World) (hn : rng n) (ht : Tab w) :
    Calls Tryd.prog 15 #[.int .i64 n] w fun e w' => e = .returned (.string ⟨(Lib.itoa n).toArray⟩) ∧ HP w [] w' := by
  refine calls_entry [] _ Tryd.func15 rfl Tryd.ntmps15 (HP.refl w) (env1 rfl) ?_
  refine wc_seq ?_
  refine wc_region ?_
  refine wl_v rfl (val_assign lkc) ?_
  refine wl_nil ?_
  refine px_then ?_
  refine wc_seq ?_
  refine wc_region ?_
  refine wl_v rfl (val_move (lk rfl)) ?_
  refine wl_call gd_none rfl ci_17 (args1 (lk rfl)) (fun hG w1 hw => Tryd.strconv_Itoa n hn.1 hn.2 w1 (ht.hp hw rfl) |>.mono fun e w2 ⟨he, k, os, hh⟩ => ⟨he, hh ▸ HP.ofGrow w1 k os⟩) ?_
  refine wl_v rfl (val_assign (lk rfl)) ?_
  refine wl_nil ?_
  refine px_then ?_
  refine wc_ret ?_
  refine fin1 rfl (res_tmp rfl) (fun w1 hw => ?_)
  exact ⟨rfl, (hw.drop rfl)⟩

theorem Join_c (xs : List Int) (A : Option Addr) (b o c : Nat) (sep : List UInt8) (w : World) (hs : Sl w A b o (flat encI xs)) (hl : xs.length ≤ 2097152) (hr : ∀ x ∈ xs, rng x) (hsp : sep.length ≤ 1) (ht : Tab w) :
    Calls Tryd.prog 13 #[.slice A xs.length c, .string ⟨(sep).toArray⟩] w fun e w' => e = .returned (.string ⟨(jn sep xs).toArray⟩) ∧ HP w [] w' := by
  refine calls_entry [] _ Tryd.func13 rfl Tryd.ntmps13 (HP.refl w) (env2 rfl) ?_
  refine wc_seq ?_
  refine wc_region ?_
  refine wl_v rfl (val_assign lkc) ?_
  refine wl_nil ?_
  refine px_then ?_
  refine wc_seq ?_
  refine wc_region ?_
  refine wl_v rfl (val_move (lk rfl)) ?_
  refine wl_v rfl (val_len es_22 (lk rfl)) ?_
  refine wl_make es_37 zc_9 eb_9 (by omega) (by omega) (lk rfl) (lk rfl) rfl fun b1 csb1 hcsb1 => ?_
  refine wl_v rfl (val_assign (lk rfl)) ?_
  refine wl_nil ?_
  refine px_then ?_
  refine wc_seq ?_
  refine wc_seq ?_
  refine wc_region ?_
  refine wl_v rfl (val_move (lk rfl)) ?_
  refine wl_v rfl (val_len es_22 (lk rfl)) ?_
  refine wl_v rfl (val_move lkc) ?_
  refine wl_nil ?_
  refine px_then ?_
  refine wc_block ?_
  refine wc_trim (l' := [(1, _), (4, _), (5, _), (11, _), (12, _), (13, _)]) ⟨rfl, rfl, rfl, rfl, rfl, rfl, trivial⟩ ?_
  refine wc_loopl (X := Nat) (fun k => k ≤ xs.length) (fun k => [(13, (true, .int .i64 (k : Nat)))]) (fun k => [⟨b1, true, 9, ws (xs.take k) ++ csb1.drop k⟩]) (fun k => xs.length - k) 0 (Nat.zero_le _) ⟨rfl, rfl, rfl, rfl, rfl, rfl, rfl, trivial⟩ (fun _ h => by simpa [ws] using h) ?_
  intro k hk
  refine wc_seq ?_
  refine wc_region ?_
  refine wl_v rfl (val_lss (lk rfl) (lk rfl)) ?_
  refine wl_nil ?_
  refine px_then ?_
  refine wc_seq ?_
  refine wc_cond (lk rfl) (fun hc0 => ?_) (fun hc0 => ?_)
  · have hlt : k < xs.length := by have := of_decide_eq_true hc0; omega
    have hrk : rng (nth d0I xs k) := by rw [nth_eq hlt]; exact hr _ (List.getElem_mem _)
    have hjl := jn_take_len sep hsp k hr
    have hil := Lib.itoa_length_le _ hrk.1 hrk.2
    refine wc_skip ?_
    refine px_then ?_
    refine wc_seq ?_
    refine wc_block ?_
    refine wc_seq ?_
    refine wc_region ?_
    refine wl_v rfl (val_move (lk rfl)) ?_
    refine wl_v rfl (val_index es_22 (lk rfl) (lk rfl) (fun hG => hs.hd encI_len (by decide) (i := k) (by first | omega | (have h9 := of_decide_eq_true hG; omega) | (simp at hG; omega))) (fun hG => by first | omega | (have h9 := of_decide_eq_true hG; omega) | (simp at hG; omega))) ?_
    refine wl_v rfl (val_load1 t1_3 (lk rfl) (cell_old rfl fun hG => hs.fld encI_len d0I (i := k) (f := 0) (by first | omega | (have h9 := of_decide_eq_true hG; omega) | (simp at hG; omega)) (by decide) rfl)) ?_
    refine wl_v rfl (val_assign (lk rfl)) ?_
    refine wl_v rfl (val_assign (lk rfl)) ?_
    refine wl_nil ?_
    refine px_then ?_
    refine wc_region ?_
    refine wl_v rfl (val_move (lk rfl)) ?_
    refine wl_v rfl (val_move (lk rfl)) ?_
    refine wl_v rfl (val_move (lk rfl)) ?_
    refine wl_call gd_none rfl ci_15 (args1 (lk rfl)) (fun hG w1 hw => Fmt_c (nth d0I xs k) w1 hrk (ht.hp hw rfl)) ?_
    refine wl_v rfl (val_index es_37 (lk rfl) (lk rfl) (fun hG => rfl) (fun hG => hlt)) ?_
    refine wl_store1 0 rfl (lk rfl) (lk rfl) t1_9 rfl (by rw [Nat.blt_eq, List.length_append, ws_len, List.length_take, List.length_drop]; omega) ?_
    refine wl_nil ?_
    refine px_block ?_
    refine px_then ?_
    refine wc_region ?_
    refine wl_v rfl (val_inc (lk rfl) (by omega)) ?_
    refine wl_v rfl (val_move (lk rfl)) ?_
    refine wl_nil ?_
    have hfs := ws_step (cs0 := csb1) hlt (by omega)
    refine px_round (k + 1) (by omega) (by omega) (⟨rfl, rfl, rfl, rfl, rfl, rfl, rfl, trivial⟩) (fun w1 h => by
      have h' : HP w [⟨b1, true, 9, (ws (xs.take k) ++ csb1.drop k).set (0 + k * 1) (.string ⟨(Lib.itoa (nth d0I xs k)).toArray⟩)⟩] w1 := h
      rw [hfs] at h'
      exact h')
  have hge : k = xs.length := by have := of_decide_eq_false hc0; omega
  subst hge
  have hcs9 : csb1.drop xs.length = [] := List.drop_of_length_le (by omega)
  rw [hcs9, List.take_length, List.append_nil]
  refine wc_exit ?_
  refine px_then_exit ?_
  refine px_then_exit ?_
  refine px_block_exit ?_
  refine px_then ?_
  refine wc_seq ?_
  refine wc_region ?_
  refine wl_v rfl (val_move (lk rfl)) ?_
  refine wl_v rfl (val_move (lk rfl)) ?_
  refine wl_call gd_none rfl ci_16 (args2 (lk rfl) (lk rfl)) (fun hG w1 hw => join_at b1 xs sep w1 (fun j u hu => by rw [Nat.zero_add, hw.cell (.head _)]; exact hu) (hw.lt (.head _)) (by omega) hr hsp) ?_
  refine wl_v rfl (val_assign (lk rfl)) ?_
  refine wl_nil ?_
  refine px_then ?_
  refine wc_ret ?_
  refine fin1 rfl (res_tmp rfl) (fun w1 hw => ?_)
  exact ⟨rfl, (hw.drop rfl)⟩

theorem sFS_c (s : Sub) (A : Option Addr) (b o c : Nat) (w : World) (hs : Sl w A b o (flat encI s.nets)) (hl : s.nets.length ≤ 2097152) (hf : s.fine) :
    Calls Tryd.prog 5 #[s.val A c] w fun e w' => e = .returned (.string ⟨(fmtS s).toArray⟩) ∧ HP w [] w' := by
  have h1 := Lib.itoa_length_le _ hf.1.1 hf.1.2
  have h2 := Lib.itoa_length_le _ hf.2.1.1 hf.2.1.2
  have h3 := Lib.itoa_length_le _ hf.2.2.1.1 hf.2.2.1.2
  have h4 := jn_len [44] (by decide) _ hf.2.2.2
  have h5 := jn_len3 _ _ _ hf.1 hf.2.1 hf.2.2.1
  refine calls_entry [] _ Tryd.func5 rfl Tryd.ntmps5 (HP.refl w) (env1 rfl) ?_
  refine wc_seq ?_
  refine wc_region ?_
  refine wl_box (lk rfl) rfl fun b1 => ?_
  refine wl_v rfl (val_assign lkc) ?_
  refine wl_nil ?_
  refine px_then ?_
  refine wc_seq ?_
  refine wc_region_q mo_ (by kernel_rfl) ?_
  refine wq_v rfl (val_field fo_27_0 (lk rfl)) ?_
  refine wq_v rfl (val_load1 t1_3 (lk rfl) (cell_own (.head _) fun _ => rfl)) ?_
  refine wq_call gd_none rfl ci_10 (args1 (lk rfl)) (fun hG w1 hw => sFmt_c s.rate w1 hf.1) ?_
  refine wq_v rfl (val_addS (lk rfl) lkc (by first | omega | (simp only [List.length_cons, List.length_nil, List.length_append]; omega))) ?_
  refine wq_v rfl (val_field fo_27_1 (lk rfl)) ?_
  refine wq_v rfl (val_load1 t1_3 (lk rfl) (cell_own (.head _) fun _ => rfl)) ?_
  refine wq_call gd_none rfl ci_10 (args1 (lk rfl)) (fun hG w1 hw => sFmt_c s.best w1 hf.2.1) ?_
  refine wq_v rfl (val_addS (lk rfl) (lk rfl) (by first | omega | (simp only [List.length_cons, List.length_nil, List.length_append]; omega))) ?_
  refine wq_v rfl (val_addS (lk rfl) lkc (by first | omega | (simp only [List.length_cons, List.length_nil, List.length_append]; omega))) ?_
  refine wq_v rfl (val_field fo_27_2 (lk rfl)) ?_
  refine wq_v rfl (val_load1 t1_3 (lk rfl) (cell_own (.head _) fun _ => rfl)) ?_
  refine wq_call gd_none rfl ci_10 (args1 (lk rfl)) (fun hG w1 hw => sFmt_c s.grant w1 hf.2.2.1) ?_
  refine wq_v rfl (val_addS (lk rfl) (lk rfl) (by first | omega | (simp only [List.length_cons, List.length_nil, List.length_append]; omega))) ?_
  refine wq_v rfl (val_assign (lk rfl)) ?_
  refine wq_nil ?_
  refine px_then ?_
  refine wc_seq ?_
  refine wc_seq ?_
  refine wc_region ?_
  refine wl_v rfl (val_field fo_27_3 (lk rfl)) ?_
  refine wl_v rfl (val_load1 t1_22 (lk rfl) (cell_own (.head _) fun _ => rfl)) ?_
  refine wl_v rfl (val_len es_22 (lk rfl)) ?_
  refine wl_v rfl (val_gtr (lk rfl) lkc) ?_
  refine wl_nil ?_
  refine px_then ?_
  refine wc_cond (lk rfl) (fun hc0 => ?_) (fun hc0 => ?_)
  · refine wc_region ?_
    refine wl_v rfl (val_move (lk rfl)) ?_
    refine wl_v rfl (val_addS (lk rfl) lkc (by first | omega | (simp only [List.length_cons, List.length_nil, List.length_append]; omega))) ?_
    refine wl_v rfl (val_field fo_27_3 (lk rfl)) ?_
    refine wl_v rfl (val_load1 t1_22 (lk rfl) (cell_own (.head _) fun _ => rfl)) ?_
    refine wl_call gd_none rfl ci_11 (args2 (lk rfl) lkc) (fun hG w1 hw => sInts_c s.nets _ _ _ _ [44] w1 (hs.hp hw rfl) (by omega) hf.2.2.2 (by decide)) ?_
    refine wl_v rfl (val_addS (lk rfl) (lk rfl) (by first | omega | (simp only [List.length_cons, List.length_nil, List.length_append]; omega))) ?_
    refine wl_v rfl (val_assign (lk rfl)) ?_
    refine wl_nil ?_
    refine px_then ?_
    refine wc_seq ?_
    refine wc_region ?_
    refine wl_v rfl (val_move (lk rfl)) ?_
    refine wl_v rfl (val_assign (lk rfl)) ?_
    refine wl_nil ?_
    refine px_then ?_
    refine wc_ret ?_
    refine fin1 rfl (res_tmp rfl) (fun w1 hw => ?_)
    exact ⟨by have h9 := of_decide_eq_true hc0; rw [fmtS, if_pos (by omega)]; try simp [jn3, List.append_assoc], hw.drop rfl⟩
  refine wc_skip ?_
  refine px_then ?_
  refine wc_seq ?_
  refine wc_region ?_
  refine wl_v rfl (val_move (lk rfl)) ?_
  refine wl_v rfl (val_assign (lk rfl)) ?_
  refine wl_nil ?_
  refine px_then ?_
  refine wc_ret ?_
  refine fin1 rfl (res_tmp rfl) (fun w1 hw => ?_)
  exact ⟨by have h9 := of_decide_eq_false hc0; rw [fmtS, if_neg (by omega)]; try simp [jn3, List.append_assoc], hw.drop rfl⟩

theorem FS_c (s : Sub) (A : Option Addr) (b o c : Nat) (w : World) (hs : Sl w A b o (flat encI s.nets)) (hl : s.nets.length ≤ 2097152) (hf : s.fine) (ht : Tab w) :
    Calls Tryd.prog 7 #[s.val A c] w fun e w' => e = .returned (.string ⟨(fmtS s).toArray⟩) ∧ HP w [] w' := by
  have h1 := Lib.itoa_length_le _ hf.1.1 hf.1.2
  have h2 := Lib.itoa_length_le _ hf.2.1.1 hf.2.1.2
  have h3 := Lib.itoa_length_le _ hf.2.2.1.1 hf.2.2.1.2
  have h4 := jn_len [44] (by decide) _ hf.2.2.2
  have h5 := jn_len3 _ _ _ hf.1 hf.2.1 hf.2.2.1
  refine calls_entry [] _ Tryd.func7 rfl Tryd.ntmps7 (HP.refl w) (env1 rfl) ?_
  refine wc_seq ?_
  refine wc_region ?_
  refine wl_box (lk rfl) rfl fun b1 => ?_
  refine wl_v rfl (val_assign lkc) ?_
  refine wl_nil ?_
  refine px_then ?_
  refine wc_seq ?_
  refine wc_region ?_
  refine wl_v rfl (val_field fo_27_0 (lk rfl)) ?_
  refine wl_v rfl (val_load1 t1_3 (lk rfl) (cell_own (.head _) fun _ => rfl)) ?_
  refine wl_v rfl (val_field fo_27_1 (lk rfl)) ?_
  refine wl_v rfl (val_load1 t1_3 (lk rfl) (cell_own (.head _) fun _ => rfl)) ?_
  refine wl_v rfl (val_field fo_27_2 (lk rfl)) ?_
  refine wl_v rfl (val_load1 t1_3 (lk rfl) (cell_own (.head _) fun _ => rfl)) ?_
  refine wl_bslice (partsC (lk rfl) (partsC (lk rfl) (partsC (lk rfl) parts0))) (bsl_22_3_0_1_2 _ _ _) rfl fun b2 => ?_
  refine wl_call gd_none rfl ci_13 (args2 (lk rfl) lkc) (fun hG w1 hw => Join_c [s.rate, s.best, s.grant] _ _ 0 _ [47] w1 (Sl.own' (vs := flat encI [s.rate, s.best, s.grant]) hw (.head _)) (by simp) (jn_nums hf) (by decide) (ht.hp hw rfl)) ?_
  refine wl_v rfl (val_assign (lk rfl)) ?_
  refine wl_nil ?_
  refine px_then ?_
  refine wc_seq ?_
  refine wc_seq ?_
  refine wc_region ?_
  refine wl_v rfl (val_field fo_27_3 (lk rfl)) ?_
  refine wl_v rfl (val_load1 t1_22 (lk rfl) (cell_own (.tail _ (.head _)) fun _ => rfl)) ?_
  refine wl_v rfl (val_len es_22 (lk rfl)) ?_
  refine wl_v rfl (val_gtr (lk rfl) lkc) ?_
  refine wl_nil ?_
  refine px_then ?_
  refine wc_cond (lk rfl) (fun hc0 => ?_) (fun hc0 => ?_)
  · refine wc_region ?_
    refine wl_v rfl (val_move (lk rfl)) ?_
    refine wl_v rfl (val_field fo_27_3 (lk rfl)) ?_
    refine wl_v rfl (val_load1 t1_22 (lk rfl) (cell_own (.tail _ (.head _)) fun _ => rfl)) ?_
    refine wl_call gd_none rfl ci_13 (args2 (lk rfl) lkc) (fun hG w1 hw => Join_c s.nets _ _ _ _ [44] w1 (hs.hp hw rfl) (by omega) hf.2.2.2 (by decide) (ht.hp hw rfl)) ?_
    refine wl_v rfl (val_addS lkc (lk rfl) (by first | omega | (simp only [List.length_cons, List.length_nil, List.length_append]; omega))) ?_
    refine wl_v rfl (val_addS (lk rfl) (lk rfl) (by first | omega | (simp only [List.length_cons, List.length_nil, List.length_append]; omega))) ?_
    refine wl_v rfl (val_assign (lk rfl)) ?_
    refine wl_nil ?_
    refine px_then ?_
    refine wc_seq ?_
    refine wc_region ?_
    refine wl_v rfl (val_move (lk rfl)) ?_
    refine wl_v rfl (val_assign (lk rfl)) ?_
    refine wl_nil ?_
    refine px_then ?_
    refine wc_ret ?_
    refine fin1 rfl (res_tmp rfl) (fun w1 hw => ?_)
    exact ⟨by have h9 := of_decide_eq_true hc0; rw [fmtS, if_pos (by omega)]; try simp [jn3, List.append_assoc], hw.drop rfl⟩
  refine wc_skip ?_
  refine px_then ?_
  refine wc_seq ?_
  refine wc_region ?_
  refine wl_v rfl (val_move (lk rfl)) ?_
  refine wl_v rfl (val_assign (lk rfl)) ?_
  refine wl_nil ?_
  refine px_then ?_
  refine wc_ret ?_
  refine fin1 rfl (res_tmp rfl) (fun w1 hw => ?_)
  exact ⟨by have h9 := of_decide_eq_false hc0; rw [fmtS, if_neg (by omega)]; try simp [jn3, List.append_assoc], hw.drop rfl⟩

theorem law_FormatSubscription (s : Sub) (A : Option Addr) (b o c : Nat) (w : World) (hs : Sl w A b o (flat encI s.nets)) (hm : s.nets.length ≤ 9223372036854775807) (hf : s.fine) (ht : Tab w) :
    Calls Tryd.prog 3 #[s.val A c] w fun e w' => e = .returned (.bool true) ∧ HP w [] w' := by
  refine calls_entry [] _ Tryd.func3 rfl Tryd.ntmps3 (HP.refl w) (env1 rfl) ?_
  refine wc_seq ?_
  refine wc_region ?_
  refine wl_box (lk rfl) rfl fun b1 => ?_
  refine wl_v rfl (val_assign lkc) ?_
  refine wl_nil ?_
  refine px_then ?_
  refine wc_seq ?_
  refine wc_region ?_
  refine wl_v rfl (val_assign lkc) ?_
  refine wl_nil ?_
  refine px_then ?_
  refine wc_seq ?_
  refine wc_region ?_
  refine wl_v rfl (val_loadB (.head _) (lk rfl) ag_24) ?_
  refine wl_v rfl (val_move (lk rfl)) ?_
  refine wl_call gd_none rfl ci_4 (args2 (lk rfl) (lk rfl)) (fun hG w1 hw => szSub_c s _ _ _ w1 (by omega) (by omega)) ?_
  refine wl_v rfl (val_assign (lk rfl)) ?_
  refine wl_nil ?_
  refine px_then ?_
  refine wc_seq ?_
  refine wc_seq ?_
  refine wc_region ?_
  refine wl_v rfl (val_move (lk rfl)) ?_
  refine wl_v rfl (val_lss (lk rfl) lkc) ?_
  refine wl_nil ?_
  refine px_then ?_
  refine wc_cond (lk rfl) (fun hc0 => ?_) (fun hc0 => ?_)
  · refine wc_seq ?_
    refine wc_region ?_
    refine wl_v rfl (val_assign lkc) ?_
    refine wl_nil ?_
    refine px_then ?_
    refine wc_ret ?_
    refine px_then_ret ?_
    refine fin1 rfl (res_tmp rfl) (fun w1 hw => ?_)
    first | exact ⟨rfl, hw.drop rfl⟩ | (exfalso; revert hc0; simp; done) | (exfalso; revert hc0; simp; omega) | (exfalso; revert hc0; rw [Sub.eqb_refl]; simp; done) | (exfalso; revert hc0; rw [eqRows_refl eqB_refl]; simp; done) | (exfalso; revert hc0; rw [eqRows_refl eqB_refl]; simp; omega) | (exfalso; revert hc0; rw [eqB_refl]; simp; done) | (exfalso; have h9 := of_decide_eq_true hc0; omega)
  have hl : s.nets.length ≤ 1048576 := by have h9 := of_decide_eq_false hc0; unfold szN at h9; split at h9 <;> omega
  refine wc_skip ?_
  refine px_then ?_
  refine wc_seq ?_
  refine wc_region ?_
  refine wl_v rfl (val_loadB (.head _) (lk rfl) ag_24) ?_
  refine wl_callx rfl ci_6 (args1 (lk rfl)) (fun w1 hw => toSub_c _ _ _ _ _ w1 (hs.hp hw rfl) (by omega)) (fun _ => rfl) ?_
  rintro ⟨gb13, gc13, gs13⟩ ⟨hgl13, hgc13⟩
  refine wl_call gd_none rfl ci_5 (args1 (lk rfl)) (fun hG w1 hw => sFS_c s _ _ _ _ w1 (Sl.own hw (.head _)) (by omega) hf) ?_
  refine wl_v rfl (val_assign (lk rfl)) ?_
  refine wl_nil ?_
  refine px_then ?_
  refine wc_seq ?_
  refine wc_region ?_
  refine wl_v rfl (val_loadB (.tail _ (.head _)) (lk rfl) ag_24) ?_
  refine wl_callx rfl ci_6 (args1 (lk rfl)) (fun w1 hw => toSub_c _ _ _ _ _ w1 (hs.hp hw rfl) (by omega)) (fun _ => rfl) ?_
  rintro ⟨gb16, gc16, gs16⟩ ⟨hgl16, hgc16⟩
  refine wl_alloc zc_27 rfl fun b2 => ?_
  refine wl_storeB 0 rfl (lk rfl) (lk rfl) ag_27 rfl rfl ?_
  refine wl_nil ?_
  refine px_then ?_
  refine wc_seq ?_
  refine wc_region ?_
  refine wl_v rfl (val_loadB (.head _) (lk rfl) ag_27) ?_
  refine wl_call gd_none rfl ci_7 (args1 (lk rfl)) (fun hG w1 hw => FS_c s _ _ _ _ w1 (Sl.own hw (.tail _ (.head _))) (by omega) hf (ht.hp hw rfl)) ?_
  refine wl_v rfl (val_assign (lk rfl)) ?_
  refine wl_nil ?_
  refine px_then ?_
  refine wc_seq ?_
  refine wc_seq ?_
  refine wc_region ?_
  refine wl_v rfl (val_move (lk rfl)) ?_
  refine wl_v rfl (val_move (lk rfl)) ?_
  refine wl_v rfl (val_neqT (lk rfl) (lk rfl)) ?_
  refine wl_nil ?_
  refine px_then ?_
  refine wc_cond (lk rfl) (fun hc1 => ?_) (fun hc1 => ?_)
  · refine wc_seq ?_
    refine wc_region ?_
    refine wl_v rfl (val_assign lkc) ?_
    refine wl_nil ?_
    refine px_then ?_
    refine wc_ret ?_
    refine px_then_ret ?_
    refine fin1 rfl (res_tmp rfl) (fun w1 hw => ?_)
    first | exact ⟨rfl, hw.drop rfl⟩ | (exfalso; revert hc1; simp; done) | (exfalso; revert hc1; simp; omega) | (exfalso; revert hc1; rw [Sub.eqb_refl]; simp; done) | (exfalso; revert hc1; rw [eqRows_refl eqB_refl]; simp; done) | (exfalso; revert hc1; rw [eqRows_refl eqB_refl]; simp; omega) | (exfalso; revert hc1; rw [eqB_refl]; simp; done) | (exfalso; have h9 := of_decide_eq_true hc1; omega)
  refine wc_skip ?_
  refine px_then ?_
  refine wc_seq ?_
  refine wc_seq ?_
  refine wc_region_a0 5 mo_ rfl ?_
  refine wa_take 0 rfl (by kernel_rfl) (by kernel_rfl) (by kernel_rfl) (by kernel_rfl) (fun _ h => h.dropN 0 rfl) gd_none rfl (val_loadB (.head _) (lk rfl) ag_27) ?_
  refine wa_take 1 rfl (by kernel_rfl) (by kernel_rfl) (by kernel_rfl) (by kernel_rfl) (fun _ h => h.dropN 0 rfl) gd_none rfl (val_loadB (.tail _ (.tail _ (.tail _ (.head _)))) (lk rfl) ag_24) ?_
  refine wa_only 2 (by kernel_rfl) rfl ?_
  refine wl_callx rfl ci_6 (args1 (lk rfl)) (fun w1 hw => toSub_c _ _ _ _ _ w1 (hs.hp hw rfl) (by omega)) (fun _ => rfl) ?_
  rintro ⟨gb24, gc24, gs24⟩ ⟨hgl24, hgc24⟩
  refine wl_nil (px_qn (fun _ h => h.dropN 1 rfl) ?_)
  refine wa_only 3 (by kernel_rfl) rfl ?_
  refine wl_call gd_none rfl ci_8 (args2 (lk rfl) (lk rfl)) (fun hG w1 hw => eqSub_c _ _ _ _ _ _ _ _ _ _ w1 (Sl.own hw (.tail _ (.tail _ (.head _)))) (Sl.own hw (.head _)) (by omega)) ?_
  refine wl_nil (px_qn (fun _ h => h.dropN 1 rfl) ?_)
  refine wa_take 4 rfl (by kernel_rfl) (by kernel_rfl) (by kernel_rfl) (by kernel_rfl) (fun _ h => h.dropN 1 rfl) gd_none rfl (val_not (lk rfl)) ?_
  refine wa_done (by kernel_rfl) ?_
  refine px_then ?_
  refine wc_cond (lk rfl) (fun hc2 => ?_) (fun hc2 => ?_)
  · refine wc_seq ?_
    refine wc_region ?_
    refine wl_v rfl (val_assign lkc) ?_
    refine wl_nil ?_
    refine px_then ?_
    refine wc_ret ?_
    refine px_then_ret ?_
    refine fin1 rfl (res_tmp rfl) (fun w1 hw => ?_)
    first | exact ⟨rfl, hw.drop rfl⟩ | (exfalso; revert hc2; simp; done) | (exfalso; revert hc2; simp; omega) | (exfalso; revert hc2; rw [Sub.eqb_refl]; simp; done) | (exfalso; revert hc2; rw [eqRows_refl eqB_refl]; simp; done) | (exfalso; revert hc2; rw [eqRows_refl eqB_refl]; simp; omega) | (exfalso; revert hc2; rw [eqB_refl]; simp; done) | (exfalso; have h9 := of_decide_eq_true hc2; omega)
  refine wc_skip ?_
  refine px_then ?_
  refine wc_seq ?_
  refine wc_region ?_
  refine wl_v rfl (val_assign lkc) ?_
  refine wl_nil ?_
  refine px_then ?_
  refine wc_ret ?_
  refine fin1 rfl (res_tmp rfl) (fun w1 hw => ?_)
  first | exact ⟨rfl, hw.drop rfl⟩ | (exfalso; revert hc2; simp; done) | (exfalso; revert hc2; simp; omega) | (exfalso; revert hc2; rw [Sub.eqb_refl]; simp; done) | (exfalso; revert hc2; rw [eqRows_refl eqB_refl]; simp; done) | (exfalso; revert hc2; rw [eqRows_refl eqB_refl]; simp; omega) | (exfalso; revert hc2; rw [eqB_refl]; simp; done) | (exfalso; have h9 := of_decide_eq_true hc2; omega)

end Go.Proofs.YtlejciainnlfeaaDoor
