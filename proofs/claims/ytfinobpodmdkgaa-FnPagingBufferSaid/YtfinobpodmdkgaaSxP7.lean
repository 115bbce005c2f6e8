/- Paging buffers: the law on draws, walked. -/
import Derived.Test.YtfinobpodmdkgaaSxO
namespace Go.Proofs.Ytfinobpodmdkgaa
open Go.RowKit


theorem eqP7 (ps : PS) : eqRows eqB ps ps = true := eqRows_refl eqB_refl ps
theorem Pay.own2 {w0 w : World} {bs : List Blk} {g ja jb m : Nat} {nw : Bool} {t : TypeId} {ps : PS} {da db : List Inn} {sp : List Value} {Ds : List (List Inn)} (hw : HP w0 bs w) (hm : (⟨g, nw, t, inC da ++ inC db ++ sp⟩ : Blk) ∈ bs) (hbs : bs.drop m = inT Ds) (hja : Ds[ja]? = some da) (hjb : Ds[jb]? = some db) (hp : pays da ++ pays db = ps) : Pay w (some ⟨g, 0, none⟩) g 0 ps := by
  subst hp
  have hall : ∀ e ∈ inB (da ++ db), e ∈ bs := fun e he => by
    rw [inB, List.map_append] at he
    rcases List.mem_append.1 he with h1 | h1
    · exact drop_mem hbs hja e h1
    · exact drop_mem hbs hjb e h1
  have e0 : pays da ++ pays db = pays (da ++ db) := by simp [pays]
  have e2 : inC da ++ inC db = inC (da ++ db) := by simp [inC]
  rw [e0]
  rw [e2] at hm
  generalize da ++ db = ds at *
  refine ⟨fun _ => rfl, fun k hk => ?_⟩
  have hk2 : k < ds.length := by rwa [pays_len] at hk
  have e1 : nth [] (pays ds) k = (ds[k]).xs := by rw [nth_eq hk]; simp [pays]
  refine ⟨some ⟨(ds[k]).d, 0, none⟩, (ds[k]).d, 0, (ds[k]).c, ?_, ?_⟩
  · rw [hw.cell hm, Nat.zero_add, Nat.mul_one, List.getElem?_append_left (by rw [inC_len]; exact hk2), e1]
    simp [inC, hk2, Inn.cell]
  · rw [e1]
    exact Sl.own (nw := true) (t := 5) (sp := (ds[k]).sp) hw (hall _ (List.mem_map.2 ⟨ds[k], List.getElem_mem _, rfl⟩))
theorem pb_no {q dr : Int} {ps : PS} {xs : List Int} (h : (!okBuf q ps dr) = true) : (q == q && (enq q ps dr xs).2 == dr && eqRows eqB (enq q ps dr xs).1 ps) = true := by
  have h1 : enq q ps dr xs = (ps, dr) := by
    unfold enq
    rw [if_neg]
    intro h2
    rw [Bool.and_eq_true] at h2
    rw [h2.1] at h
    cases h
  rw [h1]
  simp [eqP7]
theorem enq_ge (q dr : Int) (ps : PS) (xs : List Int) : ps.length ≤ (enq q ps dr xs).1.length := by
  unfold enq
  split
  · split
    · simp
    · exact Nat.le_refl _
  · exact Nat.le_refl _
theorem pb_mid {ps' ps : PS} {s : Int} (h1 : ((ps'.length : Nat) : Int) = IntKind.i64.wrap (((ps.length : Nat) : Int) + s)) (h2 : ps'.take ps.length = ps) : ((((ps'.length : Nat) : Int) != IntKind.i64.wrap (((ps.length : Nat) : Int) + s)) || !eqRows eqB (ps'.take ps.length) ps || !eqRows eqB ps' ps') = false := by
  rw [h1, h2]; simp [eqP7]
theorem fitP_snoc {ps : PS} {xs : List Int} (h : fitP ps = true) (hx : xs.length ≤ 60) : fitP (ps ++ [xs]) = true := by
  rw [fitP, List.all_append]
  rw [fitP] at h
  simp [h, hx]
theorem okBuf_iff (q dr : Int) (ps : PS) : okBuf q ps dr = true ↔ (0 ≤ q ∧ q ≤ 12) ∧ (ps.length : Int) ≤ q ∧ fitP ps = true ∧ 0 ≤ dr := by
  simp [okBuf, inRange, and_assoc]
theorem pbw0 {ps : PS} (h : ps.length ≤ 1000) : ((ps.length : Nat) : Int) = IntKind.i64.wrap (((ps.length : Nat) : Int) + 0) := by rw [wrap64_in' (by omega)]; omega
theorem pbw1 {ps : PS} {xs : List Int} (h : ps.length ≤ 1000) : (((ps ++ [xs]).length : Nat) : Int) = IntKind.i64.wrap (((ps.length : Nat) : Int) + 1) := by rw [wrap64_in' (by omega), List.length_append]; simp
theorem pbd1 {d : Int} (h : -1 ≤ d ∧ d ≤ 8) : d = IntKind.i64.wrap (IntKind.i64.wrap (d + 1) - 1) := by rw [wrap64_in' (i := d + 1) (by omega), wrap64_in' (by omega)]; omega
theorem pbd0 {d : Int} (h : -1 ≤ d ∧ d ≤ 8) : IntKind.i64.wrap (d + 1) = IntKind.i64.wrap (IntKind.i64.wrap (d + 1) - 0) := by rw [wrap64_in' (i := d + 1) (by omega), wrap64_in' (by omega)]; omega
theorem pbt1 {ps : PS} {xs : List Int} (h : tot ps ≤ 1000) (hx : xs.length = 2) : ((tot (ps ++ [xs]) : Nat) : Int) = IntKind.i64.wrap (((tot ps : Nat) : Int) + IntKind.i64.wrap (2 * 1)) := by
  rw [wrap64_in' (i := 2 * 1) (by omega), wrap64_in' (by omega), tot_append, tot, tot, hx]; omega
theorem pbt0 {ps : PS} (h : tot ps ≤ 1000) : ((tot ps : Nat) : Int) = IntKind.i64.wrap (((tot ps : Nat) : Int) + IntKind.i64.wrap (2 * 0)) := by
  rw [wrap64_in' (i := 2 * 0) (by omega), wrap64_in' (by omega)]; omega
theorem pbk {q dr : Int} {ps : PS} {xs : List Int} (h : okBuf q ps dr = true) (hq : (ps.length : Int) < q) (hx : xs.length ≤ 60) : okBuf q (ps ++ [xs]) dr = true := by
  have h2 := (okBuf_iff _ _ _).1 h
  exact (okBuf_iff _ _ _).2 ⟨h2.1, by rw [List.length_append]; simp; omega, fitP_snoc h2.2.2.1 hx, h2.2.2.2⟩
theorem pbk0 {q dr : Int} {ps : PS} (h : okBuf q ps dr = true) (hd : dr ≤ 8) : okBuf q ps (IntKind.i64.wrap (dr + 1)) = true := by
  have h2 := (okBuf_iff _ _ _).1 h
  exact (okBuf_iff _ _ _).2 ⟨h2.1, h2.2.1, h2.2.2.1, by rw [wrap64_in' (by omega)]; omega⟩
theorem pbn {q dr : Int} {ps : PS} (h : okBuf q ps dr = true) : okBuf q [] dr = true := by
  have h2 := (okBuf_iff _ _ _).1 h
  exact (okBuf_iff _ _ _).2 ⟨h2.1, h2.1.1, rfl, h2.2.2.2⟩
theorem and6 {a b c d e f : Bool} (ha : a = true) (hb : b = true) (hc : c = true) (hd : d = true) (he : e = true) (hf : f = true) : (a && b && c && d && e && f) = true := by simp [ha, hb, hc, hd, he, hf]

theorem sameBytes_c (xs ys : List Int) (A B : Option Addr) (b o c b2 o2 c2 : Nat) (w : World) (hs : Sl w A b o (bv xs)) (hs2 : Sl w B b2 o2 (bv ys)) (hl : xs.length ≤ 2097152) :
    Calls Try.prog 52 #[.slice A xs.length c, .slice B ys.length c2] w fun e w' => e = .returned (.bool (eqB xs ys)) ∧ HP w [] w' := by
  refine calls_entry [] _ Try.func52 rfl Try.ntmps52 (HP.refl w) (env2 rfl) ?_
  refine wc_seq ?_
  refine wc_region ?_
  refine wl_v rfl (val_assign lkc) ?_
  refine wl_nil ?_
  refine px_then ?_
  refine wc_seq ?_
  refine wc_seq ?_
  refine wc_region ?_
  refine wl_v rfl (val_move (lk rfl)) ?_
  refine wl_v rfl (val_len es_42 (lk rfl)) ?_
  refine wl_v rfl (val_move (lk rfl)) ?_
  refine wl_v rfl (val_len es_42 (lk rfl)) ?_
  refine wl_v rfl (val_neq (lk rfl) (lk rfl)) ?_
  refine wl_nil ?_
  refine px_then ?_
  refine wc_cond (lk rfl) (fun hc0 => ?_) (fun hc0 => ?_)
  · refine wc_seq ?_
    refine wc_region ?_
    refine wl_v rfl (val_assign lkc) ?_
    refine wl_nil ?_
    refine px_then ?_
    refine wc_ret ?_
    refine px_then_ret ?_
    refine fin1 rfl (res_tmp rfl) (fun w1 hw => ?_)
    exact ⟨by rw [eqB, eqRows_ne (cast_ne' hc0)], hw.drop rfl⟩
  have hxy : xs.length = ys.length := cast_ne hc0
  refine wc_skip ?_
  refine px_then ?_
  refine wc_seq ?_
  refine wc_seq ?_
  refine wc_region ?_
  refine wl_v rfl (val_assign lkc) ?_
  refine wl_nil ?_
  refine px_then ?_
  refine wc_block ?_
  refine wc_trim (l' := [(0, _), (1, _), (4, _), (5, _)]) ⟨rfl, rfl, rfl, rfl, trivial⟩ ?_
  refine wc_loop0 (X := Nat) (fun k => k ≤ xs.length ∧ eqRows eq8 (xs.drop k) (ys.drop k) = eqB xs ys) (fun k => [(5, (true, .int .i64 (k : Nat)))]) (fun k => xs.length - k) 0 (⟨Nat.zero_le _, rfl⟩) ⟨rfl, rfl, rfl, rfl, rfl, trivial⟩ ?_
  rintro k ⟨hk, ht⟩
  refine wc_seq ?_
  refine wc_seq ?_
  refine wc_region ?_
  refine wl_v rfl (val_move (lk rfl)) ?_
  refine wl_v rfl (val_move (lk rfl)) ?_
  refine wl_v rfl (val_len es_42 (lk rfl)) ?_
  refine wl_v rfl (val_lss (lk rfl) (lk rfl)) ?_
  refine wl_nil ?_
  refine px_then ?_
  refine wc_cond (lk rfl) (fun hc1 => ?_) (fun hc1 => ?_)
  · have hlt : k < xs.length := by have := of_decide_eq_true hc1; omega
    have hlt2 : k < ys.length := by omega
    refine wc_skip ?_
    refine px_then ?_
    refine wc_seq ?_
    refine wc_block ?_
    refine wc_seq ?_
    refine wc_region_q mo_ (by kernel_rfl) ?_
    refine wq_v rfl (val_move (lk rfl)) ?_
    refine wq_v rfl (val_move (lk rfl)) ?_
    refine wq_v rfl (val_index es_42 (lk rfl) (lk rfl) (fun hG => bv_head hs hlt) (fun hG => hlt)) ?_
    refine wq_v rfl (val_load1 t1_5 (lk rfl) (cell_old rfl fun _ => bv_cell hs hlt)) ?_
    refine wq_v rfl (val_move (lk rfl)) ?_
    refine wq_v rfl (val_move (lk rfl)) ?_
    refine wq_v rfl (val_index es_42 (lk rfl) (lk rfl) (fun hG => bv_head hs2 hlt2) (fun hG => hlt2)) ?_
    refine wq_v rfl (val_load1 t1_5 (lk rfl) (cell_old rfl fun _ => bv_cell hs2 hlt2)) ?_
    refine wq_v rfl (val_neq (lk rfl) (lk rfl)) ?_
    refine wq_nil ?_
    refine px_then ?_
    refine wc_cond (lk rfl) (fun hc2 => ?_) (fun hc2 => ?_)
    · refine wc_seq ?_
      refine wc_region ?_
      refine wl_v rfl (val_assign lkc) ?_
      refine wl_nil ?_
      refine px_then ?_
      refine wc_ret ?_
      refine px_block_ret ?_
      refine px_then_ret ?_
      refine px_then_ret ?_
      refine px_block_ret ?_
      refine px_then_ret ?_
      refine fin1 rfl (res_tmp rfl) (fun w1 hw => ?_)
      exact ⟨by rw [← ht, eqRows_step (d := (0 : Int)) hlt (by omega), show eq8 (nth 0 xs k) (nth 0 ys k) = false by simpa [eq8] using hc2]; rfl, hw.drop rfl⟩
    refine wc_skip ?_
    refine px_block ?_
    refine px_then ?_
    refine wc_region ?_
    refine wl_v rfl (val_move (lk rfl)) ?_
    refine wl_v rfl (val_inc (lk rfl) (by omega)) ?_
    refine wl_v rfl (val_assign (lk rfl)) ?_
    refine wl_nil ?_
    refine px_round0 (k + 1) (⟨by omega, by rw [← ht, eqRows_step (d := (0 : Int)) hlt (by omega)]; simp at hc2; rw [hc2, eq8_refl]; rfl⟩) (by omega) (⟨rfl, rfl, rfl, rfl, rfl, trivial⟩) (fun _ h => h.dropN 0 rfl)
  have hge : k = xs.length := by have := of_decide_eq_false hc1; omega
  subst hge
  refine wc_exit ?_
  refine px_then_exit ?_
  refine px_then_exit ?_
  refine px_block_exit ?_
  refine px_then ?_
  refine wc_seq ?_
  refine wc_region ?_
  refine wl_v rfl (val_assign lkc) ?_
  refine wl_nil ?_
  refine px_then ?_
  refine wc_ret ?_
  refine fin1 rfl (res_tmp rfl) (fun w1 hw => ?_)
  have e1 : xs.drop xs.length = [] := by simp
  have e2 : ys.drop xs.length = [] := by simp [hxy]
  exact ⟨by rw [← ht, e1, e2]; rfl, hw.drop rfl⟩

theorem samePays_c (ps qs : PS) (A B : Option Addr) (b o c b2 o2 c2 : Nat) (w : World) (hA : Pay w A b o ps) (hB : Pay w B b2 o2 qs) (hb : ps.length + tot ps ≤ 2097152) :
    Calls Try.prog 30 #[.slice A ps.length c, .slice B qs.length c2] w fun e w' => e = .returned (.bool (eqRows eqB ps qs)) ∧ HP w [] w' := by
  refine calls_entry [] _ Try.func30 rfl Try.ntmps30 (HP.refl w) (env2 rfl) ?_
  refine wc_seq ?_
  refine wc_region ?_
  refine wl_v rfl (val_assign lkc) ?_
  refine wl_nil ?_
  refine px_then ?_
  refine wc_seq ?_
  refine wc_seq ?_
  refine wc_region ?_
  refine wl_v rfl (val_move (lk rfl)) ?_
  refine wl_v rfl (val_len es_27 (lk rfl)) ?_
  refine wl_v rfl (val_move (lk rfl)) ?_
  refine wl_v rfl (val_len es_27 (lk rfl)) ?_
  refine wl_v rfl (val_neq (lk rfl) (lk rfl)) ?_
  refine wl_nil ?_
  refine px_then ?_
  refine wc_cond (lk rfl) (fun hc0 => ?_) (fun hc0 => ?_)
  · refine wc_seq ?_
    refine wc_region ?_
    refine wl_v rfl (val_assign lkc) ?_
    refine wl_nil ?_
    refine px_then ?_
    refine wc_ret ?_
    refine px_then_ret ?_
    refine fin1 rfl (res_tmp rfl) (fun w1 hw => ?_)
    exact ⟨by rw [eqRows_ne (cast_ne' hc0)], (hw.drop rfl)⟩
  have hxy : ps.length = qs.length := cast_ne hc0
  refine wc_skip ?_
  refine px_then ?_
  refine wc_seq ?_
  refine wc_seq ?_
  refine wc_region ?_
  refine wl_v rfl (val_assign lkc) ?_
  refine wl_nil ?_
  refine px_then ?_
  refine wc_block ?_
  refine wc_trim (l' := [(0, _), (1, _), (4, _), (5, _)]) ⟨rfl, rfl, rfl, rfl, trivial⟩ ?_
  refine wc_loop0 (X := Nat) (fun k => k ≤ ps.length ∧ eqRows eqB (ps.drop k) (qs.drop k) = eqRows eqB ps qs) (fun k => [(5, (true, .int .i64 (k : Nat)))]) (fun k => ps.length - k) 0 (⟨Nat.zero_le _, rfl⟩) ⟨rfl, rfl, rfl, rfl, rfl, trivial⟩ ?_
  rintro k ⟨hk, ht⟩
  refine wc_seq ?_
  refine wc_seq ?_
  refine wc_region ?_
  refine wl_v rfl (val_move (lk rfl)) ?_
  refine wl_v rfl (val_move (lk rfl)) ?_
  refine wl_v rfl (val_len es_27 (lk rfl)) ?_
  refine wl_v rfl (val_lss (lk rfl) (lk rfl)) ?_
  refine wl_nil ?_
  refine px_then ?_
  refine wc_cond (lk rfl) (fun hc1 => ?_) (fun hc1 => ?_)
  · have hlt : k < ps.length := by have := of_decide_eq_true hc1; omega
    have hlt2 : k < qs.length := by omega
    obtain ⟨Bq, bq, oq, cq, hce, hsl⟩ := hA.cell k hlt
    obtain ⟨Bqz, bqz, oqz, cqz, hcez, hslz⟩ := hB.cell k hlt2
    have hn1 := tot_nth ps k
    refine wc_skip ?_
    refine px_then ?_
    refine wc_seq ?_
    refine wc_block ?_
    refine wc_seq ?_
    refine wc_region_q mo_ (by kernel_rfl) ?_
    refine wq_v rfl (val_move (lk rfl)) ?_
    refine wq_v rfl (val_move (lk rfl)) ?_
    refine wq_v rfl (val_index es_27 (lk rfl) (lk rfl) (fun hG => hA.head (by omega)) (fun hG => hlt)) ?_
    refine wq_v rfl (val_field fo_52_0 (lk rfl)) ?_
    refine wq_v rfl (val_load1 t1_42 (lk rfl) (cell_old rfl fun _ => hce)) ?_
    refine wq_v rfl (val_move (lk rfl)) ?_
    refine wq_v rfl (val_move (lk rfl)) ?_
    refine wq_v rfl (val_index es_27 (lk rfl) (lk rfl) (fun hG => hB.head (by omega)) (fun hG => hlt2)) ?_
    refine wq_v rfl (val_field fo_52_0 (lk rfl)) ?_
    refine wq_v rfl (val_load1 t1_42 (lk rfl) (cell_old rfl fun _ => hcez)) ?_
    refine wq_call gd_none rfl ci_52 (args2 (lk rfl) (lk rfl)) (fun hG w1 hw => sameBytes_c (nth [] ps k) (nth [] qs k) _ _ _ _ _ _ _ _ w1 (hsl.hp hw rfl) (hslz.hp hw rfl) (by omega)) ?_
    refine wq_v rfl (val_not (lk rfl)) ?_
    refine wq_nil ?_
    refine px_then ?_
    refine wc_cond (lk rfl) (fun hc2 => ?_) (fun hc2 => ?_)
    · refine wc_seq ?_
      refine wc_region ?_
      refine wl_v rfl (val_assign lkc) ?_
      refine wl_nil ?_
      refine px_then ?_
      refine wc_ret ?_
      refine px_block_ret ?_
      refine px_then_ret ?_
      refine px_then_ret ?_
      refine px_block_ret ?_
      refine px_then_ret ?_
      refine fin1 rfl (res_tmp rfl) (fun w1 hw => ?_)
      exact ⟨by rw [← ht, eqRows_step (d := ([] : List Int)) hlt hlt2, show eqB (nth [] ps k) (nth [] qs k) = false by simpa using hc2]; rfl, (hw.drop rfl)⟩
    refine wc_skip ?_
    refine px_block ?_
    refine px_then ?_
    refine wc_region ?_
    refine wl_v rfl (val_move (lk rfl)) ?_
    refine wl_v rfl (val_inc (lk rfl) (by omega)) ?_
    refine wl_v rfl (val_assign (lk rfl)) ?_
    refine wl_nil ?_
    refine px_round0 (k + 1) (⟨by omega, by rw [← ht, eqRows_step (d := ([] : List Int)) hlt hlt2]; simp at hc2; rw [hc2]; rfl⟩) (by omega) (⟨rfl, rfl, rfl, rfl, rfl, trivial⟩) (fun _ h => h.dropN 0 rfl)
  have hge : k = ps.length := by have := of_decide_eq_false hc1; omega
  subst hge
  refine wc_exit ?_
  refine px_then_exit ?_
  refine px_then_exit ?_
  refine px_block_exit ?_
  refine px_then ?_
  refine wc_seq ?_
  refine wc_region ?_
  refine wl_v rfl (val_assign lkc) ?_
  refine wl_nil ?_
  refine px_then ?_
  refine wc_ret ?_
  refine fin1 rfl (res_tmp rfl) (fun w1 hw => ?_)
  have e1 : ps.drop ps.length = [] := by simp
  have e2 : qs.drop ps.length = [] := by simp [hxy]
  exact ⟨by rw [← ht, e1, e2]; rfl, (hw.drop rfl)⟩

theorem sameBuf_c (q dr q2 dr2 : Int) (ps qs : PS) (A B : Option Addr) (b o c b2 o2 c2 : Nat) (w : World) (hA : Pay w A b o ps) (hB : Pay w B b2 o2 qs) (hb : ps.length + tot ps ≤ 2097152) :
    Calls Try.prog 28 #[.agg #[.int .i64 q, .slice A ps.length c, .int .i64 dr], .agg #[.int .i64 q2, .slice B qs.length c2, .int .i64 dr2]] w fun e w' => e = .returned (.bool ((q == q2) && (dr == dr2) && eqRows eqB ps qs)) ∧ HP w [] w' := by
  refine calls_entry [] _ Try.func28 rfl Try.ntmps28 (HP.refl w) (env2 rfl) ?_
  refine wc_seq ?_
  refine wc_region ?_
  refine wl_box (lk rfl) rfl fun b1 => ?_
  refine wl_box (lk rfl) rfl fun b2 => ?_
  refine wl_v rfl (val_assign lkc) ?_
  refine wl_nil ?_
  refine px_then ?_
  refine wc_seq ?_
  refine wc_region ?_
  refine wl_v rfl (val_field fo_29_0 (lk rfl)) ?_
  refine wl_v rfl (val_load1 t1_3 (lk rfl) (cell_own (.tail _ (.head _)) fun _ => rfl)) ?_
  refine wl_v rfl (val_field fo_29_0 (lk rfl)) ?_
  refine wl_v rfl (val_load1 t1_3 (lk rfl) (cell_own (.head _) fun _ => rfl)) ?_
  refine wl_v rfl (val_eql (lk rfl) (lk rfl)) ?_
  refine wl_v rfl (val_move (lk rfl)) ?_
  refine wl_val (gd_t rfl rfl rfl) rfl (val_field fo_29_2 (lk rfl)) ?_
  refine wl_val (gd_t rfl rfl rfl) rfl (val_load1 t1_3 (lkg rfl) (cell_own (.tail _ (.head _)) fun _ => rfl)) ?_
  refine wl_val (gd_t rfl rfl rfl) rfl (val_field fo_29_2 (lk rfl)) ?_
  refine wl_val (gd_t rfl rfl rfl) rfl (val_load1 t1_3 (lkg rfl) (cell_own (.head _) fun _ => rfl)) ?_
  refine wl_val (gd_t rfl rfl rfl) rfl (val_eql (lkg rfl) (lkg rfl)) ?_
  refine wl_v rfl (val_and (lk rfl) (lkg rfl)) ?_
  refine wl_v rfl (val_move (lk rfl)) ?_
  refine wl_val (gd_t rfl rfl rfl) rfl (val_field fo_29_1 (lk rfl)) ?_
  refine wl_val (gd_t rfl rfl rfl) rfl (val_load1 t1_27 (lkg rfl) (cell_own (.tail _ (.head _)) fun _ => rfl)) ?_
  refine wl_val (gd_t rfl rfl rfl) rfl (val_field fo_29_1 (lk rfl)) ?_
  refine wl_val (gd_t rfl rfl rfl) rfl (val_load1 t1_27 (lkg rfl) (cell_own (.head _) fun _ => rfl)) ?_
  refine wl_call (gd_t rfl rfl rfl) rfl ci_30 (args2 (lkg rfl) (lkg rfl)) (fun hG w1 hw => samePays_c ps qs _ _ _ _ _ _ _ _ w1 (hA.hp hw rfl) (hB.hp hw rfl) (by omega)) ?_
  refine wl_v rfl (val_and (lk rfl) (lkg rfl)) ?_
  refine wl_v rfl (val_assign (lk rfl)) ?_
  refine wl_nil ?_
  refine px_then ?_
  refine wc_ret ?_
  refine fin1 rfl (res_tmp rfl) (fun w1 hw => ?_)
  exact ⟨rfl, (hw.drop rfl)⟩

theorem law_PagingBuffer (A : Option Addr) (n b o c : Nat) (w : World) (hk : Cod w A n b o) :
    Calls Try.prog 7 #[.slice A n c] w fun e w' => e = .returned (.bool true) ∧ HP w [] w' := by
  refine calls_entry [] _ Try.func7 rfl Try.ntmps7 (HP.refl w) (env1 rfl) ?_
  refine wc_seq ?_
  refine wc_region ?_
  refine wl_v rfl (val_assign lkc) ?_
  refine wl_nil ?_
  refine px_then ?_
  refine wc_seq ?_
  refine wc_seq ?_
  refine wc_region ?_
  refine wl_v rfl (val_move (lk rfl)) ?_
  refine wl_call gd_none rfl ci_25 (args1 (lk rfl)) (fun hG w1 hw => big_c _ _ _ w1) ?_
  refine wl_nil ?_
  refine px_then ?_
  refine wc_cond (lk rfl) (fun hc0 => ?_) (fun hc0 => ?_)
  · refine wc_seq ?_
    refine wc_region ?_
    refine wl_v rfl (val_assign lkc) ?_
    refine wl_nil ?_
    refine px_then ?_
    refine wc_ret ?_
    refine px_then_ret ?_
    refine fin1 rfl (res_tmp rfl) (fun w1 hw => ?_)
    exact ⟨rfl, (hw.drop rfl)⟩
  have hn : n ≤ 1048576 := by have := of_decide_eq_false hc0; omega
  refine wc_skip ?_
  refine px_then ?_
  refine wc_seq ?_
  refine wc_region ?_
  refine wl_v rfl (val_move (lk rfl)) ?_
  refine wl_callU (Ds := []) 0 rfl ci_26 (args1 (lk rfl)) rfl (fun w1 hw => DrawBuf_c _ _ _ _ _ w1 (hk.hp hw rfl)) (fun _ => rfl) ?_
  rintro ⟨⟨q14, dr14, ps14, A14, c14, g14, T14, cs14, ds14⟩, un14⟩ ⟨hR14, hz14, hlo14, hdr14⟩
  simp only at hR14 hz14 hlo14 hdr14
  have hq14 := hR14.cap
  dsimp only
  refine wl_alloc zc_29 rfl fun b1 => ?_
  refine wl_storeB 0 rfl (lk rfl) (lk rfl) ag_29 rfl rfl ?_
  refine wl_nil ?_
  refine px_then ?_
  refine wc_seq ?_
  refine wc_region ?_
  refine wl_v rfl (val_loadB (.head _) (lk rfl) ag_29) ?_
  refine wl_v rfl (val_move (lk rfl)) ?_
  refine wl_v rfl (val_len es_42 (lk rfl)) ?_
  refine wl_v rfl (val_conv (by kernel_rfl) Try.underlying5 (lk rfl)) ?_
  refine wl_bslice (partsC lkc (partsC (lk rfl) parts0)) (bsl_42_2_0_1 _ _) rfl fun b2 => ?_
  refine wl_callU (Ds := [ds14]) 3 rfl ci_27 (args2 (lk rfl) (lk rfl)) rfl (fun w1 hw => Enq_c _ _ _ _ _ _ _ [7, IntKind.u8.wrap ((n : Nat) : Int)] _ _ _ _ w1 (RowP.pay hR14 hw (.tail _ (.tail _ (.head _))) (m := 3) (Ds := [ds14]) rfl (j := 0) rfl) (by omega) (Sl.own' (vs := bv [7, IntKind.u8.wrap ((n : Nat) : Int)]) hw (.head _)) (by show 2 ≤ _; decide)) (fun _ => rfl) ?_
  rintro ⟨g20, c20, ds20, sp20⟩ ⟨hp20, hl20, hc20⟩
  simp only at hp20 hl20 hc20
  have hq20 := plcap hp20 hl20
  dsimp only
  have het := enq_tot q14 dr14 ps14 [7, IntKind.u8.wrap ((n : Nat) : Int)]
  refine wl_alloc zc_29 rfl fun b3 => ?_
  refine wl_storeB 0 rfl (lk rfl) (lk rfl) ag_29 rfl rfl ?_
  refine wl_nil ?_
  refine px_then ?_
  refine wc_seq ?_
  refine wc_seq ?_
  refine wc_region ?_
  refine wl_v rfl (val_loadB (.tail _ (.tail _ (.tail _ (.head _)))) (lk rfl) ag_29) ?_
  refine wl_call gd_none rfl ci_14 (args1 (lk rfl)) (fun hG w1 hw => sValid_c _ _ _ _ _ _ _ w1 (RowP.pay hR14 hw (.tail _ (.tail _ (.tail _ (.tail _ (.head _))))) (m := 5) (Ds := [ds20, ds14]) rfl (j := 1) rfl) (by omega)) ?_
  refine wl_v rfl (val_not (lk rfl)) ?_
  refine wl_nil ?_
  refine px_then ?_
  refine wc_cond (lk rfl) (fun hc1 => ?_) (fun hc1 => ?_)
  · refine wc_seq ?_
    refine wc_region ?_
    refine wl_v rfl (val_loadB (.head _) (lk rfl) ag_29) ?_
    refine wl_v rfl (val_loadB (.tail _ (.tail _ (.tail _ (.head _)))) (lk rfl) ag_29) ?_
    refine wl_call gd_none rfl ci_28 (args2 (lk rfl) (lk rfl)) (fun hG w1 hw => sameBuf_c _ _ _ _ _ _ _ _ _ _ _ _ _ _ w1 (Pay.own hw (.tail _ (.head _)) rfl (m := 5) (Ds := [ds20, ds14]) rfl (j := 0) rfl hp20) (RowP.pay hR14 hw (.tail _ (.tail _ (.tail _ (.tail _ (.head _))))) (m := 5) (Ds := [ds20, ds14]) rfl (j := 1) rfl) (by omega)) ?_
    refine wl_v rfl (val_assign (lk rfl)) ?_
    refine wl_nil ?_
    refine px_then ?_
    refine wc_ret ?_
    refine px_then_ret ?_
    refine fin1 rfl (res_tmp rfl) (fun w1 hw => ?_)
    exact ⟨congrArg (fun x => Ending.returned (.bool x)) (pb_no hc1), (hw.drop (drop_new (m := 5) (Ds := [ds20, ds14]) rfl rfl))⟩
  have hok : okBuf q14 ps14 dr14 = true := by simpa using hc1
  have hok2 := (okBuf_iff _ _ _).1 hok
  have hge7 := enq_ge q14 dr14 ps14 [7, IntKind.u8.wrap ((n : Nat) : Int)]
  refine wc_skip ?_
  refine px_then ?_
  refine wc_seq ?_
  refine wc_region ?_
  refine wl_v rfl (val_loadB (.head _) (lk rfl) ag_29) ?_
  refine wl_callU (Ds := [ds20, ds14]) 5 rfl ci_17 (args1 (lk rfl)) rfl (fun w1 hw => Drain_c _ _ _ _ _ _ _ w1 (Pay.own hw (.tail _ (.head _)) rfl (m := 5) (Ds := [ds20, ds14]) rfl (j := 0) rfl hp20) (by omega)) (fun _ => rfl) ?_
  rintro ⟨g29, c29, ds29, sp29⟩ ⟨hp29, hl29, hc29⟩
  simp only at hp29 hl29 hc29
  have hq29 := plcap hp29 hl29
  dsimp only
  refine wl_v rfl (val_move (lk rfl)) ?_
  refine wl_v rfl (val_extract (lk rfl) rfl) ?_
  refine wl_v rfl (val_extract (lk rfl) rfl) ?_
  refine wl_alloc zc_29 rfl fun b4 => ?_
  refine wl_storeB 0 rfl (lk rfl) (lk rfl) ag_29 rfl rfl ?_
  refine wl_v rfl (val_assign (lk rfl)) ?_
  refine wl_nil ?_
  refine px_then ?_
  refine wc_seq ?_
  refine wc_region_a0 11 mo_ rfl ?_
  refine wa_take 0 rfl (by kernel_rfl) (by kernel_rfl) (by kernel_rfl) (by kernel_rfl) (fun _ h => h.maskG [true, true, true, true, true, true, true] [(true, ds29), (true, ds20), (true, ds14)] rfl rfl) gd_none rfl (val_loadB (.tail _ (.tail _ (.head _))) (lk rfl) ag_29) ?_
  refine wa_take 1 rfl (by kernel_rfl) (by kernel_rfl) (by kernel_rfl) (by kernel_rfl) (fun _ h => h.maskG [true, true, true, true, true, true, true] [(true, ds29), (true, ds20), (true, ds14)] rfl rfl) gd_none rfl (val_move (lk rfl)) ?_
  refine wa_two 2 8 (by kernel_rfl) rfl rfl ?_ ?_
  · refine wl_callx rfl ci_29 (args2 (lk rfl) lkc) (fun w1 hw => at_c _ _ _ _ _ _ w1 (hk.hp hw (drop_new (m := 7) (Ds := [ds29, ds20, ds14]) rfl rfl)) hn (by omega)) (fun _ => rfl) ?_
    rintro ⟨x35, u35⟩ ⟨hx35a, hx35b⟩
    simp only at hx35a hx35b
    refine wl_nil (px_qn (fun _ h => h.maskG [true, true, true, true, true, true, true] [(true, ds29), (true, ds20), (true, ds14)] rfl rfl) ?_)
    refine wa_take 3 rfl (by kernel_rfl) (by kernel_rfl) (by kernel_rfl) (by kernel_rfl) (fun _ h => h.maskG [true, true, true, true, true, true, true] [(true, ds29), (true, ds20), (true, ds14)] rfl rfl) gd_none rfl (val_rem (lk rfl) lkc (fun _ => by decide)) ?_
    refine wa_two 4 8 (by kernel_rfl) rfl rfl ?_ ?_
    · refine wl_callU (Ds := [ds29, ds20, ds14]) 7 rfl ci_24 (args2 (lk rfl) (lk rfl)) rfl (fun w1 hw => Deq_c _ _ _ _ _ _ _ _ w1 (Pay.own hw (.tail _ (.tail _ (.tail _ (.head _)))) rfl (m := 7) (Ds := [ds29, ds20, ds14]) rfl (j := 1) rfl hp20) (by omega) (by omega)) (fun _ => rfl) ?_
      rintro ⟨⟨ga37, ca37, da37, sa37⟩, ⟨gb37, cb37, db37, sb37⟩⟩ ⟨⟨hpa37, hla37, hca37⟩, ⟨hpb37, hlb37, hcb37⟩⟩
      simp only at hpa37 hla37 hca37 hpb37 hlb37 hcb37
      dsimp only
      have ht0 := cl_le (x35.tmod 5) ((enq q14 ps14 dr14 [7, IntKind.u8.wrap ((n : Nat) : Int)]).1).length
      have ht1 : (List.take (cl (x35.tmod 5) ((enq q14 ps14 dr14 [7, IntKind.u8.wrap ((n : Nat) : Int)]).1).length) ((enq q14 ps14 dr14 [7, IntKind.u8.wrap ((n : Nat) : Int)]).1)).length = cl (x35.tmod 5) ((enq q14 ps14 dr14 [7, IntKind.u8.wrap ((n : Nat) : Int)]).1).length := by rw [List.length_take]; omega
      have ht2 : (List.drop (cl (x35.tmod 5) ((enq q14 ps14 dr14 [7, IntKind.u8.wrap ((n : Nat) : Int)]).1).length) ((enq q14 ps14 dr14 [7, IntKind.u8.wrap ((n : Nat) : Int)]).1)).length = ((enq q14 ps14 dr14 [7, IntKind.u8.wrap ((n : Nat) : Int)]).1).length - cl (x35.tmod 5) ((enq q14 ps14 dr14 [7, IntKind.u8.wrap ((n : Nat) : Int)]).1).length := List.length_drop
      have ht3 := tot_td ((enq q14 ps14 dr14 [7, IntKind.u8.wrap ((n : Nat) : Int)]).1) (cl (x35.tmod 5) ((enq q14 ps14 dr14 [7, IntKind.u8.wrap ((n : Nat) : Int)]).1).length)
      have hpab37 : pays da37 ++ pays db37 = (enq q14 ps14 dr14 [7, IntKind.u8.wrap ((n : Nat) : Int)]).1 := by rw [hpa37, hpb37, List.take_append_drop]
      refine wl_nil (px_qn (fun _ h => h.maskG [false, false, true, true, true, true, true, true, true] [(false, db37), (false, da37), (true, ds29), (true, ds20), (true, ds14)] rfl rfl) ?_)
      refine wa_take 5 rfl (by kernel_rfl) (by kernel_rfl) (by kernel_rfl) (by kernel_rfl) (fun _ h => h.maskG [false, false, true, true, true, true, true, true, true] [(false, db37), (false, da37), (true, ds29), (true, ds20), (true, ds14)] rfl rfl) gd_none rfl (val_move (lk rfl)) ?_
      refine wa_take 6 rfl (by kernel_rfl) (by kernel_rfl) (by kernel_rfl) (by kernel_rfl) (fun _ h => h.maskG [false, false, true, true, true, true, true, true, true] [(false, db37), (false, da37), (true, ds29), (true, ds20), (true, ds14)] rfl rfl) gd_none rfl (val_extract (lk rfl) rfl) ?_
      refine wa_take 7 rfl (by kernel_rfl) (by kernel_rfl) (by kernel_rfl) (by kernel_rfl) (fun _ h => h.maskG [false, false, true, true, true, true, true, true, true] [(false, db37), (false, da37), (true, ds29), (true, ds20), (true, ds14)] rfl rfl) gd_none rfl (val_extract (lk rfl) rfl) ?_
      refine wa_only 8 (by kernel_rfl) rfl ?_
      refine wl_alloc zc_29 rfl fun b5 => ?_
      refine wl_nil (px_qn (fun _ h => h.maskG [false, false, false, true, true, true, true, true, true, true] [(false, db37), (false, da37), (true, ds29), (true, ds20), (true, ds14)] rfl rfl) ?_)
      refine wa_take 9 rfl (by kernel_rfl) (by kernel_rfl) (by kernel_rfl) (by kernel_rfl) (fun _ h => h.maskG [false, false, false, true, true, true, true, true, true, true] [(false, db37), (false, da37), (true, ds29), (true, ds20), (true, ds14)] rfl rfl) gd_none rfl (val_assign (lk rfl)) ?_
      refine wa_only 10 (by kernel_rfl) rfl ?_
      refine wl_storeB 0 rfl (lk rfl) (lk rfl) ag_29 rfl rfl ?_
      refine wl_nil (px_qn (fun _ h => h.maskG [false, false, false, true, true, true, true, true, true, true] [(false, db37), (false, da37), (true, ds29), (true, ds20), (true, ds14)] rfl rfl) ?_)
      refine wa_done (by kernel_rfl) ?_
      refine px_then ?_
      refine wc_seq ?_
      refine wc_region_a0 7 mo_ rfl ?_
      refine wa_take 1 rfl (by kernel_rfl) (by kernel_rfl) (by kernel_rfl) (by kernel_rfl) (fun _ h => h.maskG [true, true, true, true, true, true, true, true, true, true] [(true, db37), (true, da37), (true, ds29), (true, ds20), (true, ds14)] rfl rfl) gd_none rfl (val_move (lk rfl)) ?_
      refine wa_take 3 rfl (by kernel_rfl) (by kernel_rfl) (by kernel_rfl) (by kernel_rfl) (fun _ h => h.maskG [true, true, true, true, true, true, true, true, true, true] [(true, db37), (true, da37), (true, ds29), (true, ds20), (true, ds14)] rfl rfl) gd_none rfl (val_field fo_29_1 (lk rfl)) ?_
      refine wa_take 4 rfl (by kernel_rfl) (by kernel_rfl) (by kernel_rfl) (by kernel_rfl) (fun _ h => h.maskG [true, true, true, true, true, true, true, true, true, true] [(true, db37), (true, da37), (true, ds29), (true, ds20), (true, ds14)] rfl rfl) gd_none rfl (val_load1 t1_27 (lk rfl) (cell_own (.head _) fun _ => rfl)) ?_
      refine wa_only 0 (by kernel_rfl) rfl ?_
      refine wl_bslice parts0 bsl_27_0_ rfl fun b6 => ?_
      refine wl_nil (px_qn (fun _ h => h.maskG [false, true, true, true, true, true, true, true, true, true, true] [(true, db37), (true, da37), (true, ds29), (true, ds20), (true, ds14)] rfl rfl) ?_)
      refine wa_only 2 (by kernel_rfl) rfl ?_
      refine wl_appendE (ys := inC da37) (m := (List.take (cl (x35.tmod 5) ((enq q14 ps14 dr14 [7, IntKind.u8.wrap ((n : Nat) : Int)]).1).length) ((enq q14 ps14 dr14 [7, IntKind.u8.wrap ((n : Nat) : Int)]).1)).length) 0 es_27 zc_52 rfl (by decide) eb_52 (lk rfl) rfl rfl (by decide) (lk rfl) (fun _ hw => Sl.own hw (.tail _ (.tail _ (.tail _ (.head _))))) (by rw [inC_len, ← pays_len, hpa37, Nat.mul_one]) (fun u hu => by obtain ⟨i9, _, rfl⟩ := List.mem_map.1 hu; rfl) (by omega) (by omega) rfl fun g42 c42 sp42 hl42 hc42 => ?_
      refine wl_nil (px_qn (fun _ h => h.maskG [false, true, true, true, true, true, true, true, true, true, true] [(true, db37), (true, da37), (true, ds29), (true, ds20), (true, ds14)] rfl rfl) ?_)
      refine wa_only 5 (by kernel_rfl) rfl ?_
      refine wl_append (xs := inC da37) (sp := sp42) (ys := inC db37) (m := (List.drop (cl (x35.tmod 5) ((enq q14 ps14 dr14 [7, IntKind.u8.wrap ((n : Nat) : Int)]).1).length) ((enq q14 ps14 dr14 [7, IntKind.u8.wrap ((n : Nat) : Int)]).1)).length) 0 es_27 zc_52 rfl (by decide) eb_52 (lk rfl) rfl (by rw [inC_len, ← pays_len, hpa37, Nat.mul_one]) hl42 hc42 (lk rfl) (fun _ hw => Sl.own hw (.tail _ (.tail _ (.head _)))) (by rw [inC_len, ← pays_len, hpb37, Nat.mul_one]) (fun u hu => by obtain ⟨i9, _, rfl⟩ := List.mem_map.1 hu; rfl) (by omega) (by omega) rfl fun g45 c45 sp45 hl45 hc45 _ => ?_
      refine wl_nil (px_qn (fun _ h => h.maskG [false, true, true, true, true, true, true, true, true, true, true] [(true, db37), (true, da37), (true, ds29), (true, ds20), (true, ds14)] rfl rfl) ?_)
      refine wa_take 6 rfl (by kernel_rfl) (by kernel_rfl) (by kernel_rfl) (by kernel_rfl) (fun _ h => h.maskG [false, true, true, true, true, true, true, true, true, true, true] [(true, db37), (true, da37), (true, ds29), (true, ds20), (true, ds14)] rfl rfl) gd_none rfl ((val_assign (lk rfl)).eq (congrArg (fun m => Value.slice _ m _) (show (List.take (cl (x35.tmod 5) ((enq q14 ps14 dr14 [7, IntKind.u8.wrap ((n : Nat) : Int)]).1).length) ((enq q14 ps14 dr14 [7, IntKind.u8.wrap ((n : Nat) : Int)]).1)).length + (List.drop (cl (x35.tmod 5) ((enq q14 ps14 dr14 [7, IntKind.u8.wrap ((n : Nat) : Int)]).1).length) ((enq q14 ps14 dr14 [7, IntKind.u8.wrap ((n : Nat) : Int)]).1)).length = ((enq q14 ps14 dr14 [7, IntKind.u8.wrap ((n : Nat) : Int)]).1).length by omega))) ?_
      refine wa_done (by kernel_rfl) ?_
      refine px_then ?_
      refine wc_seq ?_
      refine wc_region ?_
      refine wl_v rfl (val_assign lkc) ?_
      refine wl_nil ?_
      refine px_then ?_
      refine wc_seq ?_
      refine wc_seq ?_
      refine wc_region ?_
      refine wl_v rfl (val_field fo_29_1 (lk rfl)) ?_
      refine wl_v rfl (val_load1 t1_27 (lk rfl) (cell_own (.tail _ (.tail _ (.tail _ (.tail _ (.tail _ (.tail _ (.tail _ (.tail _ (.tail _ (.head _)))))))))) fun _ => rfl)) ?_
      refine wl_v rfl (val_len es_27 (lk rfl)) ?_
      refine wl_v rfl (val_field fo_29_0 (lk rfl)) ?_
      refine wl_v rfl (val_load1 t1_3 (lk rfl) (cell_own (.tail _ (.tail _ (.tail _ (.tail _ (.tail _ (.tail _ (.tail _ (.tail _ (.tail _ (.head _)))))))))) fun _ => rfl)) ?_
      refine wl_v rfl (val_lss (lk rfl) (lk rfl)) ?_
      refine wl_nil ?_
      refine px_then ?_
      refine wc_cond (lk rfl) (fun hc2 => ?_) (fun hc2 => ?_)
      · have hst := of_decide_eq_true hc2
        have hE : (enq q14 ps14 dr14 [7, IntKind.u8.wrap ((n : Nat) : Int)]) = (ps14 ++ [[7, IntKind.u8.wrap ((n : Nat) : Int)]], dr14) := enq_in (by rw [hok]; show (false || decide ((60 : Int) < ((2 : Nat) : Int))) = false; decide) hst
        refine wc_region ?_
        refine wl_v rfl (val_assign lkc) ?_
        refine wl_nil ?_
        refine px_then ?_
        refine wc_seq ?_
        refine wc_seq ?_
        refine wc_region_q mo_ (by kernel_rfl) ?_
        refine wq_v rfl (val_move (lk rfl)) ?_
        refine wq_v rfl (val_len es_27 (lk rfl)) ?_
        refine wq_v rfl (val_field fo_29_1 (lk rfl)) ?_
        refine wq_v rfl (val_load1 t1_27 (lk rfl) (cell_own (.tail _ (.tail _ (.tail _ (.tail _ (.tail _ (.tail _ (.tail _ (.tail _ (.tail _ (.head _)))))))))) fun _ => rfl)) ?_
        refine wq_v rfl (val_len es_27 (lk rfl)) ?_
        refine wq_v rfl (val_move (lk rfl)) ?_
        refine wq_v rfl (val_add (lk rfl) (lk rfl)) ?_
        refine wq_v rfl (val_neq (lk rfl) (lk rfl)) ?_
        refine wq_v rfl (val_move (lk rfl)) ?_
        refine wq_val (gd_f rfl rfl rfl) rfl (val_move (lk rfl)) ?_
        refine wq_val (gd_f rfl rfl rfl) rfl (val_field fo_29_1 (lk rfl)) ?_
        refine wq_val (gd_f rfl rfl rfl) rfl (val_load1 t1_27 (lkg rfl) (cell_own (.tail _ (.tail _ (.tail _ (.tail _ (.tail _ (.tail _ (.tail _ (.tail _ (.tail _ (.head _)))))))))) fun _ => rfl)) ?_
        refine wq_val (gd_f rfl rfl rfl) rfl (val_len es_27 (lkg rfl)) ?_
        refine wq_val (gd_f rfl rfl rfl) rfl ((val_slice_all es_27 (lkg rfl) none (some (.tmp 64)) 0 ps14.length rfl ⟨_, lkg rfl⟩ (fun _ => Nat.zero_le _) (fun _ => by omega)).eq (show _ = Value.slice (if c29 = 0 then some ⟨g29, 0, none⟩ else (some (⟨g29, 0, none⟩ : Addr)).map (·.add (0 * 1))) (List.take ps14.length ((enq q14 ps14 dr14 [7, IntKind.u8.wrap ((n : Nat) : Int)]).1)).length (c29 - 0) by rw [List.length_take, Nat.min_eq_left hge7]; rfl)) ?_
        refine wq_val (gd_f rfl rfl rfl) rfl (val_field fo_29_1 (lk rfl)) ?_
        refine wq_val (gd_f rfl rfl rfl) rfl (val_load1 t1_27 (lkg rfl) (cell_own (.tail _ (.tail _ (.tail _ (.tail _ (.tail _ (.tail _ (.tail _ (.tail _ (.tail _ (.head _)))))))))) fun _ => rfl)) ?_
        refine wq_call (gd_f rfl rfl rfl) rfl ci_30 (args2 (lkg rfl) (lkg rfl)) (fun hG w1 hw => samePays_c (List.take ps14.length ((enq q14 ps14 dr14 [7, IntKind.u8.wrap ((n : Nat) : Int)]).1)) ps14 _ _ _ _ _ _ _ _ w1 ((Pay.own hw (.tail _ (.tail _ (.tail _ (.tail _ (.tail _ (.head _)))))) rfl (m := 11) (Ds := [db37, da37, ds29, ds20, ds14]) rfl (j := 2) rfl hp29).sub0 hq29 _) (RowP.pay hR14 hw (.tail _ (.tail _ (.tail _ (.tail _ (.tail _ (.tail _ (.tail _ (.tail _ (.tail _ (.tail _ (.head _))))))))))) (m := 11) (Ds := [db37, da37, ds29, ds20, ds14]) rfl (j := 4) rfl) (by rw [List.length_take]; have h9 := tot_take_le ((enq q14 ps14 dr14 [7, IntKind.u8.wrap ((n : Nat) : Int)]).1) ps14.length; omega)) ?_
        refine wq_val (gd_f rfl rfl rfl) rfl (val_not (lkg rfl)) ?_
        refine wq_v rfl (val_or (lk rfl) (lkg rfl)) ?_
        refine wq_v rfl (val_move (lk rfl)) ?_
        refine wq_val (gd_f rfl rfl rfl) rfl (val_move (lk rfl)) ?_
        refine wq_val (gd_f rfl rfl rfl) rfl (val_move (lk rfl)) ?_
        refine wq_call (gd_f rfl rfl rfl) rfl ci_30 (args2 (lkg rfl) (lkg rfl)) (fun hG w1 hw => samePays_c ((enq q14 ps14 dr14 [7, IntKind.u8.wrap ((n : Nat) : Int)]).1) ((enq q14 ps14 dr14 [7, IntKind.u8.wrap ((n : Nat) : Int)]).1) _ _ _ _ _ _ _ _ w1 (Pay.own2 hw (.head _) (m := 11) (Ds := [db37, da37, ds29, ds20, ds14]) rfl (ja := 1) (jb := 0) rfl rfl hpab37) (Pay.own hw (.tail _ (.tail _ (.tail _ (.tail _ (.tail _ (.head _)))))) rfl (m := 11) (Ds := [db37, da37, ds29, ds20, ds14]) rfl (j := 2) rfl hp29) (by omega)) ?_
        refine wq_val (gd_f rfl rfl rfl) rfl (val_not (lkg rfl)) ?_
        refine wq_v rfl (val_or (lk rfl) (lkg rfl)) ?_
        refine wq_nil ?_
        refine px_then ?_
        refine wc_cond (lk rfl) (fun hc3 => ?_) (fun hc3 => ?_)
        · (exfalso; have h9 := hc3; have h8 := pb_mid (ps' := (enq q14 ps14 dr14 [7, IntKind.u8.wrap ((n : Nat) : Int)]).1) (ps := ps14) (s := 1) (by rw [hE]; exact pbw1 (ps := ps14) (by omega)) (by rw [hE]; simp); have h7 := h9.symm.trans h8; exact Bool.noConfusion h7)
        refine wc_skip ?_
        refine px_then ?_
        refine wc_seq ?_
        refine wc_region_q mo_ (by kernel_rfl) ?_
        refine wq_v rfl (val_field fo_29_2 (lk rfl)) ?_
        refine wq_v rfl (val_load1 t1_3 (lk rfl) (cell_own (.tail _ (.tail _ (.tail _ (.tail _ (.tail _ (.tail _ (.head _))))))) fun _ => rfl)) ?_
        refine wq_v rfl (val_field fo_29_2 (lk rfl)) ?_
        refine wq_v rfl (val_load1 t1_3 (lk rfl) (cell_own (.tail _ (.tail _ (.tail _ (.tail _ (.tail _ (.tail _ (.tail _ (.tail _ (.tail _ (.head _)))))))))) fun _ => rfl)) ?_
        refine wq_v rfl (val_add (lk rfl) lkc) ?_
        refine wq_v rfl (val_move (lk rfl)) ?_
        refine wq_v rfl (val_sub (lk rfl) (lk rfl)) ?_
        refine wq_v rfl (val_eql (lk rfl) (lk rfl)) ?_
        refine wq_v rfl (val_move (lk rfl)) ?_
        refine wq_val (gd_t rfl rfl rfl) rfl (val_loadB (.tail _ (.tail _ (.tail _ (.tail _ (.tail _ (.tail _ (.head _))))))) (lk rfl) ag_29) ?_
        refine wq_call (gd_t rfl rfl rfl) rfl ci_15 (args1 (lkg rfl)) (fun hG w1 hw => Valid_c _ _ _ _ _ _ _ w1 (Pay.own hw (.tail _ (.tail _ (.tail _ (.tail _ (.tail _ (.tail _ (.tail _ (.head _)))))))) rfl (m := 11) (Ds := [db37, da37, ds29, ds20, ds14]) rfl (j := 3) rfl hp20) (by omega)) ?_
        refine wq_v rfl (val_and (lk rfl) (lkg rfl)) ?_
        refine wq_v rfl (val_move (lk rfl)) ?_
        refine wq_val (gd_t rfl rfl rfl) rfl (val_loadB (.tail _ (.tail _ (.tail _ (.tail _ (.head _))))) (lk rfl) ag_29) ?_
        refine wq_call (gd_t rfl rfl rfl) rfl ci_15 (args1 (lkg rfl)) (fun hG w1 hw => Valid_c q14 ((enq q14 ps14 dr14 [7, IntKind.u8.wrap ((n : Nat) : Int)]).2) [] none 0 0 0 w1 Pay.nil (by decide)) ?_
        refine wq_v rfl (val_and (lk rfl) (lkg rfl)) ?_
        refine wq_v rfl (val_move (lk rfl)) ?_
        refine wq_val (gd_t rfl rfl rfl) rfl (val_field fo_29_1 (lk rfl)) ?_
        refine wq_val (gd_t rfl rfl rfl) rfl (val_load1 t1_27 (lkg rfl) (cell_own (.tail _ (.tail _ (.tail _ (.tail _ (.head _))))) fun _ => rfl)) ?_
        refine wq_val (gd_t rfl rfl rfl) rfl (val_len es_27 (lkg rfl)) ?_
        refine wq_val (gd_t rfl rfl rfl) rfl (val_eql (lkg rfl) lkc) ?_
        refine wq_v rfl (val_and (lk rfl) (lkg rfl)) ?_
        refine wq_v rfl (val_move (lk rfl)) ?_
        refine wq_val (gd_t rfl rfl rfl) rfl (val_field fo_29_2 (lk rfl)) ?_
        refine wq_val (gd_t rfl rfl rfl) rfl (val_load1 t1_3 (lkg rfl) (cell_own (.tail _ (.tail _ (.tail _ (.tail _ (.head _))))) fun _ => rfl)) ?_
        refine wq_val (gd_t rfl rfl rfl) rfl (val_field fo_29_2 (lk rfl)) ?_
        refine wq_val (gd_t rfl rfl rfl) rfl (val_load1 t1_3 (lkg rfl) (cell_own (.tail _ (.tail _ (.tail _ (.tail _ (.tail _ (.tail _ (.head _))))))) fun _ => rfl)) ?_
        refine wq_val (gd_t rfl rfl rfl) rfl (val_eql (lkg rfl) (lkg rfl)) ?_
        refine wq_v rfl (val_and (lk rfl) (lkg rfl)) ?_
        refine wq_v rfl (val_move (lk rfl)) ?_
        refine wq_val (gd_t rfl rfl rfl) rfl (val_loadB (.tail _ (.tail _ (.tail _ (.tail _ (.tail _ (.tail _ (.head _))))))) (lk rfl) ag_29) ?_
        refine wq_call (gd_t rfl rfl rfl) rfl ci_12 (args1 (lkg rfl)) (fun hG w1 hw => Bytes_c _ _ _ _ _ _ _ w1 (Pay.own hw (.tail _ (.tail _ (.tail _ (.tail _ (.tail _ (.tail _ (.tail _ (.head _)))))))) rfl (m := 11) (Ds := [db37, da37, ds29, ds20, ds14]) rfl (j := 3) rfl hp20) (by omega)) ?_
        refine wq_val (gd_t rfl rfl rfl) rfl (val_loadB (.tail _ (.tail _ (.tail _ (.tail _ (.tail _ (.tail _ (.tail _ (.tail _ (.tail _ (.head _)))))))))) (lk rfl) ag_29) ?_
        refine wq_call (gd_t rfl rfl rfl) rfl ci_10 (args1 (lkg rfl)) (fun hG w1 hw => sBytes_c _ _ _ _ _ _ _ w1 (RowP.pay hR14 hw (.tail _ (.tail _ (.tail _ (.tail _ (.tail _ (.tail _ (.tail _ (.tail _ (.tail _ (.tail _ (.head _))))))))))) (m := 11) (Ds := [db37, da37, ds29, ds20, ds14]) rfl (j := 4) rfl) (by omega)) ?_
        refine wq_val (gd_t rfl rfl rfl) rfl (val_move (lk rfl)) ?_
        refine wq_val (gd_t rfl rfl rfl) rfl (val_mul lkc (lkg rfl)) ?_
        refine wq_val (gd_t rfl rfl rfl) rfl (val_add (lkg rfl) (lkg rfl)) ?_
        refine wq_val (gd_t rfl rfl rfl) rfl (val_eql (lkg rfl) (lkg rfl)) ?_
        refine wq_v rfl (val_and (lk rfl) (lkg rfl)) ?_
        refine wq_v rfl (val_assign (lk rfl)) ?_
        refine wq_nil ?_
        refine px_then ?_
        refine wc_ret ?_
        refine fin1 rfl (res_tmp rfl) (fun w1 hw => ?_)
        exact ⟨congrArg (fun x => Ending.returned (.bool x)) (and6 (beq_iff_eq.2 (by rw [hE]; exact pbd1 (by omega))) (by rw [hE]; exact pbk hok hst (by show 2 ≤ 60; decide)) (by rw [hE]; exact pbn hok) rfl (by simp) (beq_iff_eq.2 (by rw [hE]; exact pbt1 (ps := ps14) (by omega) rfl))), (hw.drop (drop_new (m := 11) (Ds := [db37, da37, ds29, ds20, ds14]) rfl rfl))⟩
      have hst := of_decide_eq_false hc2
      have hE : (enq q14 ps14 dr14 [7, IntKind.u8.wrap ((n : Nat) : Int)]) = (ps14, IntKind.i64.wrap (dr14 + 1)) := enq_full (by rw [hok]; show (false || decide ((60 : Int) < ((2 : Nat) : Int))) = false; decide) hst
      refine wc_skip ?_
      refine px_then ?_
      refine wc_seq ?_
      refine wc_seq ?_
      refine wc_region_q mo_ (by kernel_rfl) ?_
      refine wq_v rfl (val_move (lk rfl)) ?_
      refine wq_v rfl (val_len es_27 (lk rfl)) ?_
      refine wq_v rfl (val_field fo_29_1 (lk rfl)) ?_
      refine wq_v rfl (val_load1 t1_27 (lk rfl) (cell_own (.tail _ (.tail _ (.tail _ (.tail _ (.tail _ (.tail _ (.tail _ (.tail _ (.tail _ (.head _)))))))))) fun _ => rfl)) ?_
      refine wq_v rfl (val_len es_27 (lk rfl)) ?_
      refine wq_v rfl (val_move (lk rfl)) ?_
      refine wq_v rfl (val_add (lk rfl) (lk rfl)) ?_
      refine wq_v rfl (val_neq (lk rfl) (lk rfl)) ?_
      refine wq_v rfl (val_move (lk rfl)) ?_
      refine wq_val (gd_f rfl rfl rfl) rfl (val_move (lk rfl)) ?_
      refine wq_val (gd_f rfl rfl rfl) rfl (val_field fo_29_1 (lk rfl)) ?_
      refine wq_val (gd_f rfl rfl rfl) rfl (val_load1 t1_27 (lkg rfl) (cell_own (.tail _ (.tail _ (.tail _ (.tail _ (.tail _ (.tail _ (.tail _ (.tail _ (.tail _ (.head _)))))))))) fun _ => rfl)) ?_
      refine wq_val (gd_f rfl rfl rfl) rfl (val_len es_27 (lkg rfl)) ?_
      refine wq_val (gd_f rfl rfl rfl) rfl ((val_slice_all es_27 (lkg rfl) none (some (.tmp 64)) 0 ps14.length rfl ⟨_, lkg rfl⟩ (fun _ => Nat.zero_le _) (fun _ => by omega)).eq (show _ = Value.slice (if c29 = 0 then some ⟨g29, 0, none⟩ else (some (⟨g29, 0, none⟩ : Addr)).map (·.add (0 * 1))) (List.take ps14.length ((enq q14 ps14 dr14 [7, IntKind.u8.wrap ((n : Nat) : Int)]).1)).length (c29 - 0) by rw [List.length_take, Nat.min_eq_left hge7]; rfl)) ?_
      refine wq_val (gd_f rfl rfl rfl) rfl (val_field fo_29_1 (lk rfl)) ?_
      refine wq_val (gd_f rfl rfl rfl) rfl (val_load1 t1_27 (lkg rfl) (cell_own (.tail _ (.tail _ (.tail _ (.tail _ (.tail _ (.tail _ (.tail _ (.tail _ (.tail _ (.head _)))))))))) fun _ => rfl)) ?_
      refine wq_call (gd_f rfl rfl rfl) rfl ci_30 (args2 (lkg rfl) (lkg rfl)) (fun hG w1 hw => samePays_c (List.take ps14.length ((enq q14 ps14 dr14 [7, IntKind.u8.wrap ((n : Nat) : Int)]).1)) ps14 _ _ _ _ _ _ _ _ w1 ((Pay.own hw (.tail _ (.tail _ (.tail _ (.tail _ (.tail _ (.head _)))))) rfl (m := 11) (Ds := [db37, da37, ds29, ds20, ds14]) rfl (j := 2) rfl hp29).sub0 hq29 _) (RowP.pay hR14 hw (.tail _ (.tail _ (.tail _ (.tail _ (.tail _ (.tail _ (.tail _ (.tail _ (.tail _ (.tail _ (.head _))))))))))) (m := 11) (Ds := [db37, da37, ds29, ds20, ds14]) rfl (j := 4) rfl) (by rw [List.length_take]; have h9 := tot_take_le ((enq q14 ps14 dr14 [7, IntKind.u8.wrap ((n : Nat) : Int)]).1) ps14.length; omega)) ?_
      refine wq_val (gd_f rfl rfl rfl) rfl (val_not (lkg rfl)) ?_
      refine wq_v rfl (val_or (lk rfl) (lkg rfl)) ?_
      refine wq_v rfl (val_move (lk rfl)) ?_
      refine wq_val (gd_f rfl rfl rfl) rfl (val_move (lk rfl)) ?_
      refine wq_val (gd_f rfl rfl rfl) rfl (val_move (lk rfl)) ?_
      refine wq_call (gd_f rfl rfl rfl) rfl ci_30 (args2 (lkg rfl) (lkg rfl)) (fun hG w1 hw => samePays_c ((enq q14 ps14 dr14 [7, IntKind.u8.wrap ((n : Nat) : Int)]).1) ((enq q14 ps14 dr14 [7, IntKind.u8.wrap ((n : Nat) : Int)]).1) _ _ _ _ _ _ _ _ w1 (Pay.own2 hw (.head _) (m := 11) (Ds := [db37, da37, ds29, ds20, ds14]) rfl (ja := 1) (jb := 0) rfl rfl hpab37) (Pay.own hw (.tail _ (.tail _ (.tail _ (.tail _ (.tail _ (.head _)))))) rfl (m := 11) (Ds := [db37, da37, ds29, ds20, ds14]) rfl (j := 2) rfl hp29) (by omega)) ?_
      refine wq_val (gd_f rfl rfl rfl) rfl (val_not (lkg rfl)) ?_
      refine wq_v rfl (val_or (lk rfl) (lkg rfl)) ?_
      refine wq_nil ?_
      refine px_then ?_
      refine wc_cond (lk rfl) (fun hc4 => ?_) (fun hc4 => ?_)
      · (exfalso; have h9 := hc4; have h8 := pb_mid (ps' := (enq q14 ps14 dr14 [7, IntKind.u8.wrap ((n : Nat) : Int)]).1) (ps := ps14) (s := 0) (by rw [hE]; exact pbw0 (ps := ps14) (by omega)) (by rw [hE]; simp); have h7 := h9.symm.trans h8; exact Bool.noConfusion h7)
      refine wc_skip ?_
      refine px_then ?_
      refine wc_seq ?_
      refine wc_region_q mo_ (by kernel_rfl) ?_
      refine wq_v rfl (val_field fo_29_2 (lk rfl)) ?_
      refine wq_v rfl (val_load1 t1_3 (lk rfl) (cell_own (.tail _ (.tail _ (.tail _ (.tail _ (.tail _ (.tail _ (.head _))))))) fun _ => rfl)) ?_
      refine wq_v rfl (val_field fo_29_2 (lk rfl)) ?_
      refine wq_v rfl (val_load1 t1_3 (lk rfl) (cell_own (.tail _ (.tail _ (.tail _ (.tail _ (.tail _ (.tail _ (.tail _ (.tail _ (.tail _ (.head _)))))))))) fun _ => rfl)) ?_
      refine wq_v rfl (val_add (lk rfl) lkc) ?_
      refine wq_v rfl (val_move (lk rfl)) ?_
      refine wq_v rfl (val_sub (lk rfl) (lk rfl)) ?_
      refine wq_v rfl (val_eql (lk rfl) (lk rfl)) ?_
      refine wq_v rfl (val_move (lk rfl)) ?_
      refine wq_val (gd_t rfl rfl rfl) rfl (val_loadB (.tail _ (.tail _ (.tail _ (.tail _ (.tail _ (.tail _ (.head _))))))) (lk rfl) ag_29) ?_
      refine wq_call (gd_t rfl rfl rfl) rfl ci_15 (args1 (lkg rfl)) (fun hG w1 hw => Valid_c _ _ _ _ _ _ _ w1 (Pay.own hw (.tail _ (.tail _ (.tail _ (.tail _ (.tail _ (.tail _ (.tail _ (.head _)))))))) rfl (m := 11) (Ds := [db37, da37, ds29, ds20, ds14]) rfl (j := 3) rfl hp20) (by omega)) ?_
      refine wq_v rfl (val_and (lk rfl) (lkg rfl)) ?_
      refine wq_v rfl (val_move (lk rfl)) ?_
      refine wq_val (gd_t rfl rfl rfl) rfl (val_loadB (.tail _ (.tail _ (.tail _ (.tail _ (.head _))))) (lk rfl) ag_29) ?_
      refine wq_call (gd_t rfl rfl rfl) rfl ci_15 (args1 (lkg rfl)) (fun hG w1 hw => Valid_c q14 ((enq q14 ps14 dr14 [7, IntKind.u8.wrap ((n : Nat) : Int)]).2) [] none 0 0 0 w1 Pay.nil (by decide)) ?_
      refine wq_v rfl (val_and (lk rfl) (lkg rfl)) ?_
      refine wq_v rfl (val_move (lk rfl)) ?_
      refine wq_val (gd_t rfl rfl rfl) rfl (val_field fo_29_1 (lk rfl)) ?_
      refine wq_val (gd_t rfl rfl rfl) rfl (val_load1 t1_27 (lkg rfl) (cell_own (.tail _ (.tail _ (.tail _ (.tail _ (.head _))))) fun _ => rfl)) ?_
      refine wq_val (gd_t rfl rfl rfl) rfl (val_len es_27 (lkg rfl)) ?_
      refine wq_val (gd_t rfl rfl rfl) rfl (val_eql (lkg rfl) lkc) ?_
      refine wq_v rfl (val_and (lk rfl) (lkg rfl)) ?_
      refine wq_v rfl (val_move (lk rfl)) ?_
      refine wq_val (gd_t rfl rfl rfl) rfl (val_field fo_29_2 (lk rfl)) ?_
      refine wq_val (gd_t rfl rfl rfl) rfl (val_load1 t1_3 (lkg rfl) (cell_own (.tail _ (.tail _ (.tail _ (.tail _ (.head _))))) fun _ => rfl)) ?_
      refine wq_val (gd_t rfl rfl rfl) rfl (val_field fo_29_2 (lk rfl)) ?_
      refine wq_val (gd_t rfl rfl rfl) rfl (val_load1 t1_3 (lkg rfl) (cell_own (.tail _ (.tail _ (.tail _ (.tail _ (.tail _ (.tail _ (.head _))))))) fun _ => rfl)) ?_
      refine wq_val (gd_t rfl rfl rfl) rfl (val_eql (lkg rfl) (lkg rfl)) ?_
      refine wq_v rfl (val_and (lk rfl) (lkg rfl)) ?_
      refine wq_v rfl (val_move (lk rfl)) ?_
      refine wq_val (gd_t rfl rfl rfl) rfl (val_loadB (.tail _ (.tail _ (.tail _ (.tail _ (.tail _ (.tail _ (.head _))))))) (lk rfl) ag_29) ?_
      refine wq_call (gd_t rfl rfl rfl) rfl ci_12 (args1 (lkg rfl)) (fun hG w1 hw => Bytes_c _ _ _ _ _ _ _ w1 (Pay.own hw (.tail _ (.tail _ (.tail _ (.tail _ (.tail _ (.tail _ (.tail _ (.head _)))))))) rfl (m := 11) (Ds := [db37, da37, ds29, ds20, ds14]) rfl (j := 3) rfl hp20) (by omega)) ?_
      refine wq_val (gd_t rfl rfl rfl) rfl (val_loadB (.tail _ (.tail _ (.tail _ (.tail _ (.tail _ (.tail _ (.tail _ (.tail _ (.tail _ (.head _)))))))))) (lk rfl) ag_29) ?_
      refine wq_call (gd_t rfl rfl rfl) rfl ci_10 (args1 (lkg rfl)) (fun hG w1 hw => sBytes_c _ _ _ _ _ _ _ w1 (RowP.pay hR14 hw (.tail _ (.tail _ (.tail _ (.tail _ (.tail _ (.tail _ (.tail _ (.tail _ (.tail _ (.tail _ (.head _))))))))))) (m := 11) (Ds := [db37, da37, ds29, ds20, ds14]) rfl (j := 4) rfl) (by omega)) ?_
      refine wq_val (gd_t rfl rfl rfl) rfl (val_move (lk rfl)) ?_
      refine wq_val (gd_t rfl rfl rfl) rfl (val_mul lkc (lkg rfl)) ?_
      refine wq_val (gd_t rfl rfl rfl) rfl (val_add (lkg rfl) (lkg rfl)) ?_
      refine wq_val (gd_t rfl rfl rfl) rfl (val_eql (lkg rfl) (lkg rfl)) ?_
      refine wq_v rfl (val_and (lk rfl) (lkg rfl)) ?_
      refine wq_v rfl (val_assign (lk rfl)) ?_
      refine wq_nil ?_
      refine px_then ?_
      refine wc_ret ?_
      refine fin1 rfl (res_tmp rfl) (fun w1 hw => ?_)
      exact ⟨congrArg (fun x => Ending.returned (.bool x)) (and6 (beq_iff_eq.2 (by rw [hE]; exact pbd0 (by omega))) (by rw [hE]; exact pbk0 hok hdr14) (by rw [hE]; exact pbn (pbk0 hok hdr14)) rfl (by simp) (beq_iff_eq.2 (by rw [hE]; exact pbt0 (ps := ps14) (by omega)))), (hw.drop (drop_new (m := 11) (Ds := [db37, da37, ds29, ds20, ds14]) rfl rfl))⟩
    · refine wl_alloc zc_29 rfl fun b7 => ?_
      refine wl_nil (px_qn (fun _ h => h.maskG [false, true, true, true, true, true, true, true] [(true, ds29), (true, ds20), (true, ds14)] rfl rfl) ?_)
      refine wa_only 4 (by kernel_rfl) rfl ?_
      refine wl_callU (Ds := [ds29, ds20, ds14]) 8 rfl ci_24 (args2 (lk rfl) (lk rfl)) rfl (fun w1 hw => Deq_c _ _ _ _ _ _ _ _ w1 (Pay.own hw (.tail _ (.tail _ (.tail _ (.tail _ (.head _))))) rfl (m := 8) (Ds := [ds29, ds20, ds14]) rfl (j := 1) rfl hp20) (by omega) (by omega)) (fun _ => rfl) ?_
      rintro ⟨⟨ga37, ca37, da37, sa37⟩, ⟨gb37, cb37, db37, sb37⟩⟩ ⟨⟨hpa37, hla37, hca37⟩, ⟨hpb37, hlb37, hcb37⟩⟩
      simp only at hpa37 hla37 hca37 hpb37 hlb37 hcb37
      dsimp only
      have ht0 := cl_le (x35.tmod 5) ((enq q14 ps14 dr14 [7, IntKind.u8.wrap ((n : Nat) : Int)]).1).length
      have ht1 : (List.take (cl (x35.tmod 5) ((enq q14 ps14 dr14 [7, IntKind.u8.wrap ((n : Nat) : Int)]).1).length) ((enq q14 ps14 dr14 [7, IntKind.u8.wrap ((n : Nat) : Int)]).1)).length = cl (x35.tmod 5) ((enq q14 ps14 dr14 [7, IntKind.u8.wrap ((n : Nat) : Int)]).1).length := by rw [List.length_take]; omega
      have ht2 : (List.drop (cl (x35.tmod 5) ((enq q14 ps14 dr14 [7, IntKind.u8.wrap ((n : Nat) : Int)]).1).length) ((enq q14 ps14 dr14 [7, IntKind.u8.wrap ((n : Nat) : Int)]).1)).length = ((enq q14 ps14 dr14 [7, IntKind.u8.wrap ((n : Nat) : Int)]).1).length - cl (x35.tmod 5) ((enq q14 ps14 dr14 [7, IntKind.u8.wrap ((n : Nat) : Int)]).1).length := List.length_drop
      have ht3 := tot_td ((enq q14 ps14 dr14 [7, IntKind.u8.wrap ((n : Nat) : Int)]).1) (cl (x35.tmod 5) ((enq q14 ps14 dr14 [7, IntKind.u8.wrap ((n : Nat) : Int)]).1).length)
      have hpab37 : pays da37 ++ pays db37 = (enq q14 ps14 dr14 [7, IntKind.u8.wrap ((n : Nat) : Int)]).1 := by rw [hpa37, hpb37, List.take_append_drop]
      refine wl_nil (px_qn (fun _ h => h.maskG [false, false, false, true, true, true, true, true, true, true] [(false, db37), (false, da37), (true, ds29), (true, ds20), (true, ds14)] rfl rfl) ?_)
      refine wa_take 5 rfl (by kernel_rfl) (by kernel_rfl) (by kernel_rfl) (by kernel_rfl) (fun _ h => h.maskG [false, false, false, true, true, true, true, true, true, true] [(false, db37), (false, da37), (true, ds29), (true, ds20), (true, ds14)] rfl rfl) gd_none rfl (val_move (lk rfl)) ?_
      refine wa_take 6 rfl (by kernel_rfl) (by kernel_rfl) (by kernel_rfl) (by kernel_rfl) (fun _ h => h.maskG [false, false, false, true, true, true, true, true, true, true] [(false, db37), (false, da37), (true, ds29), (true, ds20), (true, ds14)] rfl rfl) gd_none rfl (val_extract (lk rfl) rfl) ?_
      refine wa_take 7 rfl (by kernel_rfl) (by kernel_rfl) (by kernel_rfl) (by kernel_rfl) (fun _ h => h.maskG [false, false, false, true, true, true, true, true, true, true] [(false, db37), (false, da37), (true, ds29), (true, ds20), (true, ds14)] rfl rfl) gd_none rfl (val_extract (lk rfl) rfl) ?_
      refine wa_take 9 rfl (by kernel_rfl) (by kernel_rfl) (by kernel_rfl) (by kernel_rfl) (fun _ h => h.maskG [false, false, false, true, true, true, true, true, true, true] [(false, db37), (false, da37), (true, ds29), (true, ds20), (true, ds14)] rfl rfl) gd_none rfl (val_assign (lk rfl)) ?_
      refine wa_only 10 (by kernel_rfl) rfl ?_
      refine wl_storeB 2 rfl (lk rfl) (lk rfl) ag_29 rfl rfl ?_
      refine wl_nil (px_qn (fun _ h => h.maskG [false, false, false, true, true, true, true, true, true, true] [(false, db37), (false, da37), (true, ds29), (true, ds20), (true, ds14)] rfl rfl) ?_)
      refine wa_done (by kernel_rfl) ?_
      refine px_then ?_
      refine wc_seq ?_
      refine wc_region_a0 7 mo_ rfl ?_
      refine wa_take 1 rfl (by kernel_rfl) (by kernel_rfl) (by kernel_rfl) (by kernel_rfl) (fun _ h => h.maskG [true, true, true, true, true, true, true, true, true, true] [(true, db37), (true, da37), (true, ds29), (true, ds20), (true, ds14)] rfl rfl) gd_none rfl (val_move (lk rfl)) ?_
      refine wa_take 3 rfl (by kernel_rfl) (by kernel_rfl) (by kernel_rfl) (by kernel_rfl) (fun _ h => h.maskG [true, true, true, true, true, true, true, true, true, true] [(true, db37), (true, da37), (true, ds29), (true, ds20), (true, ds14)] rfl rfl) gd_none rfl (val_field fo_29_1 (lk rfl)) ?_
      refine wa_take 4 rfl (by kernel_rfl) (by kernel_rfl) (by kernel_rfl) (by kernel_rfl) (fun _ h => h.maskG [true, true, true, true, true, true, true, true, true, true] [(true, db37), (true, da37), (true, ds29), (true, ds20), (true, ds14)] rfl rfl) gd_none rfl (val_load1 t1_27 (lk rfl) (cell_own (.tail _ (.tail _ (.head _))) fun _ => rfl)) ?_
      refine wa_only 0 (by kernel_rfl) rfl ?_
      refine wl_bslice parts0 bsl_27_0_ rfl fun b8 => ?_
      refine wl_nil (px_qn (fun _ h => h.maskG [false, true, true, true, true, true, true, true, true, true, true] [(true, db37), (true, da37), (true, ds29), (true, ds20), (true, ds14)] rfl rfl) ?_)
      refine wa_only 2 (by kernel_rfl) rfl ?_
      refine wl_appendE (ys := inC da37) (m := (List.take (cl (x35.tmod 5) ((enq q14 ps14 dr14 [7, IntKind.u8.wrap ((n : Nat) : Int)]).1).length) ((enq q14 ps14 dr14 [7, IntKind.u8.wrap ((n : Nat) : Int)]).1)).length) 0 es_27 zc_52 rfl (by decide) eb_52 (lk rfl) rfl rfl (by decide) (lk rfl) (fun _ hw => Sl.own hw (.tail _ (.tail _ (.head _)))) (by rw [inC_len, ← pays_len, hpa37, Nat.mul_one]) (fun u hu => by obtain ⟨i9, _, rfl⟩ := List.mem_map.1 hu; rfl) (by omega) (by omega) rfl fun g42 c42 sp42 hl42 hc42 => ?_
      refine wl_nil (px_qn (fun _ h => h.maskG [false, true, true, true, true, true, true, true, true, true, true] [(true, db37), (true, da37), (true, ds29), (true, ds20), (true, ds14)] rfl rfl) ?_)
      refine wa_only 5 (by kernel_rfl) rfl ?_
      refine wl_append (xs := inC da37) (sp := sp42) (ys := inC db37) (m := (List.drop (cl (x35.tmod 5) ((enq q14 ps14 dr14 [7, IntKind.u8.wrap ((n : Nat) : Int)]).1).length) ((enq q14 ps14 dr14 [7, IntKind.u8.wrap ((n : Nat) : Int)]).1)).length) 0 es_27 zc_52 rfl (by decide) eb_52 (lk rfl) rfl (by rw [inC_len, ← pays_len, hpa37, Nat.mul_one]) hl42 hc42 (lk rfl) (fun _ hw => Sl.own hw (.tail _ (.head _))) (by rw [inC_len, ← pays_len, hpb37, Nat.mul_one]) (fun u hu => by obtain ⟨i9, _, rfl⟩ := List.mem_map.1 hu; rfl) (by omega) (by omega) rfl fun g45 c45 sp45 hl45 hc45 _ => ?_
      refine wl_nil (px_qn (fun _ h => h.maskG [false, true, true, true, true, true, true, true, true, true, true] [(true, db37), (true, da37), (true, ds29), (true, ds20), (true, ds14)] rfl rfl) ?_)
      refine wa_take 6 rfl (by kernel_rfl) (by kernel_rfl) (by kernel_rfl) (by kernel_rfl) (fun _ h => h.maskG [false, true, true, true, true, true, true, true, true, true, true] [(true, db37), (true, da37), (true, ds29), (true, ds20), (true, ds14)] rfl rfl) gd_none rfl ((val_assign (lk rfl)).eq (congrArg (fun m => Value.slice _ m _) (show (List.take (cl (x35.tmod 5) ((enq q14 ps14 dr14 [7, IntKind.u8.wrap ((n : Nat) : Int)]).1).length) ((enq q14 ps14 dr14 [7, IntKind.u8.wrap ((n : Nat) : Int)]).1)).length + (List.drop (cl (x35.tmod 5) ((enq q14 ps14 dr14 [7, IntKind.u8.wrap ((n : Nat) : Int)]).1).length) ((enq q14 ps14 dr14 [7, IntKind.u8.wrap ((n : Nat) : Int)]).1)).length = ((enq q14 ps14 dr14 [7, IntKind.u8.wrap ((n : Nat) : Int)]).1).length by omega))) ?_
      refine wa_done (by kernel_rfl) ?_
      refine px_then ?_
      refine wc_seq ?_
      refine wc_region ?_
      refine wl_v rfl (val_assign lkc) ?_
      refine wl_nil ?_
      refine px_then ?_
      refine wc_seq ?_
      refine wc_seq ?_
      refine wc_region ?_
      refine wl_v rfl (val_field fo_29_1 (lk rfl)) ?_
      refine wl_v rfl (val_load1 t1_27 (lk rfl) (cell_own (.tail _ (.tail _ (.tail _ (.tail _ (.tail _ (.tail _ (.tail _ (.tail _ (.tail _ (.head _)))))))))) fun _ => rfl)) ?_
      refine wl_v rfl (val_len es_27 (lk rfl)) ?_
      refine wl_v rfl (val_field fo_29_0 (lk rfl)) ?_
      refine wl_v rfl (val_load1 t1_3 (lk rfl) (cell_own (.tail _ (.tail _ (.tail _ (.tail _ (.tail _ (.tail _ (.tail _ (.tail _ (.tail _ (.head _)))))))))) fun _ => rfl)) ?_
      refine wl_v rfl (val_lss (lk rfl) (lk rfl)) ?_
      refine wl_nil ?_
      refine px_then ?_
      refine wc_cond (lk rfl) (fun hc2 => ?_) (fun hc2 => ?_)
      · have hst := of_decide_eq_true hc2
        have hE : (enq q14 ps14 dr14 [7, IntKind.u8.wrap ((n : Nat) : Int)]) = (ps14 ++ [[7, IntKind.u8.wrap ((n : Nat) : Int)]], dr14) := enq_in (by rw [hok]; show (false || decide ((60 : Int) < ((2 : Nat) : Int))) = false; decide) hst
        refine wc_region ?_
        refine wl_v rfl (val_assign lkc) ?_
        refine wl_nil ?_
        refine px_then ?_
        refine wc_seq ?_
        refine wc_seq ?_
        refine wc_region_q mo_ (by kernel_rfl) ?_
        refine wq_v rfl (val_move (lk rfl)) ?_
        refine wq_v rfl (val_len es_27 (lk rfl)) ?_
        refine wq_v rfl (val_field fo_29_1 (lk rfl)) ?_
        refine wq_v rfl (val_load1 t1_27 (lk rfl) (cell_own (.tail _ (.tail _ (.tail _ (.tail _ (.tail _ (.tail _ (.tail _ (.tail _ (.tail _ (.head _)))))))))) fun _ => rfl)) ?_
        refine wq_v rfl (val_len es_27 (lk rfl)) ?_
        refine wq_v rfl (val_move (lk rfl)) ?_
        refine wq_v rfl (val_add (lk rfl) (lk rfl)) ?_
        refine wq_v rfl (val_neq (lk rfl) (lk rfl)) ?_
        refine wq_v rfl (val_move (lk rfl)) ?_
        refine wq_val (gd_f rfl rfl rfl) rfl (val_move (lk rfl)) ?_
        refine wq_val (gd_f rfl rfl rfl) rfl (val_field fo_29_1 (lk rfl)) ?_
        refine wq_val (gd_f rfl rfl rfl) rfl (val_load1 t1_27 (lkg rfl) (cell_own (.tail _ (.tail _ (.tail _ (.tail _ (.tail _ (.tail _ (.tail _ (.tail _ (.tail _ (.head _)))))))))) fun _ => rfl)) ?_
        refine wq_val (gd_f rfl rfl rfl) rfl (val_len es_27 (lkg rfl)) ?_
        refine wq_val (gd_f rfl rfl rfl) rfl ((val_slice_all es_27 (lkg rfl) none (some (.tmp 64)) 0 ps14.length rfl ⟨_, lkg rfl⟩ (fun _ => Nat.zero_le _) (fun _ => by omega)).eq (show _ = Value.slice (if c29 = 0 then some ⟨g29, 0, none⟩ else (some (⟨g29, 0, none⟩ : Addr)).map (·.add (0 * 1))) (List.take ps14.length ((enq q14 ps14 dr14 [7, IntKind.u8.wrap ((n : Nat) : Int)]).1)).length (c29 - 0) by rw [List.length_take, Nat.min_eq_left hge7]; rfl)) ?_
        refine wq_val (gd_f rfl rfl rfl) rfl (val_field fo_29_1 (lk rfl)) ?_
        refine wq_val (gd_f rfl rfl rfl) rfl (val_load1 t1_27 (lkg rfl) (cell_own (.tail _ (.tail _ (.tail _ (.tail _ (.tail _ (.tail _ (.tail _ (.tail _ (.tail _ (.head _)))))))))) fun _ => rfl)) ?_
        refine wq_call (gd_f rfl rfl rfl) rfl ci_30 (args2 (lkg rfl) (lkg rfl)) (fun hG w1 hw => samePays_c (List.take ps14.length ((enq q14 ps14 dr14 [7, IntKind.u8.wrap ((n : Nat) : Int)]).1)) ps14 _ _ _ _ _ _ _ _ w1 ((Pay.own hw (.tail _ (.tail _ (.tail _ (.tail _ (.tail _ (.head _)))))) rfl (m := 11) (Ds := [db37, da37, ds29, ds20, ds14]) rfl (j := 2) rfl hp29).sub0 hq29 _) (RowP.pay hR14 hw (.tail _ (.tail _ (.tail _ (.tail _ (.tail _ (.tail _ (.tail _ (.tail _ (.tail _ (.tail _ (.head _))))))))))) (m := 11) (Ds := [db37, da37, ds29, ds20, ds14]) rfl (j := 4) rfl) (by rw [List.length_take]; have h9 := tot_take_le ((enq q14 ps14 dr14 [7, IntKind.u8.wrap ((n : Nat) : Int)]).1) ps14.length; omega)) ?_
        refine wq_val (gd_f rfl rfl rfl) rfl (val_not (lkg rfl)) ?_
        refine wq_v rfl (val_or (lk rfl) (lkg rfl)) ?_
        refine wq_v rfl (val_move (lk rfl)) ?_
        refine wq_val (gd_f rfl rfl rfl) rfl (val_move (lk rfl)) ?_
        refine wq_val (gd_f rfl rfl rfl) rfl (val_move (lk rfl)) ?_
        refine wq_call (gd_f rfl rfl rfl) rfl ci_30 (args2 (lkg rfl) (lkg rfl)) (fun hG w1 hw => samePays_c ((enq q14 ps14 dr14 [7, IntKind.u8.wrap ((n : Nat) : Int)]).1) ((enq q14 ps14 dr14 [7, IntKind.u8.wrap ((n : Nat) : Int)]).1) _ _ _ _ _ _ _ _ w1 (Pay.own2 hw (.head _) (m := 11) (Ds := [db37, da37, ds29, ds20, ds14]) rfl (ja := 1) (jb := 0) rfl rfl hpab37) (Pay.own hw (.tail _ (.tail _ (.tail _ (.tail _ (.tail _ (.head _)))))) rfl (m := 11) (Ds := [db37, da37, ds29, ds20, ds14]) rfl (j := 2) rfl hp29) (by omega)) ?_
        refine wq_val (gd_f rfl rfl rfl) rfl (val_not (lkg rfl)) ?_
        refine wq_v rfl (val_or (lk rfl) (lkg rfl)) ?_
        refine wq_nil ?_
        refine px_then ?_
        refine wc_cond (lk rfl) (fun hc3 => ?_) (fun hc3 => ?_)
        · (exfalso; have h9 := hc3; have h8 := pb_mid (ps' := (enq q14 ps14 dr14 [7, IntKind.u8.wrap ((n : Nat) : Int)]).1) (ps := ps14) (s := 1) (by rw [hE]; exact pbw1 (ps := ps14) (by omega)) (by rw [hE]; simp); have h7 := h9.symm.trans h8; exact Bool.noConfusion h7)
        refine wc_skip ?_
        refine px_then ?_
        refine wc_seq ?_
        refine wc_region_q mo_ (by kernel_rfl) ?_
        refine wq_v rfl (val_field fo_29_2 (lk rfl)) ?_
        refine wq_v rfl (val_load1 t1_3 (lk rfl) (cell_own (.tail _ (.tail _ (.tail _ (.tail _ (.tail _ (.tail _ (.head _))))))) fun _ => rfl)) ?_
        refine wq_v rfl (val_field fo_29_2 (lk rfl)) ?_
        refine wq_v rfl (val_load1 t1_3 (lk rfl) (cell_own (.tail _ (.tail _ (.tail _ (.tail _ (.tail _ (.tail _ (.tail _ (.tail _ (.tail _ (.head _)))))))))) fun _ => rfl)) ?_
        refine wq_v rfl (val_add (lk rfl) lkc) ?_
        refine wq_v rfl (val_move (lk rfl)) ?_
        refine wq_v rfl (val_sub (lk rfl) (lk rfl)) ?_
        refine wq_v rfl (val_eql (lk rfl) (lk rfl)) ?_
        refine wq_v rfl (val_move (lk rfl)) ?_
        refine wq_val (gd_t rfl rfl rfl) rfl (val_loadB (.tail _ (.tail _ (.tail _ (.tail _ (.tail _ (.tail _ (.head _))))))) (lk rfl) ag_29) ?_
        refine wq_call (gd_t rfl rfl rfl) rfl ci_15 (args1 (lkg rfl)) (fun hG w1 hw => Valid_c _ _ _ _ _ _ _ w1 (Pay.own hw (.tail _ (.tail _ (.tail _ (.tail _ (.tail _ (.tail _ (.tail _ (.head _)))))))) rfl (m := 11) (Ds := [db37, da37, ds29, ds20, ds14]) rfl (j := 3) rfl hp20) (by omega)) ?_
        refine wq_v rfl (val_and (lk rfl) (lkg rfl)) ?_
        refine wq_v rfl (val_move (lk rfl)) ?_
        refine wq_val (gd_t rfl rfl rfl) rfl (val_loadB (.tail _ (.tail _ (.tail _ (.tail _ (.head _))))) (lk rfl) ag_29) ?_
        refine wq_call (gd_t rfl rfl rfl) rfl ci_15 (args1 (lkg rfl)) (fun hG w1 hw => Valid_c q14 ((enq q14 ps14 dr14 [7, IntKind.u8.wrap ((n : Nat) : Int)]).2) [] none 0 0 0 w1 Pay.nil (by decide)) ?_
        refine wq_v rfl (val_and (lk rfl) (lkg rfl)) ?_
        refine wq_v rfl (val_move (lk rfl)) ?_
        refine wq_val (gd_t rfl rfl rfl) rfl (val_field fo_29_1 (lk rfl)) ?_
        refine wq_val (gd_t rfl rfl rfl) rfl (val_load1 t1_27 (lkg rfl) (cell_own (.tail _ (.tail _ (.tail _ (.tail _ (.head _))))) fun _ => rfl)) ?_
        refine wq_val (gd_t rfl rfl rfl) rfl (val_len es_27 (lkg rfl)) ?_
        refine wq_val (gd_t rfl rfl rfl) rfl (val_eql (lkg rfl) lkc) ?_
        refine wq_v rfl (val_and (lk rfl) (lkg rfl)) ?_
        refine wq_v rfl (val_move (lk rfl)) ?_
        refine wq_val (gd_t rfl rfl rfl) rfl (val_field fo_29_2 (lk rfl)) ?_
        refine wq_val (gd_t rfl rfl rfl) rfl (val_load1 t1_3 (lkg rfl) (cell_own (.tail _ (.tail _ (.tail _ (.tail _ (.head _))))) fun _ => rfl)) ?_
        refine wq_val (gd_t rfl rfl rfl) rfl (val_field fo_29_2 (lk rfl)) ?_
        refine wq_val (gd_t rfl rfl rfl) rfl (val_load1 t1_3 (lkg rfl) (cell_own (.tail _ (.tail _ (.tail _ (.tail _ (.tail _ (.tail _ (.head _))))))) fun _ => rfl)) ?_
        refine wq_val (gd_t rfl rfl rfl) rfl (val_eql (lkg rfl) (lkg rfl)) ?_
        refine wq_v rfl (val_and (lk rfl) (lkg rfl)) ?_
        refine wq_v rfl (val_move (lk rfl)) ?_
        refine wq_val (gd_t rfl rfl rfl) rfl (val_loadB (.tail _ (.tail _ (.tail _ (.tail _ (.tail _ (.tail _ (.head _))))))) (lk rfl) ag_29) ?_
        refine wq_call (gd_t rfl rfl rfl) rfl ci_12 (args1 (lkg rfl)) (fun hG w1 hw => Bytes_c _ _ _ _ _ _ _ w1 (Pay.own hw (.tail _ (.tail _ (.tail _ (.tail _ (.tail _ (.tail _ (.tail _ (.head _)))))))) rfl (m := 11) (Ds := [db37, da37, ds29, ds20, ds14]) rfl (j := 3) rfl hp20) (by omega)) ?_
        refine wq_val (gd_t rfl rfl rfl) rfl (val_loadB (.tail _ (.tail _ (.tail _ (.tail _ (.tail _ (.tail _ (.tail _ (.tail _ (.tail _ (.head _)))))))))) (lk rfl) ag_29) ?_
        refine wq_call (gd_t rfl rfl rfl) rfl ci_10 (args1 (lkg rfl)) (fun hG w1 hw => sBytes_c _ _ _ _ _ _ _ w1 (RowP.pay hR14 hw (.tail _ (.tail _ (.tail _ (.tail _ (.tail _ (.tail _ (.tail _ (.tail _ (.tail _ (.tail _ (.head _))))))))))) (m := 11) (Ds := [db37, da37, ds29, ds20, ds14]) rfl (j := 4) rfl) (by omega)) ?_
        refine wq_val (gd_t rfl rfl rfl) rfl (val_move (lk rfl)) ?_
        refine wq_val (gd_t rfl rfl rfl) rfl (val_mul lkc (lkg rfl)) ?_
        refine wq_val (gd_t rfl rfl rfl) rfl (val_add (lkg rfl) (lkg rfl)) ?_
        refine wq_val (gd_t rfl rfl rfl) rfl (val_eql (lkg rfl) (lkg rfl)) ?_
        refine wq_v rfl (val_and (lk rfl) (lkg rfl)) ?_
        refine wq_v rfl (val_assign (lk rfl)) ?_
        refine wq_nil ?_
        refine px_then ?_
        refine wc_ret ?_
        refine fin1 rfl (res_tmp rfl) (fun w1 hw => ?_)
        exact ⟨congrArg (fun x => Ending.returned (.bool x)) (and6 (beq_iff_eq.2 (by rw [hE]; exact pbd1 (by omega))) (by rw [hE]; exact pbk hok hst (by show 2 ≤ 60; decide)) (by rw [hE]; exact pbn hok) rfl (by simp) (beq_iff_eq.2 (by rw [hE]; exact pbt1 (ps := ps14) (by omega) rfl))), (hw.drop (drop_new (m := 11) (Ds := [db37, da37, ds29, ds20, ds14]) rfl rfl))⟩
      have hst := of_decide_eq_false hc2
      have hE : (enq q14 ps14 dr14 [7, IntKind.u8.wrap ((n : Nat) : Int)]) = (ps14, IntKind.i64.wrap (dr14 + 1)) := enq_full (by rw [hok]; show (false || decide ((60 : Int) < ((2 : Nat) : Int))) = false; decide) hst
      refine wc_skip ?_
      refine px_then ?_
      refine wc_seq ?_
      refine wc_seq ?_
      refine wc_region_q mo_ (by kernel_rfl) ?_
      refine wq_v rfl (val_move (lk rfl)) ?_
      refine wq_v rfl (val_len es_27 (lk rfl)) ?_
      refine wq_v rfl (val_field fo_29_1 (lk rfl)) ?_
      refine wq_v rfl (val_load1 t1_27 (lk rfl) (cell_own (.tail _ (.tail _ (.tail _ (.tail _ (.tail _ (.tail _ (.tail _ (.tail _ (.tail _ (.head _)))))))))) fun _ => rfl)) ?_
      refine wq_v rfl (val_len es_27 (lk rfl)) ?_
      refine wq_v rfl (val_move (lk rfl)) ?_
      refine wq_v rfl (val_add (lk rfl) (lk rfl)) ?_
      refine wq_v rfl (val_neq (lk rfl) (lk rfl)) ?_
      refine wq_v rfl (val_move (lk rfl)) ?_
      refine wq_val (gd_f rfl rfl rfl) rfl (val_move (lk rfl)) ?_
      refine wq_val (gd_f rfl rfl rfl) rfl (val_field fo_29_1 (lk rfl)) ?_
      refine wq_val (gd_f rfl rfl rfl) rfl (val_load1 t1_27 (lkg rfl) (cell_own (.tail _ (.tail _ (.tail _ (.tail _ (.tail _ (.tail _ (.tail _ (.tail _ (.tail _ (.head _)))))))))) fun _ => rfl)) ?_
      refine wq_val (gd_f rfl rfl rfl) rfl (val_len es_27 (lkg rfl)) ?_
      refine wq_val (gd_f rfl rfl rfl) rfl ((val_slice_all es_27 (lkg rfl) none (some (.tmp 64)) 0 ps14.length rfl ⟨_, lkg rfl⟩ (fun _ => Nat.zero_le _) (fun _ => by omega)).eq (show _ = Value.slice (if c29 = 0 then some ⟨g29, 0, none⟩ else (some (⟨g29, 0, none⟩ : Addr)).map (·.add (0 * 1))) (List.take ps14.length ((enq q14 ps14 dr14 [7, IntKind.u8.wrap ((n : Nat) : Int)]).1)).length (c29 - 0) by rw [List.length_take, Nat.min_eq_left hge7]; rfl)) ?_
      refine wq_val (gd_f rfl rfl rfl) rfl (val_field fo_29_1 (lk rfl)) ?_
      refine wq_val (gd_f rfl rfl rfl) rfl (val_load1 t1_27 (lkg rfl) (cell_own (.tail _ (.tail _ (.tail _ (.tail _ (.tail _ (.tail _ (.tail _ (.tail _ (.tail _ (.head _)))))))))) fun _ => rfl)) ?_
      refine wq_call (gd_f rfl rfl rfl) rfl ci_30 (args2 (lkg rfl) (lkg rfl)) (fun hG w1 hw => samePays_c (List.take ps14.length ((enq q14 ps14 dr14 [7, IntKind.u8.wrap ((n : Nat) : Int)]).1)) ps14 _ _ _ _ _ _ _ _ w1 ((Pay.own hw (.tail _ (.tail _ (.tail _ (.tail _ (.tail _ (.head _)))))) rfl (m := 11) (Ds := [db37, da37, ds29, ds20, ds14]) rfl (j := 2) rfl hp29).sub0 hq29 _) (RowP.pay hR14 hw (.tail _ (.tail _ (.tail _ (.tail _ (.tail _ (.tail _ (.tail _ (.tail _ (.tail _ (.tail _ (.head _))))))))))) (m := 11) (Ds := [db37, da37, ds29, ds20, ds14]) rfl (j := 4) rfl) (by rw [List.length_take]; have h9 := tot_take_le ((enq q14 ps14 dr14 [7, IntKind.u8.wrap ((n : Nat) : Int)]).1) ps14.length; omega)) ?_
      refine wq_val (gd_f rfl rfl rfl) rfl (val_not (lkg rfl)) ?_
      refine wq_v rfl (val_or (lk rfl) (lkg rfl)) ?_
      refine wq_v rfl (val_move (lk rfl)) ?_
      refine wq_val (gd_f rfl rfl rfl) rfl (val_move (lk rfl)) ?_
      refine wq_val (gd_f rfl rfl rfl) rfl (val_move (lk rfl)) ?_
      refine wq_call (gd_f rfl rfl rfl) rfl ci_30 (args2 (lkg rfl) (lkg rfl)) (fun hG w1 hw => samePays_c ((enq q14 ps14 dr14 [7, IntKind.u8.wrap ((n : Nat) : Int)]).1) ((enq q14 ps14 dr14 [7, IntKind.u8.wrap ((n : Nat) : Int)]).1) _ _ _ _ _ _ _ _ w1 (Pay.own2 hw (.head _) (m := 11) (Ds := [db37, da37, ds29, ds20, ds14]) rfl (ja := 1) (jb := 0) rfl rfl hpab37) (Pay.own hw (.tail _ (.tail _ (.tail _ (.tail _ (.tail _ (.head _)))))) rfl (m := 11) (Ds := [db37, da37, ds29, ds20, ds14]) rfl (j := 2) rfl hp29) (by omega)) ?_
      refine wq_val (gd_f rfl rfl rfl) rfl (val_not (lkg rfl)) ?_
      refine wq_v rfl (val_or (lk rfl) (lkg rfl)) ?_
      refine wq_nil ?_
      refine px_then ?_
      refine wc_cond (lk rfl) (fun hc4 => ?_) (fun hc4 => ?_)
      · (exfalso; have h9 := hc4; have h8 := pb_mid (ps' := (enq q14 ps14 dr14 [7, IntKind.u8.wrap ((n : Nat) : Int)]).1) (ps := ps14) (s := 0) (by rw [hE]; exact pbw0 (ps := ps14) (by omega)) (by rw [hE]; simp); have h7 := h9.symm.trans h8; exact Bool.noConfusion h7)
      refine wc_skip ?_
      refine px_then ?_
      refine wc_seq ?_
      refine wc_region_q mo_ (by kernel_rfl) ?_
      refine wq_v rfl (val_field fo_29_2 (lk rfl)) ?_
      refine wq_v rfl (val_load1 t1_3 (lk rfl) (cell_own (.tail _ (.tail _ (.tail _ (.tail _ (.tail _ (.tail _ (.head _))))))) fun _ => rfl)) ?_
      refine wq_v rfl (val_field fo_29_2 (lk rfl)) ?_
      refine wq_v rfl (val_load1 t1_3 (lk rfl) (cell_own (.tail _ (.tail _ (.tail _ (.tail _ (.tail _ (.tail _ (.tail _ (.tail _ (.tail _ (.head _)))))))))) fun _ => rfl)) ?_
      refine wq_v rfl (val_add (lk rfl) lkc) ?_
      refine wq_v rfl (val_move (lk rfl)) ?_
      refine wq_v rfl (val_sub (lk rfl) (lk rfl)) ?_
      refine wq_v rfl (val_eql (lk rfl) (lk rfl)) ?_
      refine wq_v rfl (val_move (lk rfl)) ?_
      refine wq_val (gd_t rfl rfl rfl) rfl (val_loadB (.tail _ (.tail _ (.tail _ (.tail _ (.tail _ (.tail _ (.head _))))))) (lk rfl) ag_29) ?_
      refine wq_call (gd_t rfl rfl rfl) rfl ci_15 (args1 (lkg rfl)) (fun hG w1 hw => Valid_c _ _ _ _ _ _ _ w1 (Pay.own hw (.tail _ (.tail _ (.tail _ (.tail _ (.tail _ (.tail _ (.tail _ (.head _)))))))) rfl (m := 11) (Ds := [db37, da37, ds29, ds20, ds14]) rfl (j := 3) rfl hp20) (by omega)) ?_
      refine wq_v rfl (val_and (lk rfl) (lkg rfl)) ?_
      refine wq_v rfl (val_move (lk rfl)) ?_
      refine wq_val (gd_t rfl rfl rfl) rfl (val_loadB (.tail _ (.tail _ (.tail _ (.tail _ (.head _))))) (lk rfl) ag_29) ?_
      refine wq_call (gd_t rfl rfl rfl) rfl ci_15 (args1 (lkg rfl)) (fun hG w1 hw => Valid_c q14 ((enq q14 ps14 dr14 [7, IntKind.u8.wrap ((n : Nat) : Int)]).2) [] none 0 0 0 w1 Pay.nil (by decide)) ?_
      refine wq_v rfl (val_and (lk rfl) (lkg rfl)) ?_
      refine wq_v rfl (val_move (lk rfl)) ?_
      refine wq_val (gd_t rfl rfl rfl) rfl (val_field fo_29_1 (lk rfl)) ?_
      refine wq_val (gd_t rfl rfl rfl) rfl (val_load1 t1_27 (lkg rfl) (cell_own (.tail _ (.tail _ (.tail _ (.tail _ (.head _))))) fun _ => rfl)) ?_
      refine wq_val (gd_t rfl rfl rfl) rfl (val_len es_27 (lkg rfl)) ?_
      refine wq_val (gd_t rfl rfl rfl) rfl (val_eql (lkg rfl) lkc) ?_
      refine wq_v rfl (val_and (lk rfl) (lkg rfl)) ?_
      refine wq_v rfl (val_move (lk rfl)) ?_
      refine wq_val (gd_t rfl rfl rfl) rfl (val_field fo_29_2 (lk rfl)) ?_
      refine wq_val (gd_t rfl rfl rfl) rfl (val_load1 t1_3 (lkg rfl) (cell_own (.tail _ (.tail _ (.tail _ (.tail _ (.head _))))) fun _ => rfl)) ?_
      refine wq_val (gd_t rfl rfl rfl) rfl (val_field fo_29_2 (lk rfl)) ?_
      refine wq_val (gd_t rfl rfl rfl) rfl (val_load1 t1_3 (lkg rfl) (cell_own (.tail _ (.tail _ (.tail _ (.tail _ (.tail _ (.tail _ (.head _))))))) fun _ => rfl)) ?_
      refine wq_val (gd_t rfl rfl rfl) rfl (val_eql (lkg rfl) (lkg rfl)) ?_
      refine wq_v rfl (val_and (lk rfl) (lkg rfl)) ?_
      refine wq_v rfl (val_move (lk rfl)) ?_
      refine wq_val (gd_t rfl rfl rfl) rfl (val_loadB (.tail _ (.tail _ (.tail _ (.tail _ (.tail _ (.tail _ (.head _))))))) (lk rfl) ag_29) ?_
      refine wq_call (gd_t rfl rfl rfl) rfl ci_12 (args1 (lkg rfl)) (fun hG w1 hw => Bytes_c _ _ _ _ _ _ _ w1 (Pay.own hw (.tail _ (.tail _ (.tail _ (.tail _ (.tail _ (.tail _ (.tail _ (.head _)))))))) rfl (m := 11) (Ds := [db37, da37, ds29, ds20, ds14]) rfl (j := 3) rfl hp20) (by omega)) ?_
      refine wq_val (gd_t rfl rfl rfl) rfl (val_loadB (.tail _ (.tail _ (.tail _ (.tail _ (.tail _ (.tail _ (.tail _ (.tail _ (.tail _ (.head _)))))))))) (lk rfl) ag_29) ?_
      refine wq_call (gd_t rfl rfl rfl) rfl ci_10 (args1 (lkg rfl)) (fun hG w1 hw => sBytes_c _ _ _ _ _ _ _ w1 (RowP.pay hR14 hw (.tail _ (.tail _ (.tail _ (.tail _ (.tail _ (.tail _ (.tail _ (.tail _ (.tail _ (.tail _ (.head _))))))))))) (m := 11) (Ds := [db37, da37, ds29, ds20, ds14]) rfl (j := 4) rfl) (by omega)) ?_
      refine wq_val (gd_t rfl rfl rfl) rfl (val_move (lk rfl)) ?_
      refine wq_val (gd_t rfl rfl rfl) rfl (val_mul lkc (lkg rfl)) ?_
      refine wq_val (gd_t rfl rfl rfl) rfl (val_add (lkg rfl) (lkg rfl)) ?_
      refine wq_val (gd_t rfl rfl rfl) rfl (val_eql (lkg rfl) (lkg rfl)) ?_
      refine wq_v rfl (val_and (lk rfl) (lkg rfl)) ?_
      refine wq_v rfl (val_assign (lk rfl)) ?_
      refine wq_nil ?_
      refine px_then ?_
      refine wc_ret ?_
      refine fin1 rfl (res_tmp rfl) (fun w1 hw => ?_)
      exact ⟨congrArg (fun x => Ending.returned (.bool x)) (and6 (beq_iff_eq.2 (by rw [hE]; exact pbd0 (by omega))) (by rw [hE]; exact pbk0 hok hdr14) (by rw [hE]; exact pbn (pbk0 hok hdr14)) rfl (by simp) (beq_iff_eq.2 (by rw [hE]; exact pbt0 (ps := ps14) (by omega)))), (hw.drop (drop_new (m := 11) (Ds := [db37, da37, ds29, ds20, ds14]) rfl rfl))⟩
  · refine wl_alloc zc_29 rfl fun b9 => ?_
    refine wl_nil (px_qn (fun _ h => h.maskG [false, true, true, true, true, true, true, true] [(true, ds29), (true, ds20), (true, ds14)] rfl rfl) ?_)
    refine wa_only 2 (by kernel_rfl) rfl ?_
    refine wl_callx rfl ci_29 (args2 (lk rfl) lkc) (fun w1 hw => at_c _ _ _ _ _ _ w1 (hk.hp hw (drop_new (m := 8) (Ds := [ds29, ds20, ds14]) rfl rfl)) hn (by omega)) (fun _ => rfl) ?_
    rintro ⟨x35, u35⟩ ⟨hx35a, hx35b⟩
    simp only at hx35a hx35b
    refine wl_nil (px_qn (fun _ h => h.maskG [false, true, true, true, true, true, true, true] [(true, ds29), (true, ds20), (true, ds14)] rfl rfl) ?_)
    refine wa_take 3 rfl (by kernel_rfl) (by kernel_rfl) (by kernel_rfl) (by kernel_rfl) (fun _ h => h.maskG [false, true, true, true, true, true, true, true] [(true, ds29), (true, ds20), (true, ds14)] rfl rfl) gd_none rfl (val_rem (lk rfl) lkc (fun _ => by decide)) ?_
    refine wa_only 4 (by kernel_rfl) rfl ?_
    refine wl_callU (Ds := [ds29, ds20, ds14]) 8 rfl ci_24 (args2 (lk rfl) (lk rfl)) rfl (fun w1 hw => Deq_c _ _ _ _ _ _ _ _ w1 (Pay.own hw (.tail _ (.tail _ (.tail _ (.tail _ (.head _))))) rfl (m := 8) (Ds := [ds29, ds20, ds14]) rfl (j := 1) rfl hp20) (by omega) (by omega)) (fun _ => rfl) ?_
    rintro ⟨⟨ga37, ca37, da37, sa37⟩, ⟨gb37, cb37, db37, sb37⟩⟩ ⟨⟨hpa37, hla37, hca37⟩, ⟨hpb37, hlb37, hcb37⟩⟩
    simp only at hpa37 hla37 hca37 hpb37 hlb37 hcb37
    dsimp only
    have ht0 := cl_le (x35.tmod 5) ((enq q14 ps14 dr14 [7, IntKind.u8.wrap ((n : Nat) : Int)]).1).length
    have ht1 : (List.take (cl (x35.tmod 5) ((enq q14 ps14 dr14 [7, IntKind.u8.wrap ((n : Nat) : Int)]).1).length) ((enq q14 ps14 dr14 [7, IntKind.u8.wrap ((n : Nat) : Int)]).1)).length = cl (x35.tmod 5) ((enq q14 ps14 dr14 [7, IntKind.u8.wrap ((n : Nat) : Int)]).1).length := by rw [List.length_take]; omega
    have ht2 : (List.drop (cl (x35.tmod 5) ((enq q14 ps14 dr14 [7, IntKind.u8.wrap ((n : Nat) : Int)]).1).length) ((enq q14 ps14 dr14 [7, IntKind.u8.wrap ((n : Nat) : Int)]).1)).length = ((enq q14 ps14 dr14 [7, IntKind.u8.wrap ((n : Nat) : Int)]).1).length - cl (x35.tmod 5) ((enq q14 ps14 dr14 [7, IntKind.u8.wrap ((n : Nat) : Int)]).1).length := List.length_drop
    have ht3 := tot_td ((enq q14 ps14 dr14 [7, IntKind.u8.wrap ((n : Nat) : Int)]).1) (cl (x35.tmod 5) ((enq q14 ps14 dr14 [7, IntKind.u8.wrap ((n : Nat) : Int)]).1).length)
    have hpab37 : pays da37 ++ pays db37 = (enq q14 ps14 dr14 [7, IntKind.u8.wrap ((n : Nat) : Int)]).1 := by rw [hpa37, hpb37, List.take_append_drop]
    refine wl_nil (px_qn (fun _ h => h.maskG [false, false, false, true, true, true, true, true, true, true] [(false, db37), (false, da37), (true, ds29), (true, ds20), (true, ds14)] rfl rfl) ?_)
    refine wa_take 5 rfl (by kernel_rfl) (by kernel_rfl) (by kernel_rfl) (by kernel_rfl) (fun _ h => h.maskG [false, false, false, true, true, true, true, true, true, true] [(false, db37), (false, da37), (true, ds29), (true, ds20), (true, ds14)] rfl rfl) gd_none rfl (val_move (lk rfl)) ?_
    refine wa_take 6 rfl (by kernel_rfl) (by kernel_rfl) (by kernel_rfl) (by kernel_rfl) (fun _ h => h.maskG [false, false, false, true, true, true, true, true, true, true] [(false, db37), (false, da37), (true, ds29), (true, ds20), (true, ds14)] rfl rfl) gd_none rfl (val_extract (lk rfl) rfl) ?_
    refine wa_take 7 rfl (by kernel_rfl) (by kernel_rfl) (by kernel_rfl) (by kernel_rfl) (fun _ h => h.maskG [false, false, false, true, true, true, true, true, true, true] [(false, db37), (false, da37), (true, ds29), (true, ds20), (true, ds14)] rfl rfl) gd_none rfl (val_extract (lk rfl) rfl) ?_
    refine wa_take 9 rfl (by kernel_rfl) (by kernel_rfl) (by kernel_rfl) (by kernel_rfl) (fun _ h => h.maskG [false, false, false, true, true, true, true, true, true, true] [(false, db37), (false, da37), (true, ds29), (true, ds20), (true, ds14)] rfl rfl) gd_none rfl (val_assign (lk rfl)) ?_
    refine wa_only 10 (by kernel_rfl) rfl ?_
    refine wl_storeB 2 rfl (lk rfl) (lk rfl) ag_29 rfl rfl ?_
    refine wl_nil (px_qn (fun _ h => h.maskG [false, false, false, true, true, true, true, true, true, true] [(false, db37), (false, da37), (true, ds29), (true, ds20), (true, ds14)] rfl rfl) ?_)
    refine wa_done (by kernel_rfl) ?_
    refine px_then ?_
    refine wc_seq ?_
    refine wc_region_a0 7 mo_ rfl ?_
    refine wa_take 1 rfl (by kernel_rfl) (by kernel_rfl) (by kernel_rfl) (by kernel_rfl) (fun _ h => h.maskG [true, true, true, true, true, true, true, true, true, true] [(true, db37), (true, da37), (true, ds29), (true, ds20), (true, ds14)] rfl rfl) gd_none rfl (val_move (lk rfl)) ?_
    refine wa_take 3 rfl (by kernel_rfl) (by kernel_rfl) (by kernel_rfl) (by kernel_rfl) (fun _ h => h.maskG [true, true, true, true, true, true, true, true, true, true] [(true, db37), (true, da37), (true, ds29), (true, ds20), (true, ds14)] rfl rfl) gd_none rfl (val_field fo_29_1 (lk rfl)) ?_
    refine wa_take 4 rfl (by kernel_rfl) (by kernel_rfl) (by kernel_rfl) (by kernel_rfl) (fun _ h => h.maskG [true, true, true, true, true, true, true, true, true, true] [(true, db37), (true, da37), (true, ds29), (true, ds20), (true, ds14)] rfl rfl) gd_none rfl (val_load1 t1_27 (lk rfl) (cell_own (.tail _ (.tail _ (.head _))) fun _ => rfl)) ?_
    refine wa_only 0 (by kernel_rfl) rfl ?_
    refine wl_bslice parts0 bsl_27_0_ rfl fun b10 => ?_
    refine wl_nil (px_qn (fun _ h => h.maskG [false, true, true, true, true, true, true, true, true, true, true] [(true, db37), (true, da37), (true, ds29), (true, ds20), (true, ds14)] rfl rfl) ?_)
    refine wa_only 2 (by kernel_rfl) rfl ?_
    refine wl_appendE (ys := inC da37) (m := (List.take (cl (x35.tmod 5) ((enq q14 ps14 dr14 [7, IntKind.u8.wrap ((n : Nat) : Int)]).1).length) ((enq q14 ps14 dr14 [7, IntKind.u8.wrap ((n : Nat) : Int)]).1)).length) 0 es_27 zc_52 rfl (by decide) eb_52 (lk rfl) rfl rfl (by decide) (lk rfl) (fun _ hw => Sl.own hw (.tail _ (.tail _ (.head _)))) (by rw [inC_len, ← pays_len, hpa37, Nat.mul_one]) (fun u hu => by obtain ⟨i9, _, rfl⟩ := List.mem_map.1 hu; rfl) (by omega) (by omega) rfl fun g42 c42 sp42 hl42 hc42 => ?_
    refine wl_nil (px_qn (fun _ h => h.maskG [false, true, true, true, true, true, true, true, true, true, true] [(true, db37), (true, da37), (true, ds29), (true, ds20), (true, ds14)] rfl rfl) ?_)
    refine wa_only 5 (by kernel_rfl) rfl ?_
    refine wl_append (xs := inC da37) (sp := sp42) (ys := inC db37) (m := (List.drop (cl (x35.tmod 5) ((enq q14 ps14 dr14 [7, IntKind.u8.wrap ((n : Nat) : Int)]).1).length) ((enq q14 ps14 dr14 [7, IntKind.u8.wrap ((n : Nat) : Int)]).1)).length) 0 es_27 zc_52 rfl (by decide) eb_52 (lk rfl) rfl (by rw [inC_len, ← pays_len, hpa37, Nat.mul_one]) hl42 hc42 (lk rfl) (fun _ hw => Sl.own hw (.tail _ (.head _))) (by rw [inC_len, ← pays_len, hpb37, Nat.mul_one]) (fun u hu => by obtain ⟨i9, _, rfl⟩ := List.mem_map.1 hu; rfl) (by omega) (by omega) rfl fun g45 c45 sp45 hl45 hc45 _ => ?_
    refine wl_nil (px_qn (fun _ h => h.maskG [false, true, true, true, true, true, true, true, true, true, true] [(true, db37), (true, da37), (true, ds29), (true, ds20), (true, ds14)] rfl rfl) ?_)
    refine wa_take 6 rfl (by kernel_rfl) (by kernel_rfl) (by kernel_rfl) (by kernel_rfl) (fun _ h => h.maskG [false, true, true, true, true, true, true, true, true, true, true] [(true, db37), (true, da37), (true, ds29), (true, ds20), (true, ds14)] rfl rfl) gd_none rfl ((val_assign (lk rfl)).eq (congrArg (fun m => Value.slice _ m _) (show (List.take (cl (x35.tmod 5) ((enq q14 ps14 dr14 [7, IntKind.u8.wrap ((n : Nat) : Int)]).1).length) ((enq q14 ps14 dr14 [7, IntKind.u8.wrap ((n : Nat) : Int)]).1)).length + (List.drop (cl (x35.tmod 5) ((enq q14 ps14 dr14 [7, IntKind.u8.wrap ((n : Nat) : Int)]).1).length) ((enq q14 ps14 dr14 [7, IntKind.u8.wrap ((n : Nat) : Int)]).1)).length = ((enq q14 ps14 dr14 [7, IntKind.u8.wrap ((n : Nat) : Int)]).1).length by omega))) ?_
    refine wa_done (by kernel_rfl) ?_
    refine px_then ?_
    refine wc_seq ?_
    refine wc_region ?_
    refine wl_v rfl (val_assign lkc) ?_
    refine wl_nil ?_
    refine px_then ?_
    refine wc_seq ?_
    refine wc_seq ?_
    refine wc_region ?_
    refine wl_v rfl (val_field fo_29_1 (lk rfl)) ?_
    refine wl_v rfl (val_load1 t1_27 (lk rfl) (cell_own (.tail _ (.tail _ (.tail _ (.tail _ (.tail _ (.tail _ (.tail _ (.tail _ (.tail _ (.head _)))))))))) fun _ => rfl)) ?_
    refine wl_v rfl (val_len es_27 (lk rfl)) ?_
    refine wl_v rfl (val_field fo_29_0 (lk rfl)) ?_
    refine wl_v rfl (val_load1 t1_3 (lk rfl) (cell_own (.tail _ (.tail _ (.tail _ (.tail _ (.tail _ (.tail _ (.tail _ (.tail _ (.tail _ (.head _)))))))))) fun _ => rfl)) ?_
    refine wl_v rfl (val_lss (lk rfl) (lk rfl)) ?_
    refine wl_nil ?_
    refine px_then ?_
    refine wc_cond (lk rfl) (fun hc2 => ?_) (fun hc2 => ?_)
    · have hst := of_decide_eq_true hc2
      have hE : (enq q14 ps14 dr14 [7, IntKind.u8.wrap ((n : Nat) : Int)]) = (ps14 ++ [[7, IntKind.u8.wrap ((n : Nat) : Int)]], dr14) := enq_in (by rw [hok]; show (false || decide ((60 : Int) < ((2 : Nat) : Int))) = false; decide) hst
      refine wc_region ?_
      refine wl_v rfl (val_assign lkc) ?_
      refine wl_nil ?_
      refine px_then ?_
      refine wc_seq ?_
      refine wc_seq ?_
      refine wc_region_q mo_ (by kernel_rfl) ?_
      refine wq_v rfl (val_move (lk rfl)) ?_
      refine wq_v rfl (val_len es_27 (lk rfl)) ?_
      refine wq_v rfl (val_field fo_29_1 (lk rfl)) ?_
      refine wq_v rfl (val_load1 t1_27 (lk rfl) (cell_own (.tail _ (.tail _ (.tail _ (.tail _ (.tail _ (.tail _ (.tail _ (.tail _ (.tail _ (.head _)))))))))) fun _ => rfl)) ?_
      refine wq_v rfl (val_len es_27 (lk rfl)) ?_
      refine wq_v rfl (val_move (lk rfl)) ?_
      refine wq_v rfl (val_add (lk rfl) (lk rfl)) ?_
      refine wq_v rfl (val_neq (lk rfl) (lk rfl)) ?_
      refine wq_v rfl (val_move (lk rfl)) ?_
      refine wq_val (gd_f rfl rfl rfl) rfl (val_move (lk rfl)) ?_
      refine wq_val (gd_f rfl rfl rfl) rfl (val_field fo_29_1 (lk rfl)) ?_
      refine wq_val (gd_f rfl rfl rfl) rfl (val_load1 t1_27 (lkg rfl) (cell_own (.tail _ (.tail _ (.tail _ (.tail _ (.tail _ (.tail _ (.tail _ (.tail _ (.tail _ (.head _)))))))))) fun _ => rfl)) ?_
      refine wq_val (gd_f rfl rfl rfl) rfl (val_len es_27 (lkg rfl)) ?_
      refine wq_val (gd_f rfl rfl rfl) rfl ((val_slice_all es_27 (lkg rfl) none (some (.tmp 64)) 0 ps14.length rfl ⟨_, lkg rfl⟩ (fun _ => Nat.zero_le _) (fun _ => by omega)).eq (show _ = Value.slice (if c29 = 0 then some ⟨g29, 0, none⟩ else (some (⟨g29, 0, none⟩ : Addr)).map (·.add (0 * 1))) (List.take ps14.length ((enq q14 ps14 dr14 [7, IntKind.u8.wrap ((n : Nat) : Int)]).1)).length (c29 - 0) by rw [List.length_take, Nat.min_eq_left hge7]; rfl)) ?_
      refine wq_val (gd_f rfl rfl rfl) rfl (val_field fo_29_1 (lk rfl)) ?_
      refine wq_val (gd_f rfl rfl rfl) rfl (val_load1 t1_27 (lkg rfl) (cell_own (.tail _ (.tail _ (.tail _ (.tail _ (.tail _ (.tail _ (.tail _ (.tail _ (.tail _ (.head _)))))))))) fun _ => rfl)) ?_
      refine wq_call (gd_f rfl rfl rfl) rfl ci_30 (args2 (lkg rfl) (lkg rfl)) (fun hG w1 hw => samePays_c (List.take ps14.length ((enq q14 ps14 dr14 [7, IntKind.u8.wrap ((n : Nat) : Int)]).1)) ps14 _ _ _ _ _ _ _ _ w1 ((Pay.own hw (.tail _ (.tail _ (.tail _ (.tail _ (.tail _ (.head _)))))) rfl (m := 11) (Ds := [db37, da37, ds29, ds20, ds14]) rfl (j := 2) rfl hp29).sub0 hq29 _) (RowP.pay hR14 hw (.tail _ (.tail _ (.tail _ (.tail _ (.tail _ (.tail _ (.tail _ (.tail _ (.tail _ (.tail _ (.head _))))))))))) (m := 11) (Ds := [db37, da37, ds29, ds20, ds14]) rfl (j := 4) rfl) (by rw [List.length_take]; have h9 := tot_take_le ((enq q14 ps14 dr14 [7, IntKind.u8.wrap ((n : Nat) : Int)]).1) ps14.length; omega)) ?_
      refine wq_val (gd_f rfl rfl rfl) rfl (val_not (lkg rfl)) ?_
      refine wq_v rfl (val_or (lk rfl) (lkg rfl)) ?_
      refine wq_v rfl (val_move (lk rfl)) ?_
      refine wq_val (gd_f rfl rfl rfl) rfl (val_move (lk rfl)) ?_
      refine wq_val (gd_f rfl rfl rfl) rfl (val_move (lk rfl)) ?_
      refine wq_call (gd_f rfl rfl rfl) rfl ci_30 (args2 (lkg rfl) (lkg rfl)) (fun hG w1 hw => samePays_c ((enq q14 ps14 dr14 [7, IntKind.u8.wrap ((n : Nat) : Int)]).1) ((enq q14 ps14 dr14 [7, IntKind.u8.wrap ((n : Nat) : Int)]).1) _ _ _ _ _ _ _ _ w1 (Pay.own2 hw (.head _) (m := 11) (Ds := [db37, da37, ds29, ds20, ds14]) rfl (ja := 1) (jb := 0) rfl rfl hpab37) (Pay.own hw (.tail _ (.tail _ (.tail _ (.tail _ (.tail _ (.head _)))))) rfl (m := 11) (Ds := [db37, da37, ds29, ds20, ds14]) rfl (j := 2) rfl hp29) (by omega)) ?_
      refine wq_val (gd_f rfl rfl rfl) rfl (val_not (lkg rfl)) ?_
      refine wq_v rfl (val_or (lk rfl) (lkg rfl)) ?_
      refine wq_nil ?_
      refine px_then ?_
      refine wc_cond (lk rfl) (fun hc3 => ?_) (fun hc3 => ?_)
      · (exfalso; have h9 := hc3; have h8 := pb_mid (ps' := (enq q14 ps14 dr14 [7, IntKind.u8.wrap ((n : Nat) : Int)]).1) (ps := ps14) (s := 1) (by rw [hE]; exact pbw1 (ps := ps14) (by omega)) (by rw [hE]; simp); have h7 := h9.symm.trans h8; exact Bool.noConfusion h7)
      refine wc_skip ?_
      refine px_then ?_
      refine wc_seq ?_
      refine wc_region_q mo_ (by kernel_rfl) ?_
      refine wq_v rfl (val_field fo_29_2 (lk rfl)) ?_
      refine wq_v rfl (val_load1 t1_3 (lk rfl) (cell_own (.tail _ (.tail _ (.tail _ (.tail _ (.tail _ (.tail _ (.head _))))))) fun _ => rfl)) ?_
      refine wq_v rfl (val_field fo_29_2 (lk rfl)) ?_
      refine wq_v rfl (val_load1 t1_3 (lk rfl) (cell_own (.tail _ (.tail _ (.tail _ (.tail _ (.tail _ (.tail _ (.tail _ (.tail _ (.tail _ (.head _)))))))))) fun _ => rfl)) ?_
      refine wq_v rfl (val_add (lk rfl) lkc) ?_
      refine wq_v rfl (val_move (lk rfl)) ?_
      refine wq_v rfl (val_sub (lk rfl) (lk rfl)) ?_
      refine wq_v rfl (val_eql (lk rfl) (lk rfl)) ?_
      refine wq_v rfl (val_move (lk rfl)) ?_
      refine wq_val (gd_t rfl rfl rfl) rfl (val_loadB (.tail _ (.tail _ (.tail _ (.tail _ (.tail _ (.tail _ (.head _))))))) (lk rfl) ag_29) ?_
      refine wq_call (gd_t rfl rfl rfl) rfl ci_15 (args1 (lkg rfl)) (fun hG w1 hw => Valid_c _ _ _ _ _ _ _ w1 (Pay.own hw (.tail _ (.tail _ (.tail _ (.tail _ (.tail _ (.tail _ (.tail _ (.head _)))))))) rfl (m := 11) (Ds := [db37, da37, ds29, ds20, ds14]) rfl (j := 3) rfl hp20) (by omega)) ?_
      refine wq_v rfl (val_and (lk rfl) (lkg rfl)) ?_
      refine wq_v rfl (val_move (lk rfl)) ?_
      refine wq_val (gd_t rfl rfl rfl) rfl (val_loadB (.tail _ (.tail _ (.tail _ (.tail _ (.head _))))) (lk rfl) ag_29) ?_
      refine wq_call (gd_t rfl rfl rfl) rfl ci_15 (args1 (lkg rfl)) (fun hG w1 hw => Valid_c q14 ((enq q14 ps14 dr14 [7, IntKind.u8.wrap ((n : Nat) : Int)]).2) [] none 0 0 0 w1 Pay.nil (by decide)) ?_
      refine wq_v rfl (val_and (lk rfl) (lkg rfl)) ?_
      refine wq_v rfl (val_move (lk rfl)) ?_
      refine wq_val (gd_t rfl rfl rfl) rfl (val_field fo_29_1 (lk rfl)) ?_
      refine wq_val (gd_t rfl rfl rfl) rfl (val_load1 t1_27 (lkg rfl) (cell_own (.tail _ (.tail _ (.tail _ (.tail _ (.head _))))) fun _ => rfl)) ?_
      refine wq_val (gd_t rfl rfl rfl) rfl (val_len es_27 (lkg rfl)) ?_
      refine wq_val (gd_t rfl rfl rfl) rfl (val_eql (lkg rfl) lkc) ?_
      refine wq_v rfl (val_and (lk rfl) (lkg rfl)) ?_
      refine wq_v rfl (val_move (lk rfl)) ?_
      refine wq_val (gd_t rfl rfl rfl) rfl (val_field fo_29_2 (lk rfl)) ?_
      refine wq_val (gd_t rfl rfl rfl) rfl (val_load1 t1_3 (lkg rfl) (cell_own (.tail _ (.tail _ (.tail _ (.tail _ (.head _))))) fun _ => rfl)) ?_
      refine wq_val (gd_t rfl rfl rfl) rfl (val_field fo_29_2 (lk rfl)) ?_
      refine wq_val (gd_t rfl rfl rfl) rfl (val_load1 t1_3 (lkg rfl) (cell_own (.tail _ (.tail _ (.tail _ (.tail _ (.tail _ (.tail _ (.head _))))))) fun _ => rfl)) ?_
      refine wq_val (gd_t rfl rfl rfl) rfl (val_eql (lkg rfl) (lkg rfl)) ?_
      refine wq_v rfl (val_and (lk rfl) (lkg rfl)) ?_
      refine wq_v rfl (val_move (lk rfl)) ?_
      refine wq_val (gd_t rfl rfl rfl) rfl (val_loadB (.tail _ (.tail _ (.tail _ (.tail _ (.tail _ (.tail _ (.head _))))))) (lk rfl) ag_29) ?_
      refine wq_call (gd_t rfl rfl rfl) rfl ci_12 (args1 (lkg rfl)) (fun hG w1 hw => Bytes_c _ _ _ _ _ _ _ w1 (Pay.own hw (.tail _ (.tail _ (.tail _ (.tail _ (.tail _ (.tail _ (.tail _ (.head _)))))))) rfl (m := 11) (Ds := [db37, da37, ds29, ds20, ds14]) rfl (j := 3) rfl hp20) (by omega)) ?_
      refine wq_val (gd_t rfl rfl rfl) rfl (val_loadB (.tail _ (.tail _ (.tail _ (.tail _ (.tail _ (.tail _ (.tail _ (.tail _ (.tail _ (.head _)))))))))) (lk rfl) ag_29) ?_
      refine wq_call (gd_t rfl rfl rfl) rfl ci_10 (args1 (lkg rfl)) (fun hG w1 hw => sBytes_c _ _ _ _ _ _ _ w1 (RowP.pay hR14 hw (.tail _ (.tail _ (.tail _ (.tail _ (.tail _ (.tail _ (.tail _ (.tail _ (.tail _ (.tail _ (.head _))))))))))) (m := 11) (Ds := [db37, da37, ds29, ds20, ds14]) rfl (j := 4) rfl) (by omega)) ?_
      refine wq_val (gd_t rfl rfl rfl) rfl (val_move (lk rfl)) ?_
      refine wq_val (gd_t rfl rfl rfl) rfl (val_mul lkc (lkg rfl)) ?_
      refine wq_val (gd_t rfl rfl rfl) rfl (val_add (lkg rfl) (lkg rfl)) ?_
      refine wq_val (gd_t rfl rfl rfl) rfl (val_eql (lkg rfl) (lkg rfl)) ?_
      refine wq_v rfl (val_and (lk rfl) (lkg rfl)) ?_
      refine wq_v rfl (val_assign (lk rfl)) ?_
      refine wq_nil ?_
      refine px_then ?_
      refine wc_ret ?_
      refine fin1 rfl (res_tmp rfl) (fun w1 hw => ?_)
      exact ⟨congrArg (fun x => Ending.returned (.bool x)) (and6 (beq_iff_eq.2 (by rw [hE]; exact pbd1 (by omega))) (by rw [hE]; exact pbk hok hst (by show 2 ≤ 60; decide)) (by rw [hE]; exact pbn hok) rfl (by simp) (beq_iff_eq.2 (by rw [hE]; exact pbt1 (ps := ps14) (by omega) rfl))), (hw.drop (drop_new (m := 11) (Ds := [db37, da37, ds29, ds20, ds14]) rfl rfl))⟩
    have hst := of_decide_eq_false hc2
    have hE : (enq q14 ps14 dr14 [7, IntKind.u8.wrap ((n : Nat) : Int)]) = (ps14, IntKind.i64.wrap (dr14 + 1)) := enq_full (by rw [hok]; show (false || decide ((60 : Int) < ((2 : Nat) : Int))) = false; decide) hst
    refine wc_skip ?_
    refine px_then ?_
    refine wc_seq ?_
    refine wc_seq ?_
    refine wc_region_q mo_ (by kernel_rfl) ?_
    refine wq_v rfl (val_move (lk rfl)) ?_
    refine wq_v rfl (val_len es_27 (lk rfl)) ?_
    refine wq_v rfl (val_field fo_29_1 (lk rfl)) ?_
    refine wq_v rfl (val_load1 t1_27 (lk rfl) (cell_own (.tail _ (.tail _ (.tail _ (.tail _ (.tail _ (.tail _ (.tail _ (.tail _ (.tail _ (.head _)))))))))) fun _ => rfl)) ?_
    refine wq_v rfl (val_len es_27 (lk rfl)) ?_
    refine wq_v rfl (val_move (lk rfl)) ?_
    refine wq_v rfl (val_add (lk rfl) (lk rfl)) ?_
    refine wq_v rfl (val_neq (lk rfl) (lk rfl)) ?_
    refine wq_v rfl (val_move (lk rfl)) ?_
    refine wq_val (gd_f rfl rfl rfl) rfl (val_move (lk rfl)) ?_
    refine wq_val (gd_f rfl rfl rfl) rfl (val_field fo_29_1 (lk rfl)) ?_
    refine wq_val (gd_f rfl rfl rfl) rfl (val_load1 t1_27 (lkg rfl) (cell_own (.tail _ (.tail _ (.tail _ (.tail _ (.tail _ (.tail _ (.tail _ (.tail _ (.tail _ (.head _)))))))))) fun _ => rfl)) ?_
    refine wq_val (gd_f rfl rfl rfl) rfl (val_len es_27 (lkg rfl)) ?_
    refine wq_val (gd_f rfl rfl rfl) rfl ((val_slice_all es_27 (lkg rfl) none (some (.tmp 64)) 0 ps14.length rfl ⟨_, lkg rfl⟩ (fun _ => Nat.zero_le _) (fun _ => by omega)).eq (show _ = Value.slice (if c29 = 0 then some ⟨g29, 0, none⟩ else (some (⟨g29, 0, none⟩ : Addr)).map (·.add (0 * 1))) (List.take ps14.length ((enq q14 ps14 dr14 [7, IntKind.u8.wrap ((n : Nat) : Int)]).1)).length (c29 - 0) by rw [List.length_take, Nat.min_eq_left hge7]; rfl)) ?_
    refine wq_val (gd_f rfl rfl rfl) rfl (val_field fo_29_1 (lk rfl)) ?_
    refine wq_val (gd_f rfl rfl rfl) rfl (val_load1 t1_27 (lkg rfl) (cell_own (.tail _ (.tail _ (.tail _ (.tail _ (.tail _ (.tail _ (.tail _ (.tail _ (.tail _ (.head _)))))))))) fun _ => rfl)) ?_
    refine wq_call (gd_f rfl rfl rfl) rfl ci_30 (args2 (lkg rfl) (lkg rfl)) (fun hG w1 hw => samePays_c (List.take ps14.length ((enq q14 ps14 dr14 [7, IntKind.u8.wrap ((n : Nat) : Int)]).1)) ps14 _ _ _ _ _ _ _ _ w1 ((Pay.own hw (.tail _ (.tail _ (.tail _ (.tail _ (.tail _ (.head _)))))) rfl (m := 11) (Ds := [db37, da37, ds29, ds20, ds14]) rfl (j := 2) rfl hp29).sub0 hq29 _) (RowP.pay hR14 hw (.tail _ (.tail _ (.tail _ (.tail _ (.tail _ (.tail _ (.tail _ (.tail _ (.tail _ (.tail _ (.head _))))))))))) (m := 11) (Ds := [db37, da37, ds29, ds20, ds14]) rfl (j := 4) rfl) (by rw [List.length_take]; have h9 := tot_take_le ((enq q14 ps14 dr14 [7, IntKind.u8.wrap ((n : Nat) : Int)]).1) ps14.length; omega)) ?_
    refine wq_val (gd_f rfl rfl rfl) rfl (val_not (lkg rfl)) ?_
    refine wq_v rfl (val_or (lk rfl) (lkg rfl)) ?_
    refine wq_v rfl (val_move (lk rfl)) ?_
    refine wq_val (gd_f rfl rfl rfl) rfl (val_move (lk rfl)) ?_
    refine wq_val (gd_f rfl rfl rfl) rfl (val_move (lk rfl)) ?_
    refine wq_call (gd_f rfl rfl rfl) rfl ci_30 (args2 (lkg rfl) (lkg rfl)) (fun hG w1 hw => samePays_c ((enq q14 ps14 dr14 [7, IntKind.u8.wrap ((n : Nat) : Int)]).1) ((enq q14 ps14 dr14 [7, IntKind.u8.wrap ((n : Nat) : Int)]).1) _ _ _ _ _ _ _ _ w1 (Pay.own2 hw (.head _) (m := 11) (Ds := [db37, da37, ds29, ds20, ds14]) rfl (ja := 1) (jb := 0) rfl rfl hpab37) (Pay.own hw (.tail _ (.tail _ (.tail _ (.tail _ (.tail _ (.head _)))))) rfl (m := 11) (Ds := [db37, da37, ds29, ds20, ds14]) rfl (j := 2) rfl hp29) (by omega)) ?_
    refine wq_val (gd_f rfl rfl rfl) rfl (val_not (lkg rfl)) ?_
    refine wq_v rfl (val_or (lk rfl) (lkg rfl)) ?_
    refine wq_nil ?_
    refine px_then ?_
    refine wc_cond (lk rfl) (fun hc4 => ?_) (fun hc4 => ?_)
    · (exfalso; have h9 := hc4; have h8 := pb_mid (ps' := (enq q14 ps14 dr14 [7, IntKind.u8.wrap ((n : Nat) : Int)]).1) (ps := ps14) (s := 0) (by rw [hE]; exact pbw0 (ps := ps14) (by omega)) (by rw [hE]; simp); have h7 := h9.symm.trans h8; exact Bool.noConfusion h7)
    refine wc_skip ?_
    refine px_then ?_
    refine wc_seq ?_
    refine wc_region_q mo_ (by kernel_rfl) ?_
    refine wq_v rfl (val_field fo_29_2 (lk rfl)) ?_
    refine wq_v rfl (val_load1 t1_3 (lk rfl) (cell_own (.tail _ (.tail _ (.tail _ (.tail _ (.tail _ (.tail _ (.head _))))))) fun _ => rfl)) ?_
    refine wq_v rfl (val_field fo_29_2 (lk rfl)) ?_
    refine wq_v rfl (val_load1 t1_3 (lk rfl) (cell_own (.tail _ (.tail _ (.tail _ (.tail _ (.tail _ (.tail _ (.tail _ (.tail _ (.tail _ (.head _)))))))))) fun _ => rfl)) ?_
    refine wq_v rfl (val_add (lk rfl) lkc) ?_
    refine wq_v rfl (val_move (lk rfl)) ?_
    refine wq_v rfl (val_sub (lk rfl) (lk rfl)) ?_
    refine wq_v rfl (val_eql (lk rfl) (lk rfl)) ?_
    refine wq_v rfl (val_move (lk rfl)) ?_
    refine wq_val (gd_t rfl rfl rfl) rfl (val_loadB (.tail _ (.tail _ (.tail _ (.tail _ (.tail _ (.tail _ (.head _))))))) (lk rfl) ag_29) ?_
    refine wq_call (gd_t rfl rfl rfl) rfl ci_15 (args1 (lkg rfl)) (fun hG w1 hw => Valid_c _ _ _ _ _ _ _ w1 (Pay.own hw (.tail _ (.tail _ (.tail _ (.tail _ (.tail _ (.tail _ (.tail _ (.head _)))))))) rfl (m := 11) (Ds := [db37, da37, ds29, ds20, ds14]) rfl (j := 3) rfl hp20) (by omega)) ?_
    refine wq_v rfl (val_and (lk rfl) (lkg rfl)) ?_
    refine wq_v rfl (val_move (lk rfl)) ?_
    refine wq_val (gd_t rfl rfl rfl) rfl (val_loadB (.tail _ (.tail _ (.tail _ (.tail _ (.head _))))) (lk rfl) ag_29) ?_
    refine wq_call (gd_t rfl rfl rfl) rfl ci_15 (args1 (lkg rfl)) (fun hG w1 hw => Valid_c q14 ((enq q14 ps14 dr14 [7, IntKind.u8.wrap ((n : Nat) : Int)]).2) [] none 0 0 0 w1 Pay.nil (by decide)) ?_
    refine wq_v rfl (val_and (lk rfl) (lkg rfl)) ?_
    refine wq_v rfl (val_move (lk rfl)) ?_
    refine wq_val (gd_t rfl rfl rfl) rfl (val_field fo_29_1 (lk rfl)) ?_
    refine wq_val (gd_t rfl rfl rfl) rfl (val_load1 t1_27 (lkg rfl) (cell_own (.tail _ (.tail _ (.tail _ (.tail _ (.head _))))) fun _ => rfl)) ?_
    refine wq_val (gd_t rfl rfl rfl) rfl (val_len es_27 (lkg rfl)) ?_
    refine wq_val (gd_t rfl rfl rfl) rfl (val_eql (lkg rfl) lkc) ?_
    refine wq_v rfl (val_and (lk rfl) (lkg rfl)) ?_
    refine wq_v rfl (val_move (lk rfl)) ?_
    refine wq_val (gd_t rfl rfl rfl) rfl (val_field fo_29_2 (lk rfl)) ?_
    refine wq_val (gd_t rfl rfl rfl) rfl (val_load1 t1_3 (lkg rfl) (cell_own (.tail _ (.tail _ (.tail _ (.tail _ (.head _))))) fun _ => rfl)) ?_
    refine wq_val (gd_t rfl rfl rfl) rfl (val_field fo_29_2 (lk rfl)) ?_
    refine wq_val (gd_t rfl rfl rfl) rfl (val_load1 t1_3 (lkg rfl) (cell_own (.tail _ (.tail _ (.tail _ (.tail _ (.tail _ (.tail _ (.head _))))))) fun _ => rfl)) ?_
    refine wq_val (gd_t rfl rfl rfl) rfl (val_eql (lkg rfl) (lkg rfl)) ?_
    refine wq_v rfl (val_and (lk rfl) (lkg rfl)) ?_
    refine wq_v rfl (val_move (lk rfl)) ?_
    refine wq_val (gd_t rfl rfl rfl) rfl (val_loadB (.tail _ (.tail _ (.tail _ (.tail _ (.tail _ (.tail _ (.head _))))))) (lk rfl) ag_29) ?_
    refine wq_call (gd_t rfl rfl rfl) rfl ci_12 (args1 (lkg rfl)) (fun hG w1 hw => Bytes_c _ _ _ _ _ _ _ w1 (Pay.own hw (.tail _ (.tail _ (.tail _ (.tail _ (.tail _ (.tail _ (.tail _ (.head _)))))))) rfl (m := 11) (Ds := [db37, da37, ds29, ds20, ds14]) rfl (j := 3) rfl hp20) (by omega)) ?_
    refine wq_val (gd_t rfl rfl rfl) rfl (val_loadB (.tail _ (.tail _ (.tail _ (.tail _ (.tail _ (.tail _ (.tail _ (.tail _ (.tail _ (.head _)))))))))) (lk rfl) ag_29) ?_
    refine wq_call (gd_t rfl rfl rfl) rfl ci_10 (args1 (lkg rfl)) (fun hG w1 hw => sBytes_c _ _ _ _ _ _ _ w1 (RowP.pay hR14 hw (.tail _ (.tail _ (.tail _ (.tail _ (.tail _ (.tail _ (.tail _ (.tail _ (.tail _ (.tail _ (.head _))))))))))) (m := 11) (Ds := [db37, da37, ds29, ds20, ds14]) rfl (j := 4) rfl) (by omega)) ?_
    refine wq_val (gd_t rfl rfl rfl) rfl (val_move (lk rfl)) ?_
    refine wq_val (gd_t rfl rfl rfl) rfl (val_mul lkc (lkg rfl)) ?_
    refine wq_val (gd_t rfl rfl rfl) rfl (val_add (lkg rfl) (lkg rfl)) ?_
    refine wq_val (gd_t rfl rfl rfl) rfl (val_eql (lkg rfl) (lkg rfl)) ?_
    refine wq_v rfl (val_and (lk rfl) (lkg rfl)) ?_
    refine wq_v rfl (val_assign (lk rfl)) ?_
    refine wq_nil ?_
    refine px_then ?_
    refine wc_ret ?_
    refine fin1 rfl (res_tmp rfl) (fun w1 hw => ?_)
    exact ⟨congrArg (fun x => Ending.returned (.bool x)) (and6 (beq_iff_eq.2 (by rw [hE]; exact pbd0 (by omega))) (by rw [hE]; exact pbk0 hok hdr14) (by rw [hE]; exact pbn (pbk0 hok hdr14)) rfl (by simp) (beq_iff_eq.2 (by rw [hE]; exact pbt0 (ps := ps14) (by omega)))), (hw.drop (drop_new (m := 11) (Ds := [db37, da37, ds29, ds20, ds14]) rfl rfl))⟩

end Go.Proofs.Ytfinobpodmdkgaa
