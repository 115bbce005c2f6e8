/- Lists of payloads: what the functions that mark or make them do, walked. -/
import Derived.Test.YtfinobpodmdkgaaSxW
namespace Go.Proofs.Ytfinobpodmdkgaa
open Go.RowKit


def dI : Inn := ⟨0, 0, [], []⟩
def mkD : Nat → List Inn → List Inn
  | _, [] => []
  | k, i :: r => ⟨i.d, i.c, mk8 k i.xs.length, i.sp⟩ :: mkD (k + i.xs.length) r
theorem mkD_len : ∀ (k : Nat) (ds : List Inn), (mkD k ds).length = ds.length
  | _, [] => rfl
  | k, i :: r => by simp [mkD, mkD_len]
theorem pays_mkD : ∀ (k : Nat) (ds : List Inn), pays (mkD k ds) = mkP k (pays ds)
  | _, [] => rfl
  | k, i :: r => by
    have := pays_mkD (k + i.xs.length) r
    simp only [pays, mkD, mkP, List.map_cons] at this ⊢
    rw [this]
theorem pays_mk (k : Nat) {ds : List Inn} {ps : PS} (h : pays ds = ps) : pays (mkD k ds) = mkP k ps := by rw [pays_mkD, h]
theorem mkD_num : ∀ (k : Nat) (ds : List Inn), (inB (mkD k ds)).map (fun e => (e.b, e.new)) = (inB ds).map fun e => (e.b, e.new)
  | _, [] => rfl
  | k, i :: r => by
    have := mkD_num (k + i.xs.length) r
    simp only [inB, mkD, List.map_cons, Inn.blk] at this ⊢
    rw [this]
theorem inC_mkD : ∀ (k : Nat) (ds : List Inn), inC (mkD k ds) = inC ds
  | _, [] => rfl
  | k, i :: r => by
    have := inC_mkD (k + i.xs.length) r
    simp only [inC, mkD, List.map_cons, Inn.cell, mk8_len] at this ⊢
    rw [this]
theorem mkD_append : ∀ (k : Nat) (ds es : List Inn), mkD k (ds ++ es) = mkD k ds ++ mkD (k + tot (pays ds)) es
  | k, [], es => by simp [mkD, pays, tot]
  | k, i :: r, es => by
    have := mkD_append (k + i.xs.length) r es
    simp only [List.cons_append, mkD, this, pays, List.map_cons, tot]
    rw [Nat.add_assoc]
theorem mkD_snoc (k0 : Nat) {ds : List Inn} {k : Nat} (hk : k < ds.length) : mkD k0 (ds.take (k + 1)) = mkD k0 (ds.take k) ++ [⟨(nth dI ds k).d, (nth dI ds k).c, mk8 (k0 + tot (pays (ds.take k))) (nth dI ds k).xs.length, (nth dI ds k).sp⟩] := by
  rw [take_nth (d := dI) hk, mkD_append]; rfl
def mix (k0 : Nat) (ds : List Inn) (k : Nat) : List Inn := mkD k0 (ds.take k) ++ ds.drop k
theorem mix_get (k0 : Nat) {ds : List Inn} {k : Nat} (hk : k < ds.length) : (oldB (inB (mix k0 ds k)))[k]? = some ⟨(nth dI ds k).d, false, 5, bv (nth dI ds k).xs ++ (nth dI ds k).sp⟩ := by
  have hl : (mkD k0 (ds.take k)).length = k := by rw [mkD_len, List.length_take]; omega
  simp only [oldB, inB, List.map_map, List.getElem?_map, mix]
  rw [List.getElem?_append_right (by omega), hl, Nat.sub_self, drop_nth (d := dI) hk]
  rfl
theorem mix_step (k0 : Nat) {ds : List Inn} {k : Nat} (hk : k < ds.length) :
    (oldB (inB (mix k0 ds k))).set k ⟨(nth dI ds k).d, false, 5, bv (mk8 (k0 + tot (pays (ds.take k))) (nth dI ds k).xs.length) ++ (bv (nth dI ds k).xs ++ (nth dI ds k).sp).drop (nth dI ds k).xs.length⟩ = oldB (inB (mix k0 ds (k + 1))) := by
  have hl : (mkD k0 (ds.take k)).length = k := by rw [mkD_len, List.length_take]; omega
  have e : (bv (nth dI ds k).xs ++ (nth dI ds k).sp).drop (nth dI ds k).xs.length = (nth dI ds k).sp := by
    rw [List.drop_left' (bv_len _)]
  rw [e, mix, mix, mkD_snoc k0 hk, drop_nth (d := dI) hk]
  simp only [oldB, inB, List.map_append, List.map_cons, List.append_assoc, List.singleton_append]
  rw [List.set_append_right _ _ (by simp [hl])]
  simp only [List.length_map, hl, Nat.sub_self, List.set_cons_zero]
  rfl
/-- what a marking needs: the outer cells, the inner blocks -/
structure Mark (w : World) (A : Option Addr) (g : Nat) (ds : List Inn) : Prop where
  head : 0 < ds.length → A = some ⟨g, 0, none⟩
  cell : ∀ k, k < ds.length → w.cell? ⟨g, 0 + k * 1, none⟩ = some (.slice (some ⟨(nth dI ds k).d, 0, none⟩) (nth dI ds k).xs.length (nth dI ds k).c)
  own : HP w (oldB (inB ds)) w
  ne : ∀ e ∈ inB ds, e.b ≠ g
theorem Mark.nil {w : World} {A : Option Addr} {g : Nat} : Mark w A g [] := ⟨fun h => absurd h (by simp), fun k hk => absurd hk (by simp), HP.refl w, fun e he => absurd he (by simp [inB])⟩
theorem Mark.of {w0 w : World} {bs : List Blk} {g j m : Nat} {nw : Bool} {t : TypeId} {ds : List Inn} {sp : List Value} {Ds : List (List Inn)} (hw : HP w0 bs w) (hm : (⟨g, nw, t, inC ds ++ sp⟩ : Blk) ∈ bs.take m) (hbs : bs.drop m = inT Ds) (hj : Ds[j]? = some ds) : Mark w (some ⟨g, 0, none⟩) g ds := by
  have hmb := List.mem_of_mem_take hm
  have hin := drop_mem hbs hj
  have hnd : (inB ds).map (·.b) |>.Nodup := by
    obtain ⟨R, p1, _⟩ := inT_set ds hj
    have h1 : (inT Ds).map (·.b) |>.Nodup := by
      rw [← hbs]
      exact ((List.drop_sublist m bs).map (·.b)).nodup hw.nodup
    have h2 := (p1.map (·.b)).nodup_iff.1 h1
    rw [List.map_append, List.nodup_append] at h2
    exact h2.1
  refine ⟨fun _ => rfl, fun k hk => ?_, ⟨rfl, rfl, rfl, Nat.le_refl _, fun _ _ _ => rfl, fun e he => ?_, fun e he hn => ?_, ?_⟩, fun e he heg => ?_⟩
  · rw [hw.cell hmb, Nat.zero_add, Nat.mul_one, List.getElem?_append_left (by rw [inC_len]; exact hk), nth_eq hk]
    simp [inC, hk, Inn.cell]
  · obtain ⟨f, hf, rfl⟩ := List.mem_map.1 he
    exact hw.own f (hin f hf)
  · obtain ⟨f, hf, rfl⟩ := List.mem_map.1 he
    cases hn
  · rw [oldB, List.map_map]
    exact hnd
  · have h1 := hw.nodup
    rw [← List.take_append_drop m bs, List.map_append, List.nodup_append] at h1
    refine h1.2.2 _ (List.mem_map.2 ⟨_, hm, rfl⟩) _ (List.mem_map.2 ⟨e, ?_, rfl⟩) heg.symm
    rw [hbs]
    exact inT_mem hj he
theorem oldB_ne {ds : List Inn} {g : Nat} (k0 : Nat) (k : Nat) (h : ∀ e ∈ inB ds, e.b ≠ g) : ∀ e ∈ oldB (inB (mix k0 ds k)), e.new = true ∨ e.b ≠ g := by
  intro e he
  right
  obtain ⟨f, hf, rfl⟩ := List.mem_map.1 he
  have h1 : (f.b, f.new) ∈ (inB (mix k0 ds k)).map (fun e => (e.b, e.new)) := List.mem_map.2 ⟨f, hf, rfl⟩
  have h2 : (inB (mix k0 ds k)).map (fun e => (e.b, e.new)) = (inB ds).map fun e => (e.b, e.new) := by
    have := mkD_num k0 (ds.take k)
    rw [mix, inB, List.map_append, List.map_append]
    rw [inB] at this
    rw [this]
    conv => rhs; rw [← List.take_append_drop k ds]
    rw [inB, inB, List.map_append, List.map_append]
  rw [h2] at h1
  obtain ⟨q, hq, hqe⟩ := List.mem_map.1 h1
  have : q.b = f.b := by simpa using congrArg Prod.fst hqe
  rw [← this]
  exact h q hq
theorem pays_take (ds : List Inn) (k : Nat) : pays (ds.take k) = (pays ds).take k := by simp [pays]
theorem pays_nth {ds : List Inn} {k : Nat} (h : k < ds.length) : nth [] (pays ds) k = (nth dI ds k).xs := by
  rw [nth_eq (by rw [pays_len]; exact h), nth_eq h]; simp [pays]

theorem markPayS_c (ds : List Inn) (ps : PS) (A : Option Addr) (g c k0 : Nat) (w : World) (hM : Mark w A g ds) (hp : pays ds = ps) (hb : ps.length + tot ps ≤ 2097152) (hk0 : k0 ≤ 1099511627776 - 4194304) :
    Calls Try.prog 20 #[.slice A ps.length c, .int .i64 (k0 : Nat)] w fun e w' => ∃ _ : Unit, True ∧ e = .returned (.int .i64 ((k0 + tot ps : Nat) : Int)) ∧ HP w (oldB (inB (mkD k0 ds))) w' := by
  have hpl : ps.length = ds.length := by rw [← hp, pays_len]
  refine calls_entry (oldB (inB ds)) _ Try.func20 rfl Try.ntmps20 (hM.own) (env2 rfl) ?_
  refine wc_seq ?_
  refine wc_region ?_
  refine wl_v rfl (val_assign lkc) ?_
  refine wl_nil ?_
  refine px_then ?_
  refine wc_seq ?_
  refine wc_seq ?_
  refine wc_region ?_
  refine wl_v rfl (val_assign lkc) ?_
  refine wl_nil ?_
  refine px_then ?_
  refine wc_block ?_
  refine wc_trim (l' := [(0, _), (1, _), (4, _), (5, _)]) ⟨rfl, rfl, rfl, rfl, trivial⟩ ?_
  refine wc_loopl (X := Nat) (fun k => k ≤ ps.length) (fun k => [(1, (true, .int .i64 ((k0 + tot (ps.take k) : Nat) : Int))), (5, (true, .int .i64 (k : Nat)))]) (fun k => oldB (inB (mix k0 ds k))) (fun k => ps.length - k) 0 (Nat.zero_le _) ⟨slotN (by simp [tot]), rfl, rfl, slotN (by simp [tot]), rfl, rfl, trivial⟩ (fun _ h => h) ?_
  intro k hk
  refine wc_seq ?_
  refine wc_seq ?_
  refine wc_region ?_
  refine wl_v rfl (val_move (lk rfl)) ?_
  refine wl_v rfl (val_move (lk rfl)) ?_
  refine wl_v rfl (val_len es_27 (lk rfl)) ?_
  refine wl_v rfl (val_lss (lk rfl) (lk rfl)) ?_
  refine wl_nil ?_
  refine px_then ?_
  refine wc_cond (lk rfl) (fun hc0 => ?_) (fun hc0 => ?_)
  · have hlt : k < ps.length := by have h9 : ((k : Nat) : Int) < ((ps.length : Nat) : Int) := of_decide_eq_true hc0; omega
    have hld : k < ds.length := by omega
    have hn1 := tot_nth ps k
    have hn2 := tot_take_le ps k
    rw [← hp, pays_nth hld] at hn1
    rw [← hp, ← pays_take] at hn2
    refine wc_skip ?_
    refine px_then ?_
    refine wc_seq ?_
    refine wc_block ?_
    refine wc_region ?_
    refine wl_v rfl (val_move (lk rfl)) ?_
    refine wl_v rfl (val_move (lk rfl)) ?_
    refine wl_v rfl (val_index es_27 (lk rfl) (lk rfl) (fun hG => hM.head (by omega)) (fun hG => hlt)) ?_
    refine wl_v rfl (val_field fo_52_0 (lk rfl)) ?_
    refine wl_v rfl (val_load1 t1_42 (lk rfl) (cell_ne (oldB_ne k0 k hM.ne) fun _ => hM.cell k hld)) ?_
    refine wl_v rfl (val_move (lk rfl)) ?_
    have ea : k0 + tot (ps.take k) = k0 + tot (pays (ds.take k)) := by rw [pays_take, hp]
    refine wl_callw k rfl ci_34 (args2 (lk rfl) (lk rfl)) (mix_get k0 hld) (fun w1 hw => by rw [ea]; exact markByteS_c _ _ _ _ _ _ w1 (fun _ => rfl) (hw.own _ (List.mem_of_getElem? (mix_get k0 hld))) (by rw [hp] at hn1; omega) (by rw [hp] at hn2; omega) (by rw [List.length_append, bv_len]; omega)) (fun _ => rfl) ?_
    rintro ⟨⟩ -
    refine wl_v rfl (val_assign (lk rfl)) ?_
    refine wl_nil ?_
    refine px_block ?_
    refine px_then ?_
    refine wc_region ?_
    refine wl_v rfl (val_move (lk rfl)) ?_
    refine wl_v rfl (val_inc (lk rfl) (by omega)) ?_
    refine wl_v rfl (val_assign (lk rfl)) ?_
    refine wl_nil ?_
    refine px_round (k + 1) (by omega) (by omega) (⟨slotN (by rw [tot_take ps k hlt, ← hp, pays_nth hld, pays_take]; omega), rfl, rfl, slotN (by rw [tot_take ps k hlt, ← hp, pays_nth hld, pays_take]; omega), rfl, rfl, trivial⟩) (fun w1 h => by rw [mix_step k0 hld] at h; exact h)
  have hge : k = ps.length := by have h9 : ¬ ((k : Nat) : Int) < ((ps.length : Nat) : Int) := of_decide_eq_false hc0; omega
  subst hge
  refine wc_exit ?_
  refine px_then_exit ?_
  refine px_then_exit ?_
  refine px_block_exit ?_
  refine px_then ?_
  refine wc_seq ?_
  refine wc_region ?_
  refine wl_v rfl (val_move (lk rfl)) ?_
  refine wl_v rfl (val_assign (lk rfl)) ?_
  refine wl_nil ?_
  refine px_then ?_
  refine wc_ret ?_
  refine fin1 rfl (res_tmp rfl) (fun w1 hw => ?_)
  have h9 : mix k0 ds ps.length = mkD k0 ds := by rw [mix, hpl, List.take_length, List.drop_length, List.append_nil]
  rw [h9] at hw
  exact ⟨(), trivial, by rw [List.take_length], hw⟩

theorem markBuf_c (q dr : Int) (ds : List Inn) (ps : PS) (A : Option Addr) (g c k0 : Nat) (w : World) (hM : Mark w A g ds) (hp : pays ds = ps) (hb : ps.length + tot ps ≤ 2097152) (hk0 : k0 ≤ 1099511627776 - 4194304) :
    Calls Try.prog 19 #[.agg #[.int .i64 q, .slice A ps.length c, .int .i64 dr], .int .i64 (k0 : Nat)] w fun e w' => ∃ _ : Unit, True ∧ e = .returned (.int .i64 ((k0 + tot ps : Nat) : Int)) ∧ HP w (oldB (inB (mkD k0 ds))) w' := by
  refine calls_entry (oldB (inB ds)) _ Try.func19 rfl Try.ntmps19 (hM.own) (env2 rfl) ?_
  refine wc_seq ?_
  refine wc_region ?_
  refine wl_box (lk rfl) rfl fun b1 => ?_
  refine wl_v rfl (val_assign lkc) ?_
  refine wl_nil ?_
  refine px_then ?_
  refine wc_seq ?_
  refine wc_region ?_
  refine wl_v rfl (val_field fo_29_1 (lk rfl)) ?_
  refine wl_v rfl (val_load1 t1_27 (lk rfl) (cell_own (.head _) fun _ => rfl)) ?_
  refine wl_v rfl (val_move (lk rfl)) ?_
  refine wl_callV (B := oldB (inB ds)) (B' := fun _ : Unit => oldB (inB (mkD k0 ds))) rfl ci_20 (args2 (lk rfl) (lk rfl)) (List.perm_append_singleton _ _).symm (fun _ _ => by have h9 := mkD_num k0 ds; simpa [oldB, Function.comp_def] using congrArg (List.map fun p : Nat × Bool => (p.1, false)) h9) (fun w1 hw => by rw [oldB_old]; exact markPayS_c ds ps _ _ _ _ w1 ⟨hM.head, fun k hk => cell_ne (G := true) (fun e he => by rcases List.mem_cons.1 he with rfl | he; exact .inl rfl; exact oldB_ne k0 0 hM.ne e (by simpa [mix, mkD] using he)) (fun _ => hM.cell k hk) w1 hw rfl, ⟨rfl, rfl, rfl, Nat.le_refl _, fun _ _ _ => rfl, fun e he => hw.own e (List.mem_cons_of_mem _ he), fun e he hn => (by obtain ⟨f, _, rfl⟩ := List.mem_map.1 he; cases hn), hM.own.nodup⟩, hM.ne⟩ hp hb hk0) ?_
  rintro ⟨⟩ -
  refine wl_v rfl (val_assign (lk rfl)) ?_
  refine wl_nil ?_
  refine px_then ?_
  refine wc_seq ?_
  refine wc_region ?_
  refine wl_v rfl (val_move (lk rfl)) ?_
  refine wl_v rfl (val_assign (lk rfl)) ?_
  refine wl_nil ?_
  refine px_then ?_
  refine wc_ret ?_
  refine fin1 rfl (res_tmp rfl) (fun w1 hw => ?_)
  exact ⟨(), trivial, rfl, (hw.perm (List.perm_append_singleton _ _)).tail rfl⟩

end Go.Proofs.Ytfinobpodmdkgaa
