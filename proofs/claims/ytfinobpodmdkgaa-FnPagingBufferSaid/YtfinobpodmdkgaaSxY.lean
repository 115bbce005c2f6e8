/- Lists of payloads: what the functions that make them do, walked. -/
import Derived.Test.YtfinobpodmdkgaaSxX
namespace Go.Proofs.Ytfinobpodmdkgaa
open Go.RowKit


/-- a list of payloads of our own: outer block, capacity, inner blocks, spare cells -/
structure PL where
  g : Nat
  c : Nat
  ds : List Inn
  sp : List Value
def PL.blk (x : PL) : Blk := ⟨x.g, true, 52, inC x.ds ++ x.sp⟩
def PL.ok (x : PL) (ps : PS) : Prop := pays x.ds = ps ∧ (inC x.ds ++ x.sp).length = x.c * 1 ∧ x.c ≤ 9223372036854775807
theorem plcap {ds : List Inn} {ps : PS} {sp : List Value} {c : Nat} (hp : pays ds = ps) (hl : (inC ds ++ sp).length = c * 1) : ps.length ≤ c := by
  rw [List.length_append, inC_len] at hl
  rw [← hp, pays_len]
  omega
theorem fillP {ds : List Inn} {cs0 : List Value} {k : Nat} (i : Inn) {v : Value} (hv : i.cell = v) (hk : ds.length = k) (h : k < cs0.length) : (inC ds ++ cs0.drop k).take (0 + k * 1) ++ [v] ++ (inC ds ++ cs0.drop k).drop (0 + k * 1 + 1) = inC (ds ++ [i]) ++ cs0.drop (k + 1) := by
  have hl : (inC ds).length = k := by rw [inC_len, hk]
  rw [Nat.zero_add, Nat.mul_one, List.take_left' hl, List.drop_append, hl, List.drop_of_length_le (by omega), List.nil_append, List.drop_drop, ← hv]
  simp [inC]
theorem HP.snoc {w0 w : World} {B : Blk} {d : Nat} {cs : List Value} {ds : List Inn} (i : Inn) (hi : i.blk = ⟨d, true, 5, cs⟩) (h : HP w0 (⟨d, true, 5, cs⟩ :: B :: inT [ds]) w) : HP w0 (B :: inT [ds ++ [i]]) w := by
  rw [← hi] at h
  refine h.perm ((List.Perm.swap _ _ _).trans (List.Perm.cons _ ?_))
  simp only [inT, List.append_nil, inB, List.map_append, List.map_cons, List.map_nil]
  exact (List.perm_append_singleton _ _).symm
theorem HP.snoc' {w0 w : World} {B : Blk} {d : Nat} {cs : List Value} {ds : List Inn} (i : Inn) (hi : i.blk = ⟨d, true, 5, cs⟩) (h : HP w0 (B :: ⟨d, true, 5, cs⟩ :: inT [ds]) w) : HP w0 (B :: inT [ds ++ [i]]) w := HP.snoc i hi (h.perm (List.Perm.swap _ _ _))
theorem pays_snoc {ds : List Inn} {ps : PS} {k : Nat} (i : Inn) (hk : k < ps.length) (h : pays ds = ps.take k) (hi : i.xs = nth [] ps k) : pays (ds ++ [i]) = ps.take (k + 1) := by
  rw [take_nth (d := ([] : List Int)) hk, ← h, ← hi]; simp [pays]
theorem pays_dl {ds : List Inn} {ps : PS} {k : Nat} (hk : k ≤ ps.length) (h : pays ds = ps.take k) : ds.length = k := by
  rw [← pays_len, h, List.length_take]; omega

theorem toPay_c (xs : List Int) (A : Option Addr) (b o c : Nat) (w : World) (hs : Sl w A b o (bv xs)) (hl : xs.length ≤ 2097152) :
    Calls Try.prog 55 #[.agg #[.slice A xs.length c]] w fun e w' => ∃ x : Nat, True ∧ e = .returned (.agg #[.slice (some ⟨x, 0, none⟩) xs.length xs.length]) ∧ HP w [⟨x, true, 5, bv xs⟩] w' := by
  refine calls_entry [] _ Try.func55 rfl Try.ntmps55 (HP.refl w) (env1 rfl) ?_
  refine wc_seq ?_
  refine wc_region ?_
  refine wl_box (lk rfl) rfl fun b1 => ?_
  refine wl_alloc zc_52 rfl fun b2 => ?_
  refine wl_nil ?_
  refine px_then ?_
  refine wc_seq ?_
  refine wc_region ?_
  refine wl_alloc zc_52 rfl fun b3 => ?_
  refine wl_nil ?_
  refine px_then ?_
  refine wc_seq ?_
  refine wc_region ?_
  refine wl_v rfl (val_field fo_65_0 (lk rfl)) ?_
  refine wl_v rfl (val_load1 t1_42 (lk rfl) (cell_own (.tail _ (.tail _ (.head _))) fun _ => rfl)) ?_
  refine wl_callx rfl ci_32 (args1 (lk rfl)) (fun w1 hw => toByteS_c xs _ _ _ _ w1 (hs.hp hw rfl) hl) (fun _ => rfl) ?_
  rintro gb6 -
  refine wl_v rfl (val_field fo_52_0 (lk rfl)) ?_
  refine wl_store1 1 rfl (lk rfl) (lk rfl) t1_42 rfl (rfl) ?_
  refine wl_nil ?_
  refine px_then ?_
  refine wc_seq ?_
  refine wc_region ?_
  refine wl_v rfl (val_loadB (.tail _ (.head _)) (lk rfl) ag_52) ?_
  refine wl_storeB 2 rfl (lk rfl) (lk rfl) ag_52 rfl rfl ?_
  refine wl_nil ?_
  refine px_then ?_
  refine wc_ret ?_
  refine fin1 rfl (res_cell rfl (.tail _ (.tail _ (.head _))) ag_52) (fun w1 hw => ?_)
  exact ⟨gb6, trivial, rfl, hw.mask [true, false, false, false] rfl⟩

theorem toPayS_c (ps : PS) (A : Option Addr) (b o c : Nat) (w : World) (hA : Pay w A b o ps) (hb : ps.length + tot ps ≤ 2097152) :
    Calls Try.prog 36 #[.slice A ps.length c] w fun e w' => ∃ x : PL, x.ok (ps) ∧ e = .returned (.slice (some ⟨x.g, 0, none⟩) (ps).length x.c) ∧ HP w ([x.blk] ++ inT [x.ds]) w' := by
  refine calls_entry [] _ Try.func36 rfl Try.ntmps36 (HP.refl w) (env1 rfl) ?_
  refine wc_seq ?_
  refine wc_region ?_
  refine wl_v rfl (val_assign lkc) ?_
  refine wl_nil ?_
  refine px_then ?_
  refine wc_seq ?_
  refine wc_region ?_
  refine wl_v rfl (val_move (lk rfl)) ?_
  refine wl_v rfl (val_len es_22 (lk rfl)) ?_
  refine wl_make es_27 zc_52 eb_52 (by omega) (by omega) (lk rfl) (lk rfl) rfl fun b1 csb1 hcsb1 => ?_
  refine wl_v rfl (val_assign (lk rfl)) ?_
  refine wl_nil ?_
  refine px_then ?_
  refine wc_seq ?_
  refine wc_seq ?_
  refine wc_region ?_
  refine wl_v rfl (val_assign lkc) ?_
  refine wl_nil ?_
  refine px_then ?_
  refine wc_block ?_
  refine wc_trim (l' := [(0, _), (2, _), (3, _), (4, _)]) ⟨rfl, rfl, rfl, rfl, trivial⟩ ?_
  refine wc_loopl (X := Nat × List Inn) (fun x => x.1 ≤ ps.length ∧ pays x.2 = ps.take x.1) (fun x => [(4, (true, .int .i64 (x.1 : Nat)))]) (fun x => ⟨b1, true, 52, inC x.2 ++ csb1.drop x.1⟩ :: inT [x.2]) (fun x => ps.length - x.1) (0, []) (⟨Nat.zero_le _, rfl⟩) ⟨rfl, rfl, rfl, rfl, rfl, trivial⟩ (fun _ h => by simpa [inC, inT, inB] using h) ?_
  rintro ⟨k, ds⟩ ⟨hk, hps⟩
  simp only at hk hps
  dsimp only
  have hdl := pays_dl hk hps
  refine wc_seq ?_
  refine wc_seq ?_
  refine wc_region ?_
  refine wl_v rfl (val_move (lk rfl)) ?_
  refine wl_v rfl (val_move (lk rfl)) ?_
  refine wl_v rfl (val_len es_22 (lk rfl)) ?_
  refine wl_v rfl (val_lss (lk rfl) (lk rfl)) ?_
  refine wl_nil ?_
  refine px_then ?_
  refine wc_cond (lk rfl) (fun hc0 => ?_) (fun hc0 => ?_)
  · have hlt : k < ps.length := by have h9 : ((k : Nat) : Int) < ((ps.length : Nat) : Int) := of_decide_eq_true hc0; omega
    obtain ⟨Bq, bq, oq, cq, hce, hsl⟩ := hA.cell k hlt
    have hn1 := tot_nth ps k
    refine wc_skip ?_
    refine px_then ?_
    refine wc_seq ?_
    refine wc_block ?_
    refine wc_region ?_
    refine wl_v rfl (val_move (lk rfl)) ?_
    refine wl_v rfl (val_move (lk rfl)) ?_
    refine wl_v rfl (val_move (lk rfl)) ?_
    refine wl_v rfl (val_move (lk rfl)) ?_
    refine wl_v rfl (val_index es_22 (lk rfl) (lk rfl) (fun hG => hA.head (by omega)) (fun hG => hlt)) ?_
    refine wl_v rfl (val_loadN ag_65 (lk rfl) rfl (cells1 (cell_old (drop_new (m := 1) (Ds := [ds]) rfl rfl) fun _ => hce))) ?_
    refine wl_callx rfl ci_55 (args1 (lk rfl)) (fun w1 hw => toPay_c _ _ _ _ _ w1 (hsl.hp hw (drop_new (m := 1) (Ds := [ds]) rfl rfl)) (by omega)) (fun _ => rfl) ?_
    rintro gb20 -
    refine wl_v rfl (val_index es_27 (lk rfl) (lk rfl) (fun hG => rfl) (fun hG => hlt)) ?_
    refine wl_storeN 1 ag_52 (lk rfl) (lk rfl) rfl rfl rfl (by rw [List.length_append, inC_len, List.length_drop]; omega) ?_
    refine wl_nil ?_
    refine px_block ?_
    refine px_then ?_
    refine wc_region ?_
    refine wl_v rfl (val_move (lk rfl)) ?_
    refine wl_v rfl (val_inc (lk rfl) (by omega)) ?_
    refine wl_v rfl (val_assign (lk rfl)) ?_
    refine wl_nil ?_
    have hfs := fillP (ds := ds) (cs0 := csb1) (⟨gb20, (nth [] ps k).length, nth [] ps k, []⟩ : Inn) rfl hdl (by omega)
    refine px_round ((k + 1, ds ++ [(⟨gb20, (nth [] ps k).length, nth [] ps k, []⟩ : Inn)])) (⟨hlt, pays_snoc _ hlt hps rfl⟩) (by show ps.length - (k + 1) < ps.length - k; omega) (⟨rfl, rfl, rfl, rfl, rfl, trivial⟩) (fun w1 h => by
      have h' : HP w (⟨gb20, true, 5, bv (nth [] ps k)⟩ :: ⟨b1, true, 52, (inC ds ++ csb1.drop k).take (0 + k * 1) ++ [.slice (some ⟨gb20, 0, none⟩) (nth [] ps k).length (nth [] ps k).length] ++ (inC ds ++ csb1.drop k).drop (0 + k * 1 + 1)⟩ :: inT [ds]) w1 := h.maskG [true, true] [(true, ds)] rfl rfl
      have e9 : (inC ds ++ csb1.drop k).take (0 + k * 1) ++ [.slice (some ⟨gb20, 0, none⟩) (nth [] ps k).length (nth [] ps k).length] ++ (inC ds ++ csb1.drop k).drop (0 + k * 1 + 1) = inC (ds ++ [(⟨gb20, (nth [] ps k).length, nth [] ps k, []⟩ : Inn)]) ++ csb1.drop (k + 1) := hfs
      rw [e9] at h'
      exact HP.snoc (⟨gb20, (nth [] ps k).length, nth [] ps k, []⟩ : Inn) (by simp [Inn.blk]) h')
  have hge : k = ps.length := by have h9 : ¬ ((k : Nat) : Int) < ((ps.length : Nat) : Int) := of_decide_eq_false hc0; omega
  subst hge
  refine wc_exit ?_
  refine px_then_exit ?_
  refine px_then_exit ?_
  refine px_block_exit ?_
  refine px_then ?_
  refine wc_seq ?_
  refine wc_region ?_
  refine wl_v rfl (val_move (lk rfl)) ?_
  refine wl_v rfl (val_assign (lk rfl)) ?_
  refine wl_nil ?_
  refine px_then ?_
  refine wc_ret ?_
  refine fin1 rfl (res_tmp rfl) (fun w1 hw => ?_)
  exact ⟨⟨b1, ps.length, ds, csb1.drop ps.length⟩, ⟨by rw [hps, List.take_length], by show (inC ds ++ csb1.drop ps.length).length = ps.length * 1; rw [List.length_append, inC_len, List.length_drop]; omega, by show ps.length ≤ _; omega⟩, rfl, hw.maskG [true] [(true, ds)] rfl rfl⟩

theorem copyPays_c (ps : PS) (A : Option Addr) (b o c : Nat) (w : World) (hA : Pay w A b o ps) (hb : ps.length + tot ps ≤ 2097152) :
    Calls Try.prog 42 #[.slice A ps.length c] w fun e w' => ∃ x : PL, x.ok (ps) ∧ e = .returned (.slice (some ⟨x.g, 0, none⟩) (ps).length x.c) ∧ HP w ([x.blk] ++ inT [x.ds]) w' := by
  refine calls_entry [] _ Try.func42 rfl Try.ntmps42 (HP.refl w) (env1 rfl) ?_
  refine wc_seq ?_
  refine wc_region ?_
  refine wl_v rfl (val_assign lkc) ?_
  refine wl_nil ?_
  refine px_then ?_
  refine wc_seq ?_
  refine wc_region ?_
  refine wl_v rfl (val_move (lk rfl)) ?_
  refine wl_v rfl (val_len es_27 (lk rfl)) ?_
  refine wl_make es_27 zc_52 eb_52 (by omega) (by omega) (lk rfl) (lk rfl) rfl fun b1 csb1 hcsb1 => ?_
  refine wl_v rfl (val_assign (lk rfl)) ?_
  refine wl_nil ?_
  refine px_then ?_
  refine wc_seq ?_
  refine wc_seq ?_
  refine wc_region ?_
  refine wl_v rfl (val_move (lk rfl)) ?_
  refine wl_v rfl (val_len es_27 (lk rfl)) ?_
  refine wl_v rfl (val_move lkc) ?_
  refine wl_nil ?_
  refine px_then ?_
  refine wc_block ?_
  refine wc_trim (l' := [(2, _), (3, _), (9, _), (10, _), (11, _)]) ⟨rfl, rfl, rfl, rfl, rfl, trivial⟩ ?_
  refine wc_loopl (X := Nat × List Inn) (fun x => x.1 ≤ ps.length ∧ pays x.2 = ps.take x.1) (fun x => [(11, (true, .int .i64 (x.1 : Nat)))]) (fun x => ⟨b1, true, 52, inC x.2 ++ csb1.drop x.1⟩ :: inT [x.2]) (fun x => ps.length - x.1) (0, []) (⟨Nat.zero_le _, rfl⟩) ⟨rfl, rfl, rfl, rfl, rfl, rfl, trivial⟩ (fun _ h => by simpa [inC, inT, inB] using h) ?_
  rintro ⟨k, ds⟩ ⟨hk, hps⟩
  simp only at hk hps
  dsimp only
  have hdl := pays_dl hk hps
  refine wc_seq ?_
  refine wc_region ?_
  refine wl_v rfl (val_lss (lk rfl) (lk rfl)) ?_
  refine wl_nil ?_
  refine px_then ?_
  refine wc_seq ?_
  refine wc_cond (lk rfl) (fun hc0 => ?_) (fun hc0 => ?_)
  · have hlt : k < ps.length := by have h9 : ((k : Nat) : Int) < ((ps.length : Nat) : Int) := of_decide_eq_true hc0; omega
    obtain ⟨Bq, bq, oq, cq, hce, hsl⟩ := hA.cell k hlt
    have hn1 := tot_nth ps k
    refine wc_skip ?_
    refine px_then ?_
    refine wc_seq ?_
    refine wc_block ?_
    refine wc_seq ?_
    refine wc_region ?_
    refine wl_v rfl (val_move (lk rfl)) ?_
    refine wl_v rfl (val_index es_27 (lk rfl) (lk rfl) (fun hG => hA.head (by omega)) (fun hG => hlt)) ?_
    refine wl_v rfl (val_loadN ag_52 (lk rfl) rfl (cells1 (cell_old (drop_new (m := 1) (Ds := [ds]) rfl rfl) fun _ => hce))) ?_
    refine wl_alloc zc_52 rfl fun b2 => ?_
    refine wl_v rfl (val_assign (lk rfl)) ?_
    refine wl_storeB 0 rfl (lk rfl) (lk rfl) ag_52 rfl rfl ?_
    refine wl_nil ?_
    refine px_then ?_
    refine wc_region ?_
    refine wl_v rfl (val_move (lk rfl)) ?_
    refine wl_v rfl (val_move (lk rfl)) ?_
    refine wl_v rfl (val_field fo_52_0 (lk rfl)) ?_
    refine wl_v rfl (val_load1 t1_42 (lk rfl) (cell_own (.head _) fun _ => rfl)) ?_
    refine wl_callx rfl ci_51 (args1 (lk rfl)) (fun w1 hw => copyBytes_c _ _ _ _ _ w1 (hsl.hp hw (drop_new (m := 2) (Ds := [ds]) rfl rfl)) (by omega)) (fun _ => rfl) ?_
    rintro gb20 -
    refine wl_v rfl (val_buildP (partsC (lk rfl) parts0) (bl_52_0 _ _ _)) ?_
    refine wl_v rfl (val_index es_27 (lk rfl) (lk rfl) (fun hG => rfl) (fun hG => hlt)) ?_
    refine wl_storeN 2 ag_52 (lk rfl) (lk rfl) rfl rfl rfl (by rw [List.length_append, inC_len, List.length_drop]; omega) ?_
    refine wl_nil ?_
    refine px_block ?_
    refine px_then ?_
    refine wc_region ?_
    refine wl_v rfl (val_inc (lk rfl) (by omega)) ?_
    refine wl_v rfl (val_move (lk rfl)) ?_
    refine wl_nil ?_
    have hfs := fillP (ds := ds) (cs0 := csb1) (⟨gb20, (nth [] ps k).length, nth [] ps k, []⟩ : Inn) rfl hdl (by omega)
    refine px_round ((k + 1, ds ++ [(⟨gb20, (nth [] ps k).length, nth [] ps k, []⟩ : Inn)])) (⟨hlt, pays_snoc _ hlt hps rfl⟩) (by show ps.length - (k + 1) < ps.length - k; omega) (⟨rfl, rfl, rfl, rfl, rfl, rfl, trivial⟩) (fun w1 h => by
      have h' : HP w (⟨gb20, true, 5, bv (nth [] ps k)⟩ :: ⟨b1, true, 52, (inC ds ++ csb1.drop k).take (0 + k * 1) ++ [.slice (some ⟨gb20, 0, none⟩) (nth [] ps k).length (nth [] ps k).length] ++ (inC ds ++ csb1.drop k).drop (0 + k * 1 + 1)⟩ :: inT [ds]) w1 := h.maskG [true, false, true] [(true, ds)] rfl rfl
      have e9 : (inC ds ++ csb1.drop k).take (0 + k * 1) ++ [.slice (some ⟨gb20, 0, none⟩) (nth [] ps k).length (nth [] ps k).length] ++ (inC ds ++ csb1.drop k).drop (0 + k * 1 + 1) = inC (ds ++ [(⟨gb20, (nth [] ps k).length, nth [] ps k, []⟩ : Inn)]) ++ csb1.drop (k + 1) := hfs
      rw [e9] at h'
      exact HP.snoc (⟨gb20, (nth [] ps k).length, nth [] ps k, []⟩ : Inn) (by simp [Inn.blk]) h')
  have hge : k = ps.length := by have h9 : ¬ ((k : Nat) : Int) < ((ps.length : Nat) : Int) := of_decide_eq_false hc0; omega
  subst hge
  refine wc_exit ?_
  refine px_then_exit ?_
  refine px_then_exit ?_
  refine px_block_exit ?_
  refine px_then ?_
  refine wc_seq ?_
  refine wc_region ?_
  refine wl_v rfl (val_move (lk rfl)) ?_
  refine wl_v rfl (val_assign (lk rfl)) ?_
  refine wl_nil ?_
  refine px_then ?_
  refine wc_ret ?_
  refine fin1 rfl (res_tmp rfl) (fun w1 hw => ?_)
  exact ⟨⟨b1, ps.length, ds, csb1.drop ps.length⟩, ⟨by rw [hps, List.take_length], by show (inC ds ++ csb1.drop ps.length).length = ps.length * 1; rw [List.length_append, inC_len, List.length_drop]; omega, by show ps.length ≤ _; omega⟩, rfl, hw.maskG [true] [(true, ds)] rfl rfl⟩


structure BL where
  k : Nat
  x : PL
theorem nsn {ds : List Inn} (g c : Nat) (xs : List Int) (sp : List Value) : inC ds ++ [.slice (some ⟨g, 0, none⟩) xs.length c] = inC (ds ++ [⟨g, c, xs, sp⟩]) := by simp [inC, Inn.cell]

theorem bodies_c (ps : PS) (A : Option Addr) (b o c : Nat) (w : World) (hA : Pay w A b o ps) (hb : ps.length + tot ps ≤ 2097152) :
    Calls Try.prog 41 #[.slice A ps.length c] w fun e w' => ∃ x : PL, x.ok (ps) ∧ e = .returned (.slice (some ⟨x.g, 0, none⟩) (ps).length x.c) ∧ HP w ([x.blk] ++ inT [x.ds]) w' := by
  refine calls_entry [] _ Try.func41 rfl Try.ntmps41 (HP.refl w) (env1 rfl) ?_
  refine wc_seq ?_
  refine wc_region ?_
  refine wl_v rfl (val_assign lkc) ?_
  refine wl_nil ?_
  refine px_then ?_
  refine wc_seq ?_
  refine wc_region ?_
  refine wl_bslice parts0 bsl_27_0_ rfl fun b1 => ?_
  refine wl_v rfl (val_assign (lk rfl)) ?_
  refine wl_nil ?_
  refine px_then ?_
  refine wc_seq ?_
  refine wc_seq ?_
  refine wc_region ?_
  refine wl_v rfl (val_assign lkc) ?_
  refine wl_nil ?_
  refine px_then ?_
  refine wc_block ?_
  refine wc_trim (l' := [(0, _), (2, _), (3, _), (4, _)]) ⟨rfl, rfl, rfl, rfl, trivial⟩ ?_
  refine wc_loopl (X := Nat × PL) (fun x => x.1 ≤ ps.length ∧ x.2.ok (ps.take x.1)) (fun x => [(3, (true, .slice (some ⟨x.2.g, 0, none⟩) x.1 x.2.c)), (4, (true, .int .i64 (x.1 : Nat)))]) (fun x => x.2.blk :: inT [x.2.ds]) (fun x => ps.length - x.1) (0, ⟨b1, 0, [], []⟩) (⟨Nat.zero_le _, rfl, rfl, Nat.zero_le _⟩) ⟨rfl, rfl, rfl, rfl, rfl, rfl, trivial⟩ (fun _ h => by simpa [inC, inT, inB, PL.blk] using h) ?_
  rintro ⟨k, g, c, ds, sp⟩ ⟨hk, hps, hl, hc⟩
  simp only at hk hps hl hc
  dsimp only
  have hdl := pays_dl hk hps
  refine wc_seq ?_
  refine wc_seq ?_
  refine wc_region ?_
  refine wl_v rfl (val_move (lk rfl)) ?_
  refine wl_v rfl (val_move (lk rfl)) ?_
  refine wl_v rfl (val_len es_27 (lk rfl)) ?_
  refine wl_v rfl (val_lss (lk rfl) (lk rfl)) ?_
  refine wl_nil ?_
  refine px_then ?_
  refine wc_cond (lk rfl) (fun hc0 => ?_) (fun hc0 => ?_)
  · have hlt : k < ps.length := by have h9 : ((k : Nat) : Int) < ((ps.length : Nat) : Int) := of_decide_eq_true hc0; omega
    obtain ⟨Bq, bq, oq, cq, hce, hsl⟩ := hA.cell k hlt
    have hn1 := tot_nth ps k
    refine wc_skip ?_
    refine px_then ?_
    refine wc_seq ?_
    refine wc_block ?_
    refine wc_region ?_
    refine wl_v rfl (val_move (lk rfl)) ?_
    refine wl_bslice parts0 bsl_42_0_ rfl fun b2 => ?_
    refine wl_v rfl (val_move (lk rfl)) ?_
    refine wl_v rfl (val_move (lk rfl)) ?_
    refine wl_v rfl (val_index es_27 (lk rfl) (lk rfl) (fun hG => hA.head (by omega)) (fun hG => hlt)) ?_
    refine wl_v rfl (val_field fo_52_0 (lk rfl)) ?_
    refine wl_v rfl (val_load1 t1_42 (lk rfl) (cell_old (drop_new (m := 2) (Ds := [ds]) rfl rfl) fun _ => hce)) ?_
    refine wl_appendE (ys := bv (nth [] ps k)) (m := (nth [] ps k).length) 0 es_42 zc_5 rfl (by decide) eb_5 (lk rfl) rfl rfl (by decide) (lk rfl) (fun _ hw => hsl.hp hw (drop_new (m := 2) (Ds := [ds]) rfl rfl)) (by rw [bv_len, Nat.mul_one]) (fun _ h => bv_one h) (by omega) (by omega) rfl fun g19 c19 sp19 hl19 hc19 => ?_
    refine wl_v rfl (val_buildP (partsC (lk rfl) parts0) (bl_52_0 _ _ _)) ?_
    refine wl_bslice (partsC (lk rfl) parts0) (bsl_27_1_0 _ _ _) rfl fun b3 => ?_
    refine wl_append (xs := inC ds) (sp := sp) (ys := [.slice (some ⟨g19, 0, none⟩) (nth [] ps k).length c19]) (m := 1) 2 es_27 zc_52 rfl (by decide) eb_52 (lk rfl) rfl (by rw [inC_len, Nat.mul_one]; exact hdl) hl hc (lk rfl) (fun _ hw => Sl.own' hw (.head _)) rfl (fun u hu => by have h9 := List.mem_singleton.1 hu; rw [h9]; rfl) (by omega) (by omega) rfl fun g22 c22 sp22 hl22 hc22 _ => ?_
    refine wl_v rfl (val_assign (lk rfl)) ?_
    refine wl_nil ?_
    refine px_block ?_
    refine px_then ?_
    refine wc_region ?_
    refine wl_v rfl (val_move (lk rfl)) ?_
    refine wl_v rfl (val_inc (lk rfl) (by omega)) ?_
    refine wl_v rfl (val_assign (lk rfl)) ?_
    refine wl_nil ?_
    refine px_round ((k + 1, ⟨g22, c22, ds ++ [(⟨g19, c19, nth [] ps k, sp19⟩ : Inn)], sp22⟩)) (⟨hlt, pays_snoc _ hlt hps rfl, by have h9 := hl22; rw [nsn g19 c19 _ sp19] at h9; exact h9, hc22⟩) (by show ps.length - (k + 1) < ps.length - k; omega) (⟨rfl, rfl, rfl, rfl, rfl, rfl, trivial⟩) (fun w1 h => by
      have h' : HP w (⟨g22, true, 52, inC ds ++ [.slice (some ⟨g19, 0, none⟩) (nth [] ps k).length c19] ++ sp22⟩ :: ⟨g19, true, 5, bv (nth [] ps k) ++ sp19⟩ :: inT [ds]) w1 := h.maskG [true, false, true] [(true, ds)] rfl rfl
      rw [nsn g19 c19 _ sp19] at h'
      exact HP.snoc' (⟨g19, c19, nth [] ps k, sp19⟩ : Inn) rfl h')
  have hge : k = ps.length := by have h9 : ¬ ((k : Nat) : Int) < ((ps.length : Nat) : Int) := of_decide_eq_false hc0; omega
  subst hge
  refine wc_exit ?_
  refine px_then_exit ?_
  refine px_then_exit ?_
  refine px_block_exit ?_
  refine px_then ?_
  refine wc_seq ?_
  refine wc_region ?_
  refine wl_v rfl (val_move (lk rfl)) ?_
  refine wl_v rfl (val_assign (lk rfl)) ?_
  refine wl_nil ?_
  refine px_then ?_
  refine wc_ret ?_
  refine fin1 rfl (res_tmp rfl) (fun w1 hw => ?_)
  exact ⟨⟨g, c, ds, sp⟩, ⟨by rw [hps, List.take_length], hl, hc⟩, rfl, hw.maskG [true] [(true, ds)] rfl rfl⟩

theorem toBuf_c (q dr : Int) (ps : PS) (A : Option Addr) (b o c : Nat) (w : World) (hA : Pay w A b o ps) (hb : ps.length + tot ps ≤ 2097152) :
    Calls Try.prog 11 #[.agg #[.int .i64 q, .slice A ps.length c, .int .i64 dr]] w fun e w' => ∃ x : PL, x.ok (ps) ∧ e = .returned (.agg #[.int .i64 (q), .slice (some ⟨x.g, 0, none⟩) (ps).length x.c, .int .i64 (dr)]) ∧ HP w ([x.blk] ++ inT [x.ds]) w' := by
  refine calls_entry [] _ Try.func11 rfl Try.ntmps11 (HP.refl w) (env1 rfl) ?_
  refine wc_seq ?_
  refine wc_region ?_
  refine wl_box (lk rfl) rfl fun b1 => ?_
  refine wl_alloc zc_29 rfl fun b2 => ?_
  refine wl_nil ?_
  refine px_then ?_
  refine wc_seq ?_
  refine wc_region ?_
  refine wl_alloc zc_29 rfl fun b3 => ?_
  refine wl_nil ?_
  refine px_then ?_
  refine wc_seq ?_
  refine wc_region ?_
  refine wl_v rfl (val_field fo_24_0 (lk rfl)) ?_
  refine wl_v rfl (val_load1 t1_3 (lk rfl) (cell_own (.tail _ (.tail _ (.head _))) fun _ => rfl)) ?_
  refine wl_v rfl (val_field fo_29_0 (lk rfl)) ?_
  refine wl_store1 0 rfl (lk rfl) (lk rfl) t1_3 rfl (rfl) ?_
  refine wl_nil ?_
  refine px_then ?_
  refine wc_seq ?_
  refine wc_region ?_
  refine wl_v rfl (val_field fo_24_1 (lk rfl)) ?_
  refine wl_v rfl (val_load1 t1_22 (lk rfl) (cell_own (.tail _ (.tail _ (.head _))) fun _ => rfl)) ?_
  refine wl_callU (Ds := []) 3 rfl ci_36 (args1 (lk rfl)) rfl (fun w1 hw => toPayS_c ps _ _ _ _ w1 (hA.hpT hw (m := 3) (Ds := []) rfl rfl) (by omega)) (fun _ => rfl) ?_
  rintro ⟨g9, c9, ds9, sp9⟩ ⟨hp9, hl9, hc9⟩
  simp only at hp9 hl9 hc9
  have hq9 := plcap hp9 hl9
  refine wl_v rfl (val_field fo_29_1 (lk rfl)) ?_
  refine wl_store1 1 rfl (lk rfl) (lk rfl) t1_27 rfl (rfl) ?_
  refine wl_nil ?_
  refine px_then ?_
  refine wc_seq ?_
  refine wc_region ?_
  refine wl_v rfl (val_field fo_24_2 (lk rfl)) ?_
  refine wl_v rfl (val_load1 t1_3 (lk rfl) (cell_own (.tail _ (.tail _ (.tail _ (.head _)))) fun _ => rfl)) ?_
  refine wl_v rfl (val_field fo_29_2 (lk rfl)) ?_
  refine wl_store1 1 rfl (lk rfl) (lk rfl) t1_3 rfl (rfl) ?_
  refine wl_nil ?_
  refine px_then ?_
  refine wc_seq ?_
  refine wc_region ?_
  refine wl_v rfl (val_loadB (.tail _ (.head _)) (lk rfl) ag_29) ?_
  refine wl_storeB 2 rfl (lk rfl) (lk rfl) ag_29 rfl rfl ?_
  refine wl_nil ?_
  refine px_then ?_
  refine wc_ret ?_
  refine fin1 rfl (res_cell rfl (.tail _ (.tail _ (.head _))) ag_29) (fun w1 hw => ?_)
  exact ⟨⟨g9, c9, ds9, sp9⟩, ⟨hp9, hl9, hc9⟩, rfl, hw.maskG [true, false, false, false] [(true, ds9)] rfl rfl⟩

theorem copyBuf_c (q dr : Int) (ps : PS) (A : Option Addr) (b o c : Nat) (w : World) (hA : Pay w A b o ps) (hb : ps.length + tot ps ≤ 2097152) :
    Calls Try.prog 50 #[.agg #[.int .i64 q, .slice A ps.length c, .int .i64 dr]] w fun e w' => ∃ x : PL, x.ok (ps) ∧ e = .returned (.agg #[.int .i64 (q), .slice (some ⟨x.g, 0, none⟩) (ps).length x.c, .int .i64 (dr)]) ∧ HP w ([x.blk] ++ inT [x.ds]) w' := by
  refine calls_entry [] _ Try.func50 rfl Try.ntmps50 (HP.refl w) (env1 rfl) ?_
  refine wc_seq ?_
  refine wc_region ?_
  refine wl_box (lk rfl) rfl fun b1 => ?_
  refine wl_alloc zc_29 rfl fun b2 => ?_
  refine wl_nil ?_
  refine px_then ?_
  refine wc_seq ?_
  refine wc_region ?_
  refine wl_v rfl (val_field fo_29_1 (lk rfl)) ?_
  refine wl_v rfl (val_load1 t1_27 (lk rfl) (cell_own (.tail _ (.head _)) fun _ => rfl)) ?_
  refine wl_callU (Ds := []) 2 rfl ci_42 (args1 (lk rfl)) rfl (fun w1 hw => copyPays_c _ _ _ _ _ w1 (hA.hpT hw (m := 2) (Ds := []) rfl rfl) (by omega)) (fun _ => rfl) ?_
  rintro ⟨g5, c5, ds5, sp5⟩ ⟨hp5, hl5, hc5⟩
  simp only at hp5 hl5 hc5
  have hq5 := plcap hp5 hl5
  refine wl_v rfl (val_field fo_29_1 (lk rfl)) ?_
  refine wl_store1 2 rfl (lk rfl) (lk rfl) t1_27 rfl (rfl) ?_
  refine wl_nil ?_
  refine px_then ?_
  refine wc_seq ?_
  refine wc_region ?_
  refine wl_v rfl (val_loadB (.tail _ (.tail _ (.head _))) (lk rfl) ag_29) ?_
  refine wl_storeB 1 rfl (lk rfl) (lk rfl) ag_29 rfl rfl ?_
  refine wl_nil ?_
  refine px_then ?_
  refine wc_ret ?_
  refine fin1 rfl (res_cell rfl (.tail _ (.head _)) ag_29) (fun w1 hw => ?_)
  exact ⟨⟨g5, c5, ds5, sp5⟩, ⟨hp5, hl5, hc5⟩, rfl, hw.maskG [true, false, false] [(true, ds5)] rfl rfl⟩

theorem sCopyBuf_c (q dr : Int) (ps : PS) (A : Option Addr) (b o c : Nat) (w : World) (hA : Pay w A b o ps) (hb : ps.length + tot ps ≤ 2097152) :
    Calls Try.prog 53 #[.agg #[.int .i64 q, .slice A ps.length c, .int .i64 dr]] w fun e w' => ∃ x : PL, x.ok (ps) ∧ e = .returned (.agg #[.int .i64 (q), .slice (some ⟨x.g, 0, none⟩) (ps).length x.c, .int .i64 (dr)]) ∧ HP w ([x.blk] ++ inT [x.ds]) w' := by
  refine calls_entry [] _ Try.func53 rfl Try.ntmps53 (HP.refl w) (env1 rfl) ?_
  refine wc_seq ?_
  refine wc_region ?_
  refine wl_box (lk rfl) rfl fun b1 => ?_
  refine wl_alloc zc_29 rfl fun b2 => ?_
  refine wl_nil ?_
  refine px_then ?_
  refine wc_seq ?_
  refine wc_region_aL 8 9 mo_ rfl ?_
  refine wa_take 0 rfl (by kernel_rfl) (by kernel_rfl) (by kernel_rfl) (by kernel_rfl) (fun _ h => h.dropN 0 rfl) gd_none rfl (val_field fo_29_0 (lk rfl)) ?_
  refine wa_take 1 rfl (by kernel_rfl) (by kernel_rfl) (by kernel_rfl) (by kernel_rfl) (fun _ h => h.dropN 0 rfl) gd_none rfl (val_load1 t1_3 (lk rfl) (cell_own (.tail _ (.head _)) fun _ => rfl)) ?_
  refine wa_take 2 rfl (by kernel_rfl) (by kernel_rfl) (by kernel_rfl) (by kernel_rfl) (fun _ h => h.dropN 0 rfl) gd_none rfl (val_field fo_29_1 (lk rfl)) ?_
  refine wa_take 3 rfl (by kernel_rfl) (by kernel_rfl) (by kernel_rfl) (by kernel_rfl) (fun _ h => h.dropN 0 rfl) gd_none rfl (val_load1 t1_27 (lk rfl) (cell_own (.tail _ (.head _)) fun _ => rfl)) ?_
  refine wa_take 5 rfl (by kernel_rfl) (by kernel_rfl) (by kernel_rfl) (by kernel_rfl) (fun _ h => h.dropN 0 rfl) gd_none rfl (val_field fo_29_2 (lk rfl)) ?_
  refine wa_take 6 rfl (by kernel_rfl) (by kernel_rfl) (by kernel_rfl) (by kernel_rfl) (fun _ h => h.dropN 0 rfl) gd_none rfl (val_load1 t1_3 (lk rfl) (cell_own (.tail _ (.head _)) fun _ => rfl)) ?_
  refine wa_only 4 (by kernel_rfl) rfl ?_
  refine wl_callU (Ds := []) 2 rfl ci_41 (args1 (lk rfl)) rfl (fun w1 hw => bodies_c _ _ _ _ _ w1 (hA.hpT hw (m := 2) (Ds := []) rfl rfl) (by omega)) (fun _ => rfl) ?_
  rintro ⟨g7, c7, ds7, sp7⟩ ⟨hp7, hl7, hc7⟩
  simp only at hp7 hl7 hc7
  have hq7 := plcap hp7 hl7
  refine wl_nil (px_qn (fun _ h => h.maskG [false, true, true] [(false, ds7)] rfl rfl) ?_)
  refine wa_take 7 rfl (by kernel_rfl) (by kernel_rfl) (by kernel_rfl) (by kernel_rfl) (fun _ h => h.maskG [false, true, true] [(false, ds7)] rfl rfl) gd_none rfl (val_buildP (partsC (lk rfl) (partsC (lk rfl) (partsC (lk rfl) parts0))) (bl_29_0_1_2 _ _ _ _ _)) ?_
  refine wa_only 8 (by kernel_rfl) rfl ?_
  refine wl_storeB 1 rfl (lk rfl) (lk rfl) ag_29 rfl rfl ?_
  refine wl_nil (px_ql ?_)
  refine wa_done (by kernel_rfl) ?_
  refine px_then ?_
  refine wc_ret ?_
  refine fin1 rfl (res_cell rfl (.tail _ (.head _)) ag_29) (fun w1 hw => ?_)
  exact ⟨⟨g7, c7, ds7, sp7⟩, ⟨hp7, hl7, hc7⟩, rfl, hw.maskG [true, false, false] [(true, ds7)] rfl rfl⟩

end Go.Proofs.Ytfinobpodmdkgaa
