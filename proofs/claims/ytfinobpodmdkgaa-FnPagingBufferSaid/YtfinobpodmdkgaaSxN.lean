/- What a draw reads: the cursor, walked. -/
import Derived.Test.YtfinobpodmdkgaaSxQ
namespace Go.Proofs.Ytfinobpodmdkgaa
open Go.RowKit


def encI (n : Int) : List Int := [n]
theorem encI_len (n : Int) : (encI n).length = 1 := rfl
def eqI (m n : Int) : Bool := m == n
theorem eqI_refl (n : Int) : eqI n n = true := by simp [eqI]
abbrev d0I : Int := 0


/-- bytes that are read: n of them from (b, o) on -/
structure Cod (w : World) (A : Option Addr) (n b o : Nat) : Prop where
  byte : ∀ j, j < n → A = some ⟨b, o, none⟩ ∧ ∃ k : Int, (0 ≤ k ∧ k ≤ 255) ∧ w.cell? ⟨b, o + j * 1, none⟩ = some (.int .u8 k)
  big : n ≤ 9223372036854775807
/-- .. beside the cursor's block -/
structure Code (w : World) (A : Option Addr) (n b o cb : Nat) : Prop where
  cod : Cod w A n b o
  ne : 0 < n → b ≠ cb
def curC (A : Option Addr) (n c i : Nat) (h : Int) : List Value := [.slice A n c, .int .i64 (i : Nat), .int .i64 h]
theorem Cod.ne {w0 w : World} {bs : List Blk} {A : Option Addr} {n b o : Nat} (hk : Cod w0 A n b o) (hw : HP w0 bs w) (hbs : 0 < n → ∀ e ∈ bs, e.new = true ∨ e.b ≠ b) : Cod w A n b o :=
  ⟨fun j hj => by
    obtain ⟨hA, k, hk1, hk2⟩ := hk.byte j hj
    exact ⟨hA, k, hk1, cell_ne (G := true) (hbs (by omega)) (fun _ => hk2) w hw rfl⟩, hk.big⟩
theorem Cod.hp {w0 w : World} {bs : List Blk} {A : Option Addr} {n b o : Nat} (hk : Cod w0 A n b o) (hw : HP w0 bs w) (hbs : bs.all (·.new) = true) : Cod w A n b o :=
  hk.ne hw fun _ e he => .inl (by simpa using (List.all_eq_true.1 hbs) e he)
theorem Cod.lt {w : World} {A : Option Addr} {n b o : Nat} (hk : Cod w A n b o) (h : 0 < n) : b < w.heap.size := by
  obtain ⟨_, k, _, h2⟩ := hk.byte 0 h
  exact World.block_lt_of_cell? w _ h2
theorem Cod.cur {w0 w : World} {bs : List Blk} {A : Option Addr} {n b o cb : Nat} {t : TypeId} {cs : List Value} (hk : Cod w0 A n b o) (hw : HP w0 bs w) (hbs : bs.all (·.new) = true) (hm : (⟨cb, true, t, cs⟩ : Blk) ∈ bs) : Code w A n b o cb :=
  ⟨hk.hp hw hbs, fun h => by
    have h1 := hk.lt h
    have h2 := hw.fresh _ hm rfl
    simp only at h2
    omega⟩
theorem Code.hp {w0 w : World} {bs : List Blk} {A : Option Addr} {n b o cb : Nat} (hk : Code w0 A n b o cb) (hw : HP w0 bs w) (hbs : ∀ e ∈ bs, e.new = true ∨ e.b = cb) : Code w A n b o cb :=
  ⟨hk.cod.ne hw fun h e he => (hbs e he).imp id (fun h2 => by rw [h2]; exact fun h3 => hk.ne h h3.symm), hk.ne⟩
theorem HP.ne {w0 w : World} {bs : List Blk} (h : HP w0 bs w) (i j : Nat) {e f : Blk} (hi : bs[i]? = some e) (hj : bs[j]? = some f) (hij : Nat.blt i j = true) : e.b ≠ f.b := by
  have hp := h.nodup
  unfold List.Nodup at hp
  rw [List.pairwise_iff_getElem] at hp
  obtain ⟨hil, hie⟩ := List.getElem?_eq_some_iff.1 hi
  obtain ⟨hjl, hje⟩ := List.getElem?_eq_some_iff.1 hj
  have := hp i j (by simpa using hil) (by simpa using hjl) (blt_lt hij)
  simpa [hie, hje] using this
def Bel (m r : Int) : Prop := 0 ≤ r ∧ (0 < m → r < m) ∧ (m ≤ 0 → r = 0)
theorem bel_mod {x m : Int} (h : 0 ≤ x) (hm : ¬ m ≤ 0) : Bel m (x.tmod m) := ⟨Int.tmod_nonneg m h, fun hp => Int.tmod_lt_of_pos x hp, fun hn => absurd hn hm⟩

theorem big_c (A : Option Addr) (n c : Nat) (w : World) :
    Calls Try.prog 25 #[.slice A n c] w fun e w' => e = .returned (.bool (decide ((1048576 : Int) < (n : Nat)))) ∧ HP w [] w' := by
  refine calls_entry [] _ Try.func25 rfl Try.ntmps25 (HP.refl w) (env1 rfl) ?_
  refine wc_seq ?_
  refine wc_region ?_
  refine wl_v rfl (val_assign lkc) ?_
  refine wl_nil ?_
  refine px_then ?_
  refine wc_seq ?_
  refine wc_region ?_
  refine wl_v rfl (val_move (lk rfl)) ?_
  refine wl_v rfl (val_len es_42 (lk rfl)) ?_
  refine wl_v rfl (val_gtr (lk rfl) lkc) ?_
  refine wl_v rfl (val_assign (lk rfl)) ?_
  refine wl_nil ?_
  refine px_then ?_
  refine wc_ret ?_
  refine fin1 rfl (res_tmp rfl) (fun w1 hw => ?_)
  exact ⟨rfl, (hw.drop rfl)⟩

theorem at_c (A : Option Addr) (n b o c : Nat) (j : Int) (w : World) (hk : Cod w A n b o) (hn : n ≤ 1048576) (hj : 0 ≤ j ∧ j ≤ 1000) :
    Calls Try.prog 29 #[.slice A n c, .int .i64 j] w fun e w' => ∃ x : Int × Unit, (0 ≤ x.1 ∧ x.1 ≤ 255) ∧ e = .returned (.int .i64 x.1) ∧ HP w [] w' := by
  obtain ⟨j, rfl⟩ : ∃ k : Nat, j = (k : Int) := ⟨j.toNat, by omega⟩
  refine calls_entry [] _ Try.func29 rfl Try.ntmps29 (HP.refl w) (env2 rfl) ?_
  refine wc_seq ?_
  refine wc_region ?_
  refine wl_v rfl (val_assign lkc) ?_
  refine wl_nil ?_
  refine px_then ?_
  refine wc_seq ?_
  refine wc_seq ?_
  refine wc_region ?_
  refine wl_v rfl (val_move (lk rfl)) ?_
  refine wl_v rfl (val_move (lk rfl)) ?_
  refine wl_v rfl (val_len es_42 (lk rfl)) ?_
  refine wl_v rfl (val_lss (lk rfl) (lk rfl)) ?_
  refine wl_nil ?_
  refine px_then ?_
  refine wc_cond (lk rfl) (fun hc0 => ?_) (fun hc0 => ?_)
  · have hlt : j < n := by have := of_decide_eq_true hc0; omega
    obtain ⟨hA, kk, hkk, hce⟩ := hk.byte j hlt
    refine wc_seq ?_
    refine wc_region ?_
    refine wl_v rfl (val_move (lk rfl)) ?_
    refine wl_v rfl (val_move (lk rfl)) ?_
    refine wl_v rfl (val_index es_42 (lk rfl) (lk rfl) (fun hG => hA) (fun hG => hlt)) ?_
    refine wl_v rfl (val_load1 t1_5 (lk rfl) (cell_old rfl fun _ => hce)) ?_
    refine wl_v rfl (val_conv (by kernel_rfl) Try.underlying3 (lk rfl)) ?_
    refine wl_v rfl (val_assign (lk rfl)) ?_
    refine wl_nil ?_
    refine px_then ?_
    refine wc_ret ?_
    refine px_then_ret ?_
    refine fin1 rfl (res_tmp rfl) (fun w1 hw => ?_)
    exact ⟨(kk, ()), hkk, by rw [wrap64_in' (by omega)], hw.drop rfl⟩
  refine wc_skip ?_
  refine px_then ?_
  refine wc_seq ?_
  refine wc_region ?_
  refine wl_v rfl (val_move (lk rfl)) ?_
  refine wl_v rfl (val_mul (lk rfl) lkc) ?_
  refine wl_v rfl (val_move (lk rfl)) ?_
  refine wl_v rfl (val_len es_42 (lk rfl)) ?_
  refine wl_v rfl (val_mul (lk rfl) lkc) ?_
  refine wl_v rfl (val_add (lk rfl) (lk rfl)) ?_
  refine wl_v rfl (val_rem (lk rfl) lkc (fun _ => by decide)) ?_
  refine wl_v rfl (val_assign (lk rfl)) ?_
  refine wl_nil ?_
  refine px_then ?_
  refine wc_ret ?_
  refine fin1 rfl (res_tmp rfl) (fun w1 hw => ?_)
  refine ⟨(_, ()), ?_, rfl, hw.drop rfl⟩
  show 0 ≤ Int.tmod _ _ ∧ Int.tmod _ _ ≤ 255
  rw [wrap64_in' (i := (j : Int) * 31) (by omega), wrap64_in' (i := (n : Int) * 7) (by omega), wrap64_in' (by omega)]
  have h1 := Int.tmod_nonneg 256 (show (0 : Int) ≤ (j : Int) * 31 + (n : Int) * 7 by omega)
  have h2 := Int.tmod_lt_of_pos ((j : Int) * 31 + (n : Int) * 7) (show (0 : Int) < 256 by decide)
  omega

theorem l1New_c (A : Option Addr) (n b o c : Nat) (w : World) (hk : Cod w A n b o) :
    Calls Try.prog 56 #[.slice A n c] w fun e w' => ∃ x : Nat × Int, True ∧ e = .returned (.pointer (some ⟨x.1, 0, none⟩)) ∧ HP w [⟨x.1, true, 70, curC A n c 0 x.2⟩] w' := by
  have hbig := hk.big
  refine calls_entry [] _ Try.func56 rfl Try.ntmps56 (HP.refl w) (env1 rfl) ?_
  refine wc_seq ?_
  refine wc_region ?_
  refine wl_v rfl (val_assign lkc) ?_
  refine wl_nil ?_
  refine px_then ?_
  refine wc_seq ?_
  refine wc_region ?_
  refine wl_v rfl (val_move (lk rfl)) ?_
  refine wl_v rfl (val_len es_42 (lk rfl)) ?_
  refine wl_v rfl (val_add lkc (lk rfl)) ?_
  refine wl_v rfl (val_assign (lk rfl)) ?_
  refine wl_nil ?_
  refine px_then ?_
  refine wc_seq ?_
  refine wc_seq ?_
  refine wc_region ?_
  refine wl_v rfl (val_assign lkc) ?_
  refine wl_nil ?_
  refine px_then ?_
  refine wc_block ?_
  refine wc_trim (l' := [(0, _), (2, _), (3, _), (4, _)]) ⟨rfl, rfl, rfl, rfl, trivial⟩ ?_
  refine wc_loop0 (X := Nat × Int) (fun x => x.1 ≤ n) (fun x => [(3, (true, .int .i64 x.2)), (4, (true, .int .i64 (x.1 : Nat)))]) (fun x => n - x.1) (0, _) (Nat.zero_le _) ⟨rfl, rfl, rfl, rfl, rfl, rfl, trivial⟩ ?_
  rintro ⟨k, h⟩ hk0
  simp only at hk0
  refine wc_seq ?_
  refine wc_seq ?_
  refine wc_region ?_
  refine wl_v rfl (val_move (lk rfl)) ?_
  refine wl_v rfl (val_move (lk rfl)) ?_
  refine wl_v rfl (val_len es_42 (lk rfl)) ?_
  refine wl_v rfl (val_lss (lk rfl) (lk rfl)) ?_
  refine wl_v rfl (val_move (lk rfl)) ?_
  refine wl_val (gd_t rfl rfl rfl) rfl (val_move (lk rfl)) ?_
  refine wl_val (gd_t rfl rfl rfl) rfl (val_lss (lkg rfl) lkc) ?_
  refine wl_v rfl (val_and (lk rfl) (lkg rfl)) ?_
  refine wl_nil ?_
  refine px_then ?_
  refine wc_cond (lk rfl) (fun hc0 => ?_) (fun hc0 => ?_)
  · have hlt : k < n := by have := (Bool.and_eq_true _ _ ▸ hc0 : _ ∧ _).1; have := of_decide_eq_true this; omega
    obtain ⟨hA, kk, hkk, hce⟩ := hk.byte k hlt
    refine wc_skip ?_
    refine px_then ?_
    refine wc_seq ?_
    refine wc_block ?_
    refine wc_region ?_
    refine wl_v rfl (val_move (lk rfl)) ?_
    refine wl_v rfl (val_mul (lk rfl) lkc) ?_
    refine wl_v rfl (val_move (lk rfl)) ?_
    refine wl_v rfl (val_move (lk rfl)) ?_
    refine wl_v rfl (val_index es_42 (lk rfl) (lk rfl) (fun hG => hA) (fun hG => hlt)) ?_
    refine wl_v rfl (val_load1 t1_5 (lk rfl) (cell_old rfl fun _ => hce)) ?_
    refine wl_v rfl (val_conv (by kernel_rfl) Try.underlying3 (lk rfl)) ?_
    refine wl_v rfl (val_add (lk rfl) (lk rfl)) ?_
    refine wl_v rfl (val_add (lk rfl) lkc) ?_
    refine wl_vg rfl (val_andI (lk rfl) lkc) ?_
    intro r27 hr27
    refine wl_v rfl (val_assign (lk rfl)) ?_
    refine wl_nil ?_
    refine px_block ?_
    refine px_then ?_
    refine wc_region ?_
    refine wl_v rfl (val_move (lk rfl)) ?_
    refine wl_v rfl (val_inc (lk rfl) (by omega)) ?_
    refine wl_v rfl (val_assign (lk rfl)) ?_
    refine wl_nil ?_
    refine px_round0 ((k + 1, _)) (hlt) (by show n - (k + 1) < n - k; omega) (⟨rfl, rfl, rfl, rfl, rfl, rfl, trivial⟩) (fun _ h => h.dropN 0 rfl)
  refine wc_exit ?_
  refine px_then_exit ?_
  refine px_then_exit ?_
  refine px_block_exit ?_
  refine px_then ?_
  refine wc_seq ?_
  refine wc_region ?_
  refine wl_v rfl (val_move (lk rfl)) ?_
  refine wl_v rfl (val_move (lk rfl)) ?_
  refine wl_v rfl (val_buildP (partsC (lk rfl) (partsC (lk rfl) parts0)) (bl_70_0_2 _ _ _ _)) ?_
  refine wl_box (lk rfl) rfl fun b1 => ?_
  refine wl_v rfl (val_assign (lk rfl)) ?_
  refine wl_nil ?_
  refine px_then ?_
  refine wc_ret ?_
  refine fin1 rfl (res_tmp rfl) (fun w1 hw => ?_)
  exact ⟨(b1, h), trivial, rfl, hw⟩

theorem l1Byte_c (A : Option Addr) (n b o c cb i : Nat) (h : Int) (w : World) (hk : Code w A n b o cb) (hb : w.heap[cb]? = some (.cells (curC A n c i h).toArray 70 (0, 0))) :
    Calls Try.prog 64 #[.pointer (some ⟨cb, 0, none⟩)] w fun e w' => ∃ x : Int × Nat × Int, (0 ≤ x.1 ∧ x.1 ≤ 255) ∧ e = .returned (.int .i64 x.1) ∧ HP w [⟨cb, false, 70, curC A n c x.2.1 x.2.2⟩] w' := by
  have hbig := hk.cod.big
  refine calls_entry [⟨cb, false, 70, curC A n c i h⟩] _ Try.func64 rfl Try.ntmps64 (HP.one hb) (env1 rfl) ?_
  refine wc_seq ?_
  refine wc_region ?_
  refine wl_v rfl (val_assign lkc) ?_
  refine wl_nil ?_
  refine px_then ?_
  refine wc_seq ?_
  refine wc_region ?_
  refine wl_v rfl (val_move (lk rfl)) ?_
  refine wl_v rfl (val_move (lk rfl)) ?_
  refine wl_v rfl (val_nilCheck (lk rfl)) ?_
  refine wl_v rfl (val_field fo_70_2 (lk rfl)) ?_
  refine wl_v rfl (val_load1 t1_3 (lk rfl) (cell_own (.head _) fun _ => rfl)) ?_
  refine wl_v rfl (val_mul (lk rfl) lkc) ?_
  refine wl_v rfl (val_add (lk rfl) lkc) ?_
  refine wl_v rfl (val_nilCheck (lk rfl)) ?_
  refine wl_v rfl (val_field fo_70_2 (lk rfl)) ?_
  refine wl_store1 0 rfl (lk rfl) (lk rfl) t1_3 rfl (rfl) ?_
  refine wl_nil ?_
  refine px_then ?_
  refine wc_seq ?_
  refine wc_region_q mo_ (by kernel_rfl) ?_
  refine wq_v rfl (val_move (lk rfl)) ?_
  refine wq_v rfl (val_nilCheck (lk rfl)) ?_
  refine wq_v rfl (val_field fo_70_2 (lk rfl)) ?_
  refine wq_v rfl (val_load1 t1_3 (lk rfl) (cell_own (.head _) fun _ => rfl)) ?_
  refine wq_vg rfl (val_shr (lk rfl) lkc (fun _ => by decide)) ?_
  intro r17 hr17
  refine wq_v rfl (val_move (lk rfl)) ?_
  refine wq_v rfl (val_nilCheck (lk rfl)) ?_
  refine wq_v rfl (val_field fo_70_2 (lk rfl)) ?_
  refine wq_v rfl (val_load1 t1_3 (lk rfl) (cell_own (.head _) fun _ => rfl)) ?_
  refine wq_vg rfl (val_shr (lk rfl) lkc (fun _ => by decide)) ?_
  intro r22 hr22
  refine wq_vg rfl (val_xorI (lk rfl) (lk rfl)) ?_
  intro r23 hr23
  refine wq_vg rfl (val_andI (lk rfl) lkc) ?_
  intro r24 hr24
  refine wq_v rfl (val_assign (lk rfl)) ?_
  refine wq_nil ?_
  refine px_then ?_
  refine wc_seq ?_
  refine wc_seq ?_
  refine wc_region_q mo_ (by kernel_rfl) ?_
  refine wq_v rfl (val_move (lk rfl)) ?_
  refine wq_v rfl (val_nilCheck (lk rfl)) ?_
  refine wq_v rfl (val_field fo_70_1 (lk rfl)) ?_
  refine wq_v rfl (val_load1 t1_3 (lk rfl) (cell_own (.head _) fun _ => rfl)) ?_
  refine wq_v rfl (val_move (lk rfl)) ?_
  refine wq_v rfl (val_nilCheck (lk rfl)) ?_
  refine wq_v rfl (val_field fo_70_0 (lk rfl)) ?_
  refine wq_v rfl (val_load1 t1_42 (lk rfl) (cell_own (.head _) fun _ => rfl)) ?_
  refine wq_v rfl (val_len es_42 (lk rfl)) ?_
  refine wq_v rfl (val_lss (lk rfl) (lk rfl)) ?_
  refine wq_nil ?_
  refine px_then ?_
  refine wc_cond (lk rfl) (fun hc0 => ?_) (fun hc0 => ?_)
  · have hlt : i < n := by have := of_decide_eq_true hc0; omega
    obtain ⟨hA, kk, hkk, hce⟩ := hk.cod.byte i hlt
    refine wc_seq ?_
    refine wc_region_q mo_ (by kernel_rfl) ?_
    refine wq_v rfl (val_move (lk rfl)) ?_
    refine wq_v rfl (val_move (lk rfl)) ?_
    refine wq_v rfl (val_nilCheck (lk rfl)) ?_
    refine wq_v rfl (val_field fo_70_0 (lk rfl)) ?_
    refine wq_v rfl (val_load1 t1_42 (lk rfl) (cell_own (.head _) fun _ => rfl)) ?_
    refine wq_v rfl (val_move (lk rfl)) ?_
    refine wq_v rfl (val_nilCheck (lk rfl)) ?_
    refine wq_v rfl (val_field fo_70_1 (lk rfl)) ?_
    refine wq_v rfl (val_load1 t1_3 (lk rfl) (cell_own (.head _) fun _ => rfl)) ?_
    refine wq_v rfl (val_index es_42 (lk rfl) (lk rfl) (fun hG => hA) (fun hG => hlt)) ?_
    refine wq_v rfl (val_load1 t1_5 (lk rfl) (cell_ne (by simp; exact fun h3 => hk.ne (by omega) h3.symm) fun _ => hce)) ?_
    refine wq_v rfl (val_conv (by kernel_rfl) Try.underlying3 (lk rfl)) ?_
    refine wq_v rfl (val_add (lk rfl) (lk rfl)) ?_
    refine wq_vg rfl (val_andI (lk rfl) lkc) ?_
    intro r48 hr48
    refine wq_v rfl (val_assign (lk rfl)) ?_
    refine wq_nil ?_
    refine px_then ?_
    refine wc_region ?_
    refine wl_v rfl (val_move (lk rfl)) ?_
    refine wl_v rfl (val_move (lk rfl)) ?_
    refine wl_v rfl (val_nilCheck (lk rfl)) ?_
    refine wl_v rfl (val_field fo_70_1 (lk rfl)) ?_
    refine wl_v rfl (val_load1 t1_3 (lk rfl) (cell_own (.head _) fun _ => rfl)) ?_
    refine wl_v rfl (val_inc (lk rfl) (by omega)) ?_
    refine wl_v rfl (val_nilCheck (lk rfl)) ?_
    refine wl_v rfl (val_field fo_70_1 (lk rfl)) ?_
    refine wl_store1 0 rfl (lk rfl) (lk rfl) t1_3 rfl (rfl) ?_
    refine wl_nil ?_
    refine px_then ?_
    refine wc_seq ?_
    refine wc_region ?_
    refine wl_v rfl (val_move (lk rfl)) ?_
    refine wl_v rfl (val_assign (lk rfl)) ?_
    refine wl_nil ?_
    refine px_then ?_
    refine wc_ret ?_
    refine fin1 rfl (res_tmp rfl) (fun w1 hw => ?_)
    exact ⟨(r48, i + 1, _), by rw [hr48]; exact band_255 _, rfl, hw⟩
  refine wc_skip ?_
  refine px_then ?_
  refine wc_seq ?_
  refine wc_region ?_
  refine wl_v rfl (val_move (lk rfl)) ?_
  refine wl_v rfl (val_assign (lk rfl)) ?_
  refine wl_nil ?_
  refine px_then ?_
  refine wc_ret ?_
  refine fin1 rfl (res_tmp rfl) (fun w1 hw => ?_)
  exact ⟨(r24, i, _), by rw [hr24]; exact band_255 _, rfl, hw⟩

theorem l1Below_c (A : Option Addr) (n b o c cb i : Nat) (h : Int) (m : Int) (w : World) (hk : Code w A n b o cb) (hb : w.heap[cb]? = some (.cells (curC A n c i h).toArray 70 (0, 0))) :
    Calls Try.prog 60 #[.pointer (some ⟨cb, 0, none⟩), .int .i64 m] w fun e w' => ∃ x : Int × Nat × Int, (Bel m x.1) ∧ e = .returned (.int .i64 x.1) ∧ HP w [⟨cb, false, 70, curC A n c x.2.1 x.2.2⟩] w' := by
  refine calls_entry [⟨cb, false, 70, curC A n c i h⟩] _ Try.func60 rfl Try.ntmps60 (HP.one hb) (env2 rfl) ?_
  refine wc_seq ?_
  refine wc_region ?_
  refine wl_v rfl (val_assign lkc) ?_
  refine wl_nil ?_
  refine px_then ?_
  refine wc_seq ?_
  refine wc_seq ?_
  refine wc_region ?_
  refine wl_v rfl (val_move (lk rfl)) ?_
  refine wl_v rfl (val_leq (lk rfl) lkc) ?_
  refine wl_nil ?_
  refine px_then ?_
  refine wc_cond (lk rfl) (fun hc0 => ?_) (fun hc0 => ?_)
  · have hm := of_decide_eq_true hc0
    refine wc_seq ?_
    refine wc_region ?_
    refine wl_v rfl (val_assign lkc) ?_
    refine wl_nil ?_
    refine px_then ?_
    refine wc_ret ?_
    refine px_then_ret ?_
    refine fin1 rfl (res_tmp rfl) (fun w1 hw => ?_)
    exact ⟨(_, i, h), ⟨Int.le_refl _, fun h3 => by omega, fun _ => rfl⟩, rfl, hw⟩
  have hm := of_decide_eq_false hc0
  refine wc_skip ?_
  refine px_then ?_
  refine wc_seq ?_
  refine wc_seq ?_
  refine wc_region ?_
  refine wl_v rfl (val_move (lk rfl)) ?_
  refine wl_v rfl (val_leq (lk rfl) lkc) ?_
  refine wl_nil ?_
  refine px_then ?_
  refine wc_cond (lk rfl) (fun hc1 => ?_) (fun hc1 => ?_)
  · refine wc_seq ?_
    refine wc_region ?_
    refine wl_v rfl (val_move (lk rfl)) ?_
    refine wl_callw 0 rfl ci_64 (args1 (lk rfl)) rfl (fun w1 hw => l1Byte_c _ _ _ _ _ _ _ _ w1 (hk.hp hw (by simp)) (hw.own _ (.head _))) (fun _ => rfl) ?_
    rintro ⟨x13, i13, h13⟩ hx13
    simp only at hx13
    refine wl_v rfl (val_move (lk rfl)) ?_
    refine wl_v rfl (val_rem (lk rfl) (lk rfl) (fun _ => by omega)) ?_
    refine wl_v rfl (val_assign (lk rfl)) ?_
    refine wl_nil ?_
    refine px_then ?_
    refine wc_ret ?_
    refine px_then_ret ?_
    refine fin1 rfl (res_tmp rfl) (fun w1 hw => ?_)
    exact ⟨(_, i13, h13), bel_mod hx13.1 hm, rfl, hw⟩
  refine wc_skip ?_
  refine px_then ?_
  refine wc_seq ?_
  refine wc_region ?_
  refine wl_v rfl (val_move (lk rfl)) ?_
  refine wl_callw 0 rfl ci_64 (args1 (lk rfl)) rfl (fun w1 hw => l1Byte_c _ _ _ _ _ _ _ _ w1 (hk.hp hw (by simp)) (hw.own _ (.head _))) (fun _ => rfl) ?_
  rintro ⟨x17, i17, h17⟩ hx17
  simp only at hx17
  refine wl_v rfl (val_assign (lk rfl)) ?_
  refine wl_nil ?_
  refine px_then ?_
  refine wc_seq ?_
  refine wc_region ?_
  refine wl_v rfl (val_move (lk rfl)) ?_
  refine wl_callw 0 rfl ci_64 (args1 (lk rfl)) rfl (fun w1 hw => l1Byte_c _ _ _ _ _ _ _ _ w1 (hk.hp hw (by simp)) (hw.own _ (.head _))) (fun _ => rfl) ?_
  rintro ⟨x19, i19, h19⟩ hx19
  simp only at hx19
  refine wl_v rfl (val_assign (lk rfl)) ?_
  refine wl_nil ?_
  refine px_then ?_
  refine wc_seq ?_
  refine wc_region ?_
  refine wl_v rfl (val_move (lk rfl)) ?_
  refine wl_callw 0 rfl ci_64 (args1 (lk rfl)) rfl (fun w1 hw => l1Byte_c _ _ _ _ _ _ _ _ w1 (hk.hp hw (by simp)) (hw.own _ (.head _))) (fun _ => rfl) ?_
  rintro ⟨x21, i21, h21⟩ hx21
  simp only at hx21
  refine wl_v rfl (val_assign (lk rfl)) ?_
  refine wl_nil ?_
  refine px_then ?_
  refine wc_seq ?_
  refine wc_region ?_
  refine wl_v rfl (val_move (lk rfl)) ?_
  refine wl_v rfl (val_mul (lk rfl) lkc) ?_
  refine wl_v rfl (val_move (lk rfl)) ?_
  refine wl_v rfl (val_mul (lk rfl) lkc) ?_
  refine wl_v rfl (val_add (lk rfl) (lk rfl)) ?_
  refine wl_v rfl (val_move (lk rfl)) ?_
  refine wl_v rfl (val_add (lk rfl) (lk rfl)) ?_
  refine wl_v rfl (val_move (lk rfl)) ?_
  refine wl_v rfl (val_rem (lk rfl) (lk rfl) (fun _ => by omega)) ?_
  refine wl_v rfl (val_assign (lk rfl)) ?_
  refine wl_nil ?_
  refine px_then ?_
  refine wc_ret ?_
  refine fin1 rfl (res_tmp rfl) (fun w1 hw => ?_)
  have e1 : (0 : Int) ≤ IntKind.i64.wrap (IntKind.i64.wrap (IntKind.i64.wrap (x17 * 65536) + IntKind.i64.wrap (x19 * 256)) + x21) := by
    rw [wrap64_in' (i := x17 * 65536) (by omega), wrap64_in' (i := x19 * 256) (by omega), wrap64_in' (i := x17 * 65536 + x19 * 256) (by omega), wrap64_in' (by omega)]; omega
  exact ⟨(_, i21, h21), bel_mod e1 hm, rfl, hw⟩

theorem l1Int_c (A : Option Addr) (n b o c cb i : Nat) (h : Int) (xs : List Int) (L : Option Addr) (lb lo lc : Nat) (w : World) (hk : Code w A n b o cb) (hb : w.heap[cb]? = some (.cells (curC A n c i h).toArray 70 (0, 0))) (hs : Sl w L lb lo (flat encI xs)) (hne : lb ≠ cb) (hx : 0 < xs.length) (hxm : xs.length ≤ 1000) :
    Calls Try.prog 61 #[.pointer (some ⟨cb, 0, none⟩), .slice L xs.length lc] w fun e w' => ∃ x : Nat × Nat × Int, x.1 < xs.length ∧ e = .returned (.int .i64 (nth d0I xs x.1)) ∧ HP w [⟨cb, false, 70, curC A n c x.2.1 x.2.2⟩] w' := by
  refine calls_entry [⟨cb, false, 70, curC A n c i h⟩] _ Try.func61 rfl Try.ntmps61 (HP.one hb) (env2 rfl) ?_
  refine wc_seq ?_
  refine wc_region ?_
  refine wl_v rfl (val_assign lkc) ?_
  refine wl_nil ?_
  refine px_then ?_
  refine wc_seq ?_
  refine wc_region ?_
  refine wl_v rfl (val_move (lk rfl)) ?_
  refine wl_v rfl (val_move (lk rfl)) ?_
  refine wl_v rfl (val_move (lk rfl)) ?_
  refine wl_v rfl (val_len es_73 (lk rfl)) ?_
  refine wl_callw 0 rfl ci_60 (args2 (lk rfl) (lk rfl)) rfl (fun w1 hw => l1Below_c _ _ _ _ _ _ _ _ _ w1 (hk.hp hw (by simp)) (hw.own _ (.head _))) (fun _ => rfl) ?_
  rintro ⟨x9, i9, h9⟩ hx9
  simp only [Bel] at hx9
  have hj : 0 ≤ x9 ∧ x9 < (xs.length : Nat) := ⟨hx9.1, hx9.2.1 (by omega)⟩
  refine wl_v rfl (val_indexI es_73 (lk rfl) (lk rfl) (fun _ => hs.hd encI_len (by decide) (i := x9.toNat) (by omega)) (fun _ => hj)) ?_
  refine wl_v rfl (val_load1 t1_3 (lk rfl) (cell_ne (by simp; exact fun h3 => hne h3.symm) fun _ => hs.fld encI_len d0I (i := x9.toNat) (f := 0) (by omega) (by decide) rfl)) ?_
  refine wl_v rfl (val_assign (lk rfl)) ?_
  refine wl_nil ?_
  refine px_then ?_
  refine wc_ret ?_
  refine fin1 rfl (res_tmp rfl) (fun w1 hw => ?_)
  exact ⟨(x9.toNat, i9, h9), by show x9.toNat < _; omega, rfl, hw⟩

end Go.Proofs.Ytfinobpodmdkgaa
