/- Records and agreements: what the functions of the program and of the reference compute, walked. -/
import Derived.Test.YtcdinidpclmmeaaSxM
namespace Go.Proofs.Ytcdinidpclmmeaa
open Go.RowKit


def sameU (s r : Rec) : Bool := ((s.net == r.net) && (s.sid == r.sid)) && (s.seq == r.seq)
def findU (rs : List Rec) (r : Rec) : Int := findI (fun s => sameU s r) 0 rs
theorem sameU_refl (r : Rec) : sameU r r = true := by simp [sameU]
def okU (r : Rec) : Bool := ((inRange r.net 0 3 && decide (0 ≤ r.sid)) && inRange r.seq 1 100000) && inRange r.byt 0 100000
def okG (d : Agr) : Bool := (((inRange d.home 0 3 && inRange d.vis 0 3) && (d.home != d.vis)) && inRange d.price 0 1000) && inRange d.cap 0 1000000000000
def okAt (rs : List Rec) (i : Nat) : Bool := okU (nth d0U rs i) && (findU rs (nth d0U rs i) == (i : Int))
def okAll (rs : List Rec) : Bool := decide (rs.length ≤ 24) && (List.range rs.length).all (okAt rs)
theorem findI_take {α : Type} (p : α → Bool) (d : α) : ∀ (k i : Nat) (rs : List α), k < rs.length → p (nth d rs k) = true → (decide (0 ≤ findI p i (rs.take k)) = !(findI p i rs == ((i + k : Nat) : Int)))
  | 0, i, r :: rs, _, hp => by
    have : p r = true := hp
    simp [findI, this]
  | k + 1, i, r :: rs, h, hp => by
    simp only [List.take_succ_cons, findI]
    split
    · have : ((i : Int) == ((i + (k + 1) : Nat) : Int)) = false := by simp; omega
      rw [this]; simp
    · have h2 := findI_take p d k (i + 1) rs (by simpa using h) hp
      rw [h2]
      congr 2
      omega
  | _, _, [], h, _ => by simp at h
theorem okAt_spec {rs : List Rec} {k : Nat} (h : k < rs.length) : (!okU (nth d0U rs k) || decide (0 ≤ findU (rs.take k) (nth d0U rs k))) = !okAt rs k := by
  have := findI_take (fun s => sameU s (nth d0U rs k)) d0U k 0 rs h (sameU_refl _)
  rw [Nat.zero_add] at this
  rw [findU, this, okAt, findU]
  cases okU (nth d0U rs k) <;> simp
theorem okAt_impl {rs : List Rec} {k : Nat} : (!okU (nth d0U rs k) || (findU rs (nth d0U rs k) != (k : Int))) = !okAt rs k := by
  rw [okAt]
  cases okU (nth d0U rs k) <;> simp [bne]
theorem okAll_no {rs : List Rec} {k : Nat} (h : k < rs.length) (hk : (!okAt rs k) = true) : okAll rs = false := by
  rw [okAll, Bool.and_eq_false_iff]
  right
  rw [List.all_eq_false]
  exact ⟨k, by simpa using h, by simpa using hk⟩
theorem okAll_end {rs : List Rec} (h : ∀ i, i < rs.length → okAt rs i = true) : okAll rs = decide (rs.length ≤ 24) := by
  rw [okAll, List.all_eq_true.2 (fun i hi => h i (by simpa using hi)), Bool.and_true]
def appU (rs : List Rec) (r : Rec) : List Rec := if okAll (rs ++ [r]) then rs ++ [r] else rs
theorem appU_len (rs : List Rec) (r : Rec) (h : rs.length ≤ 1048576) : (appU rs r).length ≤ 1048576 := by
  unfold appU
  split
  · rename_i h1
    have : (rs ++ [r]).length ≤ 24 := by
      have := (Bool.and_eq_true _ _ ▸ h1 : _ ∧ _).1
      simpa using this
    omega
  · exact h
def bytesU (rs : List Rec) (net : Int) : Nat → Int
  | 0 => 0
  | k + 1 => if (nth d0U rs k).net == net then IntKind.i64.wrap (bytesU rs net k + (nth d0U rs k).byt) else bytesU rs net k
def agreeAt (own told : List Rec) (vis : Int) (k : Nat) : Bool := (((nth d0U told k).net == vis) && (findU told (nth d0U told k) == (k : Int))) && decide (0 ≤ findU own (nth d0U told k))
def agreeU (own told : List Rec) (vis : Int) : Nat → Int
  | 0 => 0
  | k + 1 => if agreeAt own told vis k then IntKind.i64.wrap (agreeU own told vis k + imin (nth d0U own (findU own (nth d0U told k)).toNat).byt (nth d0U told k).byt) else agreeU own told vis k
theorem imin_comm (a b : Int) : imin a b = imin b a := by unfold imin; split <;> split <;> omega
def dispAt (own told : List Rec) (vis : Int) (k : Nat) : Bool := ((nth d0U told k).net == vis) && (((findU told (nth d0U told k) != (k : Int)) || decide (findU own (nth d0U told k) < 0)) || decide ((nth d0U own (findU own (nth d0U told k)).toNat).byt < (nth d0U told k).byt))
def dispU (own told : List Rec) (vis : Int) : Nat → List Rec
  | 0 => []
  | k + 1 => if dispAt own told vis k then dispU own told vis k ++ [nth d0U told k] else dispU own told vis k
theorem dispU_len (own told : List Rec) (vis : Int) : ∀ k, (dispU own told vis k).length ≤ k
  | 0 => Nat.le_refl _
  | k + 1 => by
    have := dispU_len own told vis k
    unfold dispU
    split
    · simp; omega
    · omega
def mergeU (a b : List Rec) : Nat → List Rec
  | 0 => a
  | k + 1 => appU (mergeU a b k) (nth d0U b k)
theorem mergeU_len (a b : List Rec) (h : a.length ≤ 1048576) : ∀ k, (mergeU a b k).length ≤ 1048576
  | 0 => h
  | k + 1 => appU_len _ _ (mergeU_len a b h k)
theorem findU_lt {rs : List Rec} {r : Rec} (h : 0 ≤ findU rs r) : (findU rs r).toNat < rs.length ∧ findU rs r < rs.length := by
  have := (findI_lt (fun s => sameU s r) 0 rs h).2
  rw [← findU] at this
  omega
def owed (d : Agr) (own told : List Rec) : Int := if okG d && okAll own && okAll told then imin d.cap (IntKind.i64.wrap (d.price * agreeU own told d.vis told.length)) else 0
def findG (ds : List Agr) (h v : Int) : Int := findI (fun d => (d.home == h) && (d.vis == v)) 0 ds

theorem sokU_c (r : Rec) (w : World) :
    Calls Try.prog 45 #[.agg (recV encU r).toArray] w fun e w' => e = .returned (.bool (okU r)) ∧ HP w [] w' := by
  refine calls_entry [] _ Try.func45 rfl Try.ntmps45 (HP.refl w) (env1 rfl) ?_
  refine wc_seq ?_
  refine wc_region ?_
  refine wl_box (lk rfl) rfl fun b1 => ?_
  refine wl_v rfl (val_assign lkc) ?_
  refine wl_nil ?_
  refine px_then ?_
  refine wc_seq ?_
  refine wc_region ?_
  refine wl_v rfl (val_field fo_31_0 (lk rfl)) ?_
  refine wl_v rfl (val_load1 t1_3 (lk rfl) (cell_own (.head _) fun _ => rfl)) ?_
  refine wl_call gd_none rfl ci_52 (args3 (lk rfl) lkc lkc) (fun hG w1 hw => l1In_c _ _ _ w1) ?_
  refine wl_v rfl (val_move (lk rfl)) ?_
  refine wl_val (gd_t rfl rfl rfl) rfl (val_field fo_31_1 (lk rfl)) ?_
  refine wl_val (gd_t rfl rfl rfl) rfl (val_load1 t1_3 (lkg rfl) (cell_own (.head _) fun _ => rfl)) ?_
  refine wl_val (gd_t rfl rfl rfl) rfl (val_geq (lkg rfl) lkc) ?_
  refine wl_v rfl (val_and (lk rfl) (lkg rfl)) ?_
  refine wl_v rfl (val_move (lk rfl)) ?_
  refine wl_val (gd_t rfl rfl rfl) rfl (val_field fo_31_2 (lk rfl)) ?_
  refine wl_val (gd_t rfl rfl rfl) rfl (val_load1 t1_3 (lkg rfl) (cell_own (.head _) fun _ => rfl)) ?_
  refine wl_call (gd_t rfl rfl rfl) rfl ci_52 (args3 (lkg rfl) lkc lkc) (fun hG w1 hw => l1In_c _ _ _ w1) ?_
  refine wl_v rfl (val_and (lk rfl) (lkg rfl)) ?_
  refine wl_v rfl (val_move (lk rfl)) ?_
  refine wl_val (gd_t rfl rfl rfl) rfl (val_field fo_31_3 (lk rfl)) ?_
  refine wl_val (gd_t rfl rfl rfl) rfl (val_load1 t1_3 (lkg rfl) (cell_own (.head _) fun _ => rfl)) ?_
  refine wl_call (gd_t rfl rfl rfl) rfl ci_52 (args3 (lkg rfl) lkc lkc) (fun hG w1 hw => l1In_c _ _ _ w1) ?_
  refine wl_v rfl (val_and (lk rfl) (lkg rfl)) ?_
  refine wl_v rfl (val_assign (lk rfl)) ?_
  refine wl_nil ?_
  refine px_then ?_
  refine wc_ret ?_
  refine fin1 rfl (res_tmp rfl) (fun w1 hw => ?_)
  exact ⟨rfl, hw.drop rfl⟩

theorem sokG_c (d : Agr) (w : World) :
    Calls Try.prog 32 #[.agg (recV encG d).toArray] w fun e w' => e = .returned (.bool (okG d)) ∧ HP w [] w' := by
  refine calls_entry [] _ Try.func32 rfl Try.ntmps32 (HP.refl w) (env1 rfl) ?_
  refine wc_seq ?_
  refine wc_region ?_
  refine wl_box (lk rfl) rfl fun b1 => ?_
  refine wl_v rfl (val_assign lkc) ?_
  refine wl_nil ?_
  refine px_then ?_
  refine wc_seq ?_
  refine wc_region ?_
  refine wl_v rfl (val_field fo_48_0 (lk rfl)) ?_
  refine wl_v rfl (val_load1 t1_3 (lk rfl) (cell_own (.head _) fun _ => rfl)) ?_
  refine wl_call gd_none rfl ci_52 (args3 (lk rfl) lkc lkc) (fun hG w1 hw => l1In_c _ _ _ w1) ?_
  refine wl_v rfl (val_move (lk rfl)) ?_
  refine wl_val (gd_t rfl rfl rfl) rfl (val_field fo_48_1 (lk rfl)) ?_
  refine wl_val (gd_t rfl rfl rfl) rfl (val_load1 t1_3 (lkg rfl) (cell_own (.head _) fun _ => rfl)) ?_
  refine wl_call (gd_t rfl rfl rfl) rfl ci_52 (args3 (lkg rfl) lkc lkc) (fun hG w1 hw => l1In_c _ _ _ w1) ?_
  refine wl_v rfl (val_and (lk rfl) (lkg rfl)) ?_
  refine wl_v rfl (val_move (lk rfl)) ?_
  refine wl_val (gd_t rfl rfl rfl) rfl (val_field fo_48_0 (lk rfl)) ?_
  refine wl_val (gd_t rfl rfl rfl) rfl (val_load1 t1_3 (lkg rfl) (cell_own (.head _) fun _ => rfl)) ?_
  refine wl_val (gd_t rfl rfl rfl) rfl (val_field fo_48_1 (lk rfl)) ?_
  refine wl_val (gd_t rfl rfl rfl) rfl (val_load1 t1_3 (lkg rfl) (cell_own (.head _) fun _ => rfl)) ?_
  refine wl_val (gd_t rfl rfl rfl) rfl (val_neq (lkg rfl) (lkg rfl)) ?_
  refine wl_v rfl (val_and (lk rfl) (lkg rfl)) ?_
  refine wl_v rfl (val_move (lk rfl)) ?_
  refine wl_val (gd_t rfl rfl rfl) rfl (val_field fo_48_2 (lk rfl)) ?_
  refine wl_val (gd_t rfl rfl rfl) rfl (val_load1 t1_3 (lkg rfl) (cell_own (.head _) fun _ => rfl)) ?_
  refine wl_call (gd_t rfl rfl rfl) rfl ci_52 (args3 (lkg rfl) lkc lkc) (fun hG w1 hw => l1In_c _ _ _ w1) ?_
  refine wl_v rfl (val_and (lk rfl) (lkg rfl)) ?_
  refine wl_v rfl (val_move (lk rfl)) ?_
  refine wl_val (gd_t rfl rfl rfl) rfl (val_field fo_48_3 (lk rfl)) ?_
  refine wl_val (gd_t rfl rfl rfl) rfl (val_load1 t1_3 (lkg rfl) (cell_own (.head _) fun _ => rfl)) ?_
  refine wl_call (gd_t rfl rfl rfl) rfl ci_52 (args3 (lkg rfl) lkc lkc) (fun hG w1 hw => l1In_c _ _ _ w1) ?_
  refine wl_v rfl (val_and (lk rfl) (lkg rfl)) ?_
  refine wl_v rfl (val_assign (lk rfl)) ?_
  refine wl_nil ?_
  refine px_then ?_
  refine wc_ret ?_
  refine fin1 rfl (res_tmp rfl) (fun w1 hw => ?_)
  exact ⟨rfl, hw.drop rfl⟩

theorem okU_c (r : Rec) (w : World) :
    Calls Try.prog 41 #[.agg (recV encU r).toArray] w fun e w' => e = .returned (.bool (okU r)) ∧ HP w [] w' := by
  refine calls_entry [] _ Try.func41 rfl Try.ntmps41 (HP.refl w) (env1 rfl) ?_
  refine wc_seq ?_
  refine wc_region ?_
  refine wl_box (lk rfl) rfl fun b1 => ?_
  refine wl_v rfl (val_assign lkc) ?_
  refine wl_nil ?_
  refine px_then ?_
  refine wc_seq ?_
  refine wc_region ?_
  refine wl_v rfl (val_field fo_31_0 (lk rfl)) ?_
  refine wl_v rfl (val_load1 t1_3 (lk rfl) (cell_own (.head _) fun _ => rfl)) ?_
  refine wl_call gd_none rfl ci_56 (args3 (lk rfl) lkc lkc) (fun hG w1 hw => InRange_c _ _ _ w1) ?_
  refine wl_v rfl (val_move (lk rfl)) ?_
  refine wl_val (gd_t rfl rfl rfl) rfl (val_field fo_31_1 (lk rfl)) ?_
  refine wl_val (gd_t rfl rfl rfl) rfl (val_load1 t1_3 (lkg rfl) (cell_own (.head _) fun _ => rfl)) ?_
  refine wl_val (gd_t rfl rfl rfl) rfl (val_geq (lkg rfl) lkc) ?_
  refine wl_v rfl (val_and (lk rfl) (lkg rfl)) ?_
  refine wl_v rfl (val_move (lk rfl)) ?_
  refine wl_val (gd_t rfl rfl rfl) rfl (val_field fo_31_2 (lk rfl)) ?_
  refine wl_val (gd_t rfl rfl rfl) rfl (val_load1 t1_3 (lkg rfl) (cell_own (.head _) fun _ => rfl)) ?_
  refine wl_call (gd_t rfl rfl rfl) rfl ci_56 (args3 (lkg rfl) lkc lkc) (fun hG w1 hw => InRange_c _ _ _ w1) ?_
  refine wl_v rfl (val_and (lk rfl) (lkg rfl)) ?_
  refine wl_v rfl (val_move (lk rfl)) ?_
  refine wl_val (gd_t rfl rfl rfl) rfl (val_field fo_31_3 (lk rfl)) ?_
  refine wl_val (gd_t rfl rfl rfl) rfl (val_load1 t1_3 (lkg rfl) (cell_own (.head _) fun _ => rfl)) ?_
  refine wl_call (gd_t rfl rfl rfl) rfl ci_56 (args3 (lkg rfl) lkc lkc) (fun hG w1 hw => InRange_c _ _ _ w1) ?_
  refine wl_v rfl (val_and (lk rfl) (lkg rfl)) ?_
  refine wl_v rfl (val_assign (lk rfl)) ?_
  refine wl_nil ?_
  refine px_then ?_
  refine wc_ret ?_
  refine fin1 rfl (res_tmp rfl) (fun w1 hw => ?_)
  exact ⟨rfl, hw.drop rfl⟩

theorem okG_c (d : Agr) (w : World) :
    Calls Try.prog 51 #[.agg (recV encG d).toArray] w fun e w' => e = .returned (.bool (okG d)) ∧ HP w [] w' := by
  refine calls_entry [] _ Try.func51 rfl Try.ntmps51 (HP.refl w) (env1 rfl) ?_
  refine wc_seq ?_
  refine wc_region ?_
  refine wl_box (lk rfl) rfl fun b1 => ?_
  refine wl_v rfl (val_assign lkc) ?_
  refine wl_nil ?_
  refine px_then ?_
  refine wc_seq ?_
  refine wc_region ?_
  refine wl_v rfl (val_field fo_48_0 (lk rfl)) ?_
  refine wl_v rfl (val_load1 t1_3 (lk rfl) (cell_own (.head _) fun _ => rfl)) ?_
  refine wl_call gd_none rfl ci_56 (args3 (lk rfl) lkc lkc) (fun hG w1 hw => InRange_c _ _ _ w1) ?_
  refine wl_v rfl (val_move (lk rfl)) ?_
  refine wl_val (gd_t rfl rfl rfl) rfl (val_field fo_48_1 (lk rfl)) ?_
  refine wl_val (gd_t rfl rfl rfl) rfl (val_load1 t1_3 (lkg rfl) (cell_own (.head _) fun _ => rfl)) ?_
  refine wl_call (gd_t rfl rfl rfl) rfl ci_56 (args3 (lkg rfl) lkc lkc) (fun hG w1 hw => InRange_c _ _ _ w1) ?_
  refine wl_v rfl (val_and (lk rfl) (lkg rfl)) ?_
  refine wl_v rfl (val_move (lk rfl)) ?_
  refine wl_val (gd_t rfl rfl rfl) rfl (val_field fo_48_0 (lk rfl)) ?_
  refine wl_val (gd_t rfl rfl rfl) rfl (val_load1 t1_3 (lkg rfl) (cell_own (.head _) fun _ => rfl)) ?_
  refine wl_val (gd_t rfl rfl rfl) rfl (val_field fo_48_1 (lk rfl)) ?_
  refine wl_val (gd_t rfl rfl rfl) rfl (val_load1 t1_3 (lkg rfl) (cell_own (.head _) fun _ => rfl)) ?_
  refine wl_val (gd_t rfl rfl rfl) rfl (val_neq (lkg rfl) (lkg rfl)) ?_
  refine wl_v rfl (val_and (lk rfl) (lkg rfl)) ?_
  refine wl_v rfl (val_move (lk rfl)) ?_
  refine wl_val (gd_t rfl rfl rfl) rfl (val_field fo_48_2 (lk rfl)) ?_
  refine wl_val (gd_t rfl rfl rfl) rfl (val_load1 t1_3 (lkg rfl) (cell_own (.head _) fun _ => rfl)) ?_
  refine wl_call (gd_t rfl rfl rfl) rfl ci_56 (args3 (lkg rfl) lkc lkc) (fun hG w1 hw => InRange_c _ _ _ w1) ?_
  refine wl_v rfl (val_and (lk rfl) (lkg rfl)) ?_
  refine wl_v rfl (val_move (lk rfl)) ?_
  refine wl_val (gd_t rfl rfl rfl) rfl (val_field fo_48_3 (lk rfl)) ?_
  refine wl_val (gd_t rfl rfl rfl) rfl (val_load1 t1_3 (lkg rfl) (cell_own (.head _) fun _ => rfl)) ?_
  refine wl_call (gd_t rfl rfl rfl) rfl ci_56 (args3 (lkg rfl) lkc lkc) (fun hG w1 hw => InRange_c _ _ _ w1) ?_
  refine wl_v rfl (val_and (lk rfl) (lkg rfl)) ?_
  refine wl_v rfl (val_assign (lk rfl)) ?_
  refine wl_nil ?_
  refine px_then ?_
  refine wc_ret ?_
  refine fin1 rfl (res_tmp rfl) (fun w1 hw => ?_)
  exact ⟨rfl, hw.drop rfl⟩

theorem sameU_c (s r : Rec) (w : World) :
    Calls Try.prog 40 #[.agg (recV encU s).toArray, .agg (recV encU r).toArray] w fun e w' => e = .returned (.bool (sameU s r)) ∧ HP w [] w' := by
  refine calls_entry [] _ Try.func40 rfl Try.ntmps40 (HP.refl w) (env2 rfl) ?_
  refine wc_seq ?_
  refine wc_region ?_
  refine wl_box (lk rfl) rfl fun b1 => ?_
  refine wl_box (lk rfl) rfl fun b2 => ?_
  refine wl_v rfl (val_assign lkc) ?_
  refine wl_nil ?_
  refine px_then ?_
  refine wc_seq ?_
  refine wc_region ?_
  refine wl_v rfl (val_field fo_31_0 (lk rfl)) ?_
  refine wl_v rfl (val_load1 t1_3 (lk rfl) (cell_own (.tail _ (.head _)) fun _ => rfl)) ?_
  refine wl_v rfl (val_field fo_31_0 (lk rfl)) ?_
  refine wl_v rfl (val_load1 t1_3 (lk rfl) (cell_own (.head _) fun _ => rfl)) ?_
  refine wl_v rfl (val_eql (lk rfl) (lk rfl)) ?_
  refine wl_v rfl (val_move (lk rfl)) ?_
  refine wl_val (gd_t rfl rfl rfl) rfl (val_field fo_31_1 (lk rfl)) ?_
  refine wl_val (gd_t rfl rfl rfl) rfl (val_load1 t1_3 (lkg rfl) (cell_own (.tail _ (.head _)) fun _ => rfl)) ?_
  refine wl_val (gd_t rfl rfl rfl) rfl (val_field fo_31_1 (lk rfl)) ?_
  refine wl_val (gd_t rfl rfl rfl) rfl (val_load1 t1_3 (lkg rfl) (cell_own (.head _) fun _ => rfl)) ?_
  refine wl_val (gd_t rfl rfl rfl) rfl (val_eql (lkg rfl) (lkg rfl)) ?_
  refine wl_v rfl (val_and (lk rfl) (lkg rfl)) ?_
  refine wl_v rfl (val_move (lk rfl)) ?_
  refine wl_val (gd_t rfl rfl rfl) rfl (val_field fo_31_2 (lk rfl)) ?_
  refine wl_val (gd_t rfl rfl rfl) rfl (val_load1 t1_3 (lkg rfl) (cell_own (.tail _ (.head _)) fun _ => rfl)) ?_
  refine wl_val (gd_t rfl rfl rfl) rfl (val_field fo_31_2 (lk rfl)) ?_
  refine wl_val (gd_t rfl rfl rfl) rfl (val_load1 t1_3 (lkg rfl) (cell_own (.head _) fun _ => rfl)) ?_
  refine wl_val (gd_t rfl rfl rfl) rfl (val_eql (lkg rfl) (lkg rfl)) ?_
  refine wl_v rfl (val_and (lk rfl) (lkg rfl)) ?_
  refine wl_v rfl (val_assign (lk rfl)) ?_
  refine wl_nil ?_
  refine px_then ?_
  refine wc_ret ?_
  refine fin1 rfl (res_tmp rfl) (fun w1 hw => ?_)
  exact ⟨rfl, hw.drop rfl⟩

theorem sFindU_c (rs : List Rec) (A : Option Addr) (b o c : Nat) (r : Rec) (w : World) (hs : Sl w A b o (flat encU rs)) (hl : rs.length ≤ 2097152) :
    Calls Try.prog 24 #[.slice A rs.length c, .agg (recV encU r).toArray] w fun e w' => e = .returned (.int .i64 (findU rs r)) ∧ HP w [] w' := by
  refine calls_entry [] _ Try.func24 rfl Try.ntmps24 (HP.refl w) (env2 rfl) ?_
  refine wc_seq ?_
  refine wc_region ?_
  refine wl_box (lk rfl) rfl fun b1 => ?_
  refine wl_v rfl (val_assign lkc) ?_
  refine wl_nil ?_
  refine px_then ?_
  refine wc_seq ?_
  refine wc_seq ?_
  refine wc_region ?_
  refine wl_v rfl (val_assign lkc) ?_
  refine wl_nil ?_
  refine px_then ?_
  refine wc_block ?_
  refine wc_trim (l' := [(0, _), (3, _), (4, _), (5, _)]) ⟨rfl, rfl, rfl, rfl, trivial⟩ ?_
  refine wc_loop0 (X := Nat) (fun k => k ≤ rs.length ∧ findI (fun s => sameU s r) k (rs.drop k) = findI (fun s => sameU s r) 0 rs) (fun k => [(5, (true, .int .i64 (k : Nat)))]) (fun k => rs.length - k) 0 (⟨Nat.zero_le _, rfl⟩) ⟨rfl, rfl, rfl, rfl, rfl, trivial⟩ ?_
  rintro k ⟨hk, ht⟩
  refine wc_seq ?_
  refine wc_seq ?_
  refine wc_region ?_
  refine wl_v rfl (val_move (lk rfl)) ?_
  refine wl_v rfl (val_move (lk rfl)) ?_
  refine wl_v rfl (val_len es_24 (lk rfl)) ?_
  refine wl_v rfl (val_lss (lk rfl) (lk rfl)) ?_
  refine wl_nil ?_
  refine px_then ?_
  refine wc_cond (lk rfl) (fun hc0 => ?_) (fun hc0 => ?_)
  · have hlt : k < rs.length := by have := of_decide_eq_true hc0; omega
    refine wc_skip ?_
    refine px_then ?_
    refine wc_seq ?_
    refine wc_block ?_
    refine wc_seq ?_
    refine wc_region_q mo_ (by kernel_rfl) ?_
    refine wq_v rfl (val_move (lk rfl)) ?_
    refine wq_v rfl (val_move (lk rfl)) ?_
    refine wq_v rfl (val_index es_24 (lk rfl) (lk rfl) (fun hG => hs.hd encU_len (by decide) (i := k) hlt) (fun hG => hlt)) ?_
    refine wq_v rfl (val_field fo_31_0 (lk rfl)) ?_
    refine wq_v rfl (val_load1 t1_3 (lk rfl) (cell_old rfl fun hG => hs.fld encU_len d0U (i := k) (f := 0) (hlt) (by decide) rfl)) ?_
    refine wq_v rfl (val_field fo_31_0 (lk rfl)) ?_
    refine wq_v rfl (val_load1 t1_3 (lk rfl) (cell_own (.head _) fun _ => rfl)) ?_
    refine wq_v rfl (val_eql (lk rfl) (lk rfl)) ?_
    refine wq_v rfl (val_move (lk rfl)) ?_
    refine wq_val (gd_t rfl rfl rfl) rfl (val_move (lk rfl)) ?_
    refine wq_val (gd_t rfl rfl rfl) rfl (val_move (lk rfl)) ?_
    refine wq_val (gd_t rfl rfl rfl) rfl (val_index es_24 (lkg rfl) (lkg rfl) (fun hG => hs.hd encU_len (by decide) (i := k) hlt) (fun hG => hlt)) ?_
    refine wq_val (gd_t rfl rfl rfl) rfl (val_field fo_31_1 (lkg rfl)) ?_
    refine wq_val (gd_t rfl rfl rfl) rfl (val_load1 t1_3 (lkg rfl) (cell_old rfl fun hG => hs.fld encU_len d0U (i := k) (f := 1) (hlt) (by decide) rfl)) ?_
    refine wq_val (gd_t rfl rfl rfl) rfl (val_field fo_31_1 (lk rfl)) ?_
    refine wq_val (gd_t rfl rfl rfl) rfl (val_load1 t1_3 (lkg rfl) (cell_own (.head _) fun _ => rfl)) ?_
    refine wq_val (gd_t rfl rfl rfl) rfl (val_eql (lkg rfl) (lkg rfl)) ?_
    refine wq_v rfl (val_and (lk rfl) (lkg rfl)) ?_
    refine wq_v rfl (val_move (lk rfl)) ?_
    refine wq_val (gd_t rfl rfl rfl) rfl (val_move (lk rfl)) ?_
    refine wq_val (gd_t rfl rfl rfl) rfl (val_move (lk rfl)) ?_
    refine wq_val (gd_t rfl rfl rfl) rfl (val_index es_24 (lkg rfl) (lkg rfl) (fun hG => hs.hd encU_len (by decide) (i := k) hlt) (fun hG => hlt)) ?_
    refine wq_val (gd_t rfl rfl rfl) rfl (val_field fo_31_2 (lkg rfl)) ?_
    refine wq_val (gd_t rfl rfl rfl) rfl (val_load1 t1_3 (lkg rfl) (cell_old rfl fun hG => hs.fld encU_len d0U (i := k) (f := 2) (hlt) (by decide) rfl)) ?_
    refine wq_val (gd_t rfl rfl rfl) rfl (val_field fo_31_2 (lk rfl)) ?_
    refine wq_val (gd_t rfl rfl rfl) rfl (val_load1 t1_3 (lkg rfl) (cell_own (.head _) fun _ => rfl)) ?_
    refine wq_val (gd_t rfl rfl rfl) rfl (val_eql (lkg rfl) (lkg rfl)) ?_
    refine wq_v rfl (val_and (lk rfl) (lkg rfl)) ?_
    refine wq_nil ?_
    refine px_then ?_
    refine wc_cond (lk rfl) (fun hc1 => ?_) (fun hc1 => ?_)
    · refine wc_seq ?_
      refine wc_region ?_
      refine wl_v rfl (val_move (lk rfl)) ?_
      refine wl_v rfl (val_assign (lk rfl)) ?_
      refine wl_nil ?_
      refine px_then ?_
      refine wc_ret ?_
      refine px_block_ret ?_
      refine px_then_ret ?_
      refine px_then_ret ?_
      refine px_block_ret ?_
      refine px_then_ret ?_
      refine fin1 rfl (res_tmp rfl) (fun w1 hw => ?_)
      exact ⟨by rw [findU, ← ht, drop_nth (d := d0U) hlt, findI, if_pos (by simpa [sameU] using hc1)], hw.drop rfl⟩
    refine wc_skip ?_
    refine px_block ?_
    refine px_then ?_
    refine wc_region ?_
    refine wl_v rfl (val_move (lk rfl)) ?_
    refine wl_v rfl (val_inc (lk rfl) (by omega)) ?_
    refine wl_v rfl (val_assign (lk rfl)) ?_
    refine wl_nil ?_
    refine px_round0 (k + 1) (⟨by omega, by rw [← ht, drop_nth (d := d0U) hlt, findI, if_neg (by simpa [sameU] using hc1)]⟩) (by omega) (⟨rfl, rfl, rfl, rfl, rfl, trivial⟩) (fun _ h => h.dropN 0 rfl)
  have hge : k = rs.length := by have := of_decide_eq_false hc0; omega
  subst hge
  refine wc_exit ?_
  refine px_then_exit ?_
  refine px_then_exit ?_
  refine px_block_exit ?_
  refine px_then ?_
  refine wc_seq ?_
  refine wc_region ?_
  refine wl_v rfl (val_assign lkc) ?_
  refine wl_nil ?_
  refine px_then ?_
  refine wc_ret ?_
  refine fin1 rfl (res_tmp rfl) (fun w1 hw => ?_)
  exact ⟨by rw [findU, ← ht]; simp [findI], hw.drop rfl⟩

theorem FindU_c (rs : List Rec) (A : Option Addr) (b o c : Nat) (r : Rec) (w : World) (hs : Sl w A b o (flat encU rs)) (hl : rs.length ≤ 2097152) :
    Calls Try.prog 13 #[.slice A rs.length c, .agg (recV encU r).toArray] w fun e w' => e = .returned (.int .i64 (findU rs r)) ∧ HP w [] w' := by
  refine calls_entry [] _ Try.func13 rfl Try.ntmps13 (HP.refl w) (env2 rfl) ?_
  refine wc_seq ?_
  refine wc_region ?_
  refine wl_box (lk rfl) rfl fun b1 => ?_
  refine wl_v rfl (val_assign lkc) ?_
  refine wl_nil ?_
  refine px_then ?_
  refine wc_seq ?_
  refine wc_seq ?_
  refine wc_region ?_
  refine wl_v rfl (val_move (lk rfl)) ?_
  refine wl_v rfl (val_len es_24 (lk rfl)) ?_
  refine wl_v rfl (val_move lkc) ?_
  refine wl_nil ?_
  refine px_then ?_
  refine wc_block ?_
  refine wc_trim (l' := [(3, _), (4, _), (7, _), (8, _), (9, _)]) ⟨rfl, rfl, rfl, rfl, rfl, trivial⟩ ?_
  refine wc_loop0 (X := Nat) (fun k => k ≤ rs.length ∧ findI (fun s => sameU s r) k (rs.drop k) = findI (fun s => sameU s r) 0 rs) (fun k => [(9, (true, .int .i64 (k : Nat)))]) (fun k => rs.length - k) 0 (⟨Nat.zero_le _, rfl⟩) ⟨rfl, rfl, rfl, rfl, rfl, rfl, trivial⟩ ?_
  rintro k ⟨hk, ht⟩
  refine wc_seq ?_
  refine wc_region ?_
  refine wl_v rfl (val_lss (lk rfl) (lk rfl)) ?_
  refine wl_nil ?_
  refine px_then ?_
  refine wc_seq ?_
  refine wc_cond (lk rfl) (fun hc0 => ?_) (fun hc0 => ?_)
  · have hlt : k < rs.length := by have := of_decide_eq_true hc0; omega
    refine wc_skip ?_
    refine px_then ?_
    refine wc_seq ?_
    refine wc_block ?_
    refine wc_seq ?_
    refine wc_region ?_
    refine wl_v rfl (val_move (lk rfl)) ?_
    refine wl_v rfl (val_index es_24 (lk rfl) (lk rfl) (fun hG => hs.hd encU_len (by decide) (i := k) hlt) (fun hG => hlt)) ?_
    refine wl_v rfl (val_loadN ag_31 (lk rfl) rfl (hs.rec_ rfl encU_len d0U (fun _ => hlt))) ?_
    refine wl_alloc zc_31 rfl fun b2 => ?_
    refine wl_v rfl (val_assign (lk rfl)) ?_
    refine wl_storeB 0 rfl (lk rfl) (lk rfl) ag_31 rfl rfl ?_
    refine wl_nil ?_
    refine px_then ?_
    refine wc_seq ?_
    refine wc_region ?_
    refine wl_v rfl (val_loadB (.head _) (lk rfl) ag_31) ?_
    refine wl_v rfl (val_loadB (.tail _ (.head _)) (lk rfl) ag_31) ?_
    refine wl_call gd_none rfl ci_40 (args2 (lk rfl) (lk rfl)) (fun hG w1 hw => sameU_c (nth d0U rs k) r w1) ?_
    refine wl_nil ?_
    refine px_then ?_
    refine wc_cond (lk rfl) (fun hc1 => ?_) (fun hc1 => ?_)
    · refine wc_seq ?_
      refine wc_region ?_
      refine wl_v rfl (val_move (lk rfl)) ?_
      refine wl_v rfl (val_assign (lk rfl)) ?_
      refine wl_nil ?_
      refine px_then ?_
      refine wc_ret ?_
      refine px_block_ret ?_
      refine px_then_ret ?_
      refine px_then_ret ?_
      refine px_block_ret ?_
      refine px_then_ret ?_
      refine fin1 rfl (res_tmp rfl) (fun w1 hw => ?_)
      exact ⟨by rw [findU, ← ht, drop_nth (d := d0U) hlt, findI, if_pos (by simpa [sameU] using hc1)], hw.drop rfl⟩
    refine wc_skip ?_
    refine px_block ?_
    refine px_then ?_
    refine wc_region ?_
    refine wl_v rfl (val_inc (lk rfl) (by omega)) ?_
    refine wl_v rfl (val_move (lk rfl)) ?_
    refine wl_nil ?_
    refine px_round0 (k + 1) (⟨by omega, by rw [← ht, drop_nth (d := d0U) hlt, findI, if_neg (by simpa [sameU] using hc1)]⟩) (by omega) (⟨rfl, rfl, rfl, rfl, rfl, rfl, trivial⟩) (fun _ h => h.dropN 1 rfl)
  have hge : k = rs.length := by have := of_decide_eq_false hc0; omega
  subst hge
  refine wc_exit ?_
  refine px_then_exit ?_
  refine px_then_exit ?_
  refine px_block_exit ?_
  refine px_then ?_
  refine wc_seq ?_
  refine wc_region ?_
  refine wl_v rfl (val_assign lkc) ?_
  refine wl_nil ?_
  refine px_then ?_
  refine wc_ret ?_
  refine fin1 rfl (res_tmp rfl) (fun w1 hw => ?_)
  exact ⟨by rw [findU, ← ht]; simp [findI], hw.drop rfl⟩

theorem sBytesU_c (rs : List Rec) (A : Option Addr) (b o c : Nat) (net : Int) (w : World) (hs : Sl w A b o (flat encU rs)) (hl : rs.length ≤ 2097152) :
    Calls Try.prog 19 #[.slice A rs.length c, .int .i64 net] w fun e w' => e = .returned (.int .i64 (bytesU rs net rs.length)) ∧ HP w [] w' := by
  refine calls_entry [] _ Try.func19 rfl Try.ntmps19 (HP.refl w) (env2 rfl) ?_
  refine wc_seq ?_
  refine wc_region ?_
  refine wl_v rfl (val_assign lkc) ?_
  refine wl_nil ?_
  refine px_then ?_
  refine wc_seq ?_
  refine wc_region ?_
  refine wl_v rfl (val_assign lkc) ?_
  refine wl_nil ?_
  refine px_then ?_
  refine wc_seq ?_
  refine wc_seq ?_
  refine wc_region ?_
  refine wl_v rfl (val_assign lkc) ?_
  refine wl_nil ?_
  refine px_then ?_
  refine wc_block ?_
  refine wc_trim (l' := [(0, _), (1, _), (4, _), (5, _), (6, _)]) ⟨rfl, rfl, rfl, rfl, rfl, trivial⟩ ?_
  refine wc_loop0 (X := Nat) (fun k => k ≤ rs.length) (fun k => [(5, (true, .int .i64 (bytesU rs net k))), (6, (true, .int .i64 (k : Nat)))]) (fun k => rs.length - k) 0 (Nat.zero_le _) ⟨rfl, rfl, rfl, rfl, rfl, rfl, rfl, trivial⟩ ?_
  intro k hk
  refine wc_seq ?_
  refine wc_seq ?_
  refine wc_region ?_
  refine wl_v rfl (val_move (lk rfl)) ?_
  refine wl_v rfl (val_move (lk rfl)) ?_
  refine wl_v rfl (val_len es_24 (lk rfl)) ?_
  refine wl_v rfl (val_lss (lk rfl) (lk rfl)) ?_
  refine wl_nil ?_
  refine px_then ?_
  refine wc_cond (lk rfl) (fun hc0 => ?_) (fun hc0 => ?_)
  · have hlt : k < rs.length := by have := of_decide_eq_true hc0; omega
    refine wc_skip ?_
    refine px_then ?_
    refine wc_seq ?_
    refine wc_block ?_
    refine wc_seq ?_
    refine wc_region ?_
    refine wl_v rfl (val_move (lk rfl)) ?_
    refine wl_v rfl (val_move (lk rfl)) ?_
    refine wl_v rfl (val_index es_24 (lk rfl) (lk rfl) (fun hG => hs.hd encU_len (by decide) (i := k) hlt) (fun hG => hlt)) ?_
    refine wl_v rfl (val_field fo_31_0 (lk rfl)) ?_
    refine wl_v rfl (val_load1 t1_3 (lk rfl) (cell_old rfl fun hG => hs.fld encU_len d0U (i := k) (f := 0) (hlt) (by decide) rfl)) ?_
    refine wl_v rfl (val_move (lk rfl)) ?_
    refine wl_v rfl (val_eql (lk rfl) (lk rfl)) ?_
    refine wl_nil ?_
    refine px_then ?_
    refine wc_cond (lk rfl) (fun hc1 => ?_) (fun hc1 => ?_)
    · refine wc_region ?_
      refine wl_v rfl (val_move (lk rfl)) ?_
      refine wl_v rfl (val_move (lk rfl)) ?_
      refine wl_v rfl (val_move (lk rfl)) ?_
      refine wl_v rfl (val_index es_24 (lk rfl) (lk rfl) (fun hG => hs.hd encU_len (by decide) (i := k) hlt) (fun hG => hlt)) ?_
      refine wl_v rfl (val_field fo_31_3 (lk rfl)) ?_
      refine wl_v rfl (val_load1 t1_3 (lk rfl) (cell_old rfl fun hG => hs.fld encU_len d0U (i := k) (f := 3) (hlt) (by decide) rfl)) ?_
      refine wl_v rfl (val_add (lk rfl) (lk rfl)) ?_
      refine wl_v rfl (val_assign (lk rfl)) ?_
      refine wl_nil ?_
      refine px_block ?_
      refine px_then ?_
      refine wc_region ?_
      refine wl_v rfl (val_move (lk rfl)) ?_
      refine wl_v rfl (val_inc (lk rfl) (by omega)) ?_
      refine wl_v rfl (val_assign (lk rfl)) ?_
      refine wl_nil ?_
      have hst : bytesU rs net (k + 1) = if (nth d0U rs k).net == net then IntKind.i64.wrap (bytesU rs net k + (nth d0U rs k).byt) else bytesU rs net k := rfl
      refine px_round0 (k + 1) (by omega) (by omega) (⟨slotI (by rw [hst]; simp_all), rfl, rfl, rfl, rfl, slotI (by rw [hst]; simp_all), rfl, trivial⟩) (fun _ h => h.dropN 0 rfl)
    refine wc_skip ?_
    refine px_block ?_
    refine px_then ?_
    refine wc_region ?_
    refine wl_v rfl (val_move (lk rfl)) ?_
    refine wl_v rfl (val_inc (lk rfl) (by omega)) ?_
    refine wl_v rfl (val_assign (lk rfl)) ?_
    refine wl_nil ?_
    have hst : bytesU rs net (k + 1) = if (nth d0U rs k).net == net then IntKind.i64.wrap (bytesU rs net k + (nth d0U rs k).byt) else bytesU rs net k := rfl
    refine px_round0 (k + 1) (by omega) (by omega) (⟨slotI (by rw [hst]; simp_all), rfl, rfl, rfl, rfl, slotI (by rw [hst]; simp_all), rfl, trivial⟩) (fun _ h => h.dropN 0 rfl)
  have hge : k = rs.length := by have := of_decide_eq_false hc0; omega
  subst hge
  refine wc_exit ?_
  refine px_then_exit ?_
  refine px_then_exit ?_
  refine px_block_exit ?_
  refine px_then ?_
  refine wc_seq ?_
  refine wc_region ?_
  refine wl_v rfl (val_move (lk rfl)) ?_
  refine wl_v rfl (val_assign (lk rfl)) ?_
  refine wl_nil ?_
  refine px_then ?_
  refine wc_ret ?_
  refine fin1 rfl (res_tmp rfl) (fun w1 hw => ?_)
  exact ⟨rfl, hw.drop rfl⟩

theorem BytesU_c (rs : List Rec) (A : Option Addr) (b o c : Nat) (net : Int) (w : World) (hs : Sl w A b o (flat encU rs)) (hl : rs.length ≤ 2097152) :
    Calls Try.prog 18 #[.slice A rs.length c, .int .i64 net] w fun e w' => e = .returned (.int .i64 (bytesU rs net rs.length)) ∧ HP w [] w' := by
  refine calls_entry [] _ Try.func18 rfl Try.ntmps18 (HP.refl w) (env2 rfl) ?_
  refine wc_seq ?_
  refine wc_region ?_
  refine wl_v rfl (val_assign lkc) ?_
  refine wl_nil ?_
  refine px_then ?_
  refine wc_seq ?_
  refine wc_region ?_
  refine wl_v rfl (val_assign lkc) ?_
  refine wl_nil ?_
  refine px_then ?_
  refine wc_seq ?_
  refine wc_seq ?_
  refine wc_region ?_
  refine wl_v rfl (val_move (lk rfl)) ?_
  refine wl_v rfl (val_len es_24 (lk rfl)) ?_
  refine wl_v rfl (val_move lkc) ?_
  refine wl_nil ?_
  refine px_then ?_
  refine wc_block ?_
  refine wc_trim (l' := [(1, _), (4, _), (5, _), (8, _), (9, _), (10, _)]) ⟨rfl, rfl, rfl, rfl, rfl, rfl, trivial⟩ ?_
  refine wc_loop0 (X := Nat) (fun k => k ≤ rs.length) (fun k => [(5, (true, .int .i64 (bytesU rs net k))), (10, (true, .int .i64 (k : Nat)))]) (fun k => rs.length - k) 0 (Nat.zero_le _) ⟨rfl, rfl, rfl, rfl, rfl, rfl, rfl, rfl, trivial⟩ ?_
  intro k hk
  refine wc_seq ?_
  refine wc_region ?_
  refine wl_v rfl (val_lss (lk rfl) (lk rfl)) ?_
  refine wl_nil ?_
  refine px_then ?_
  refine wc_seq ?_
  refine wc_cond (lk rfl) (fun hc0 => ?_) (fun hc0 => ?_)
  · have hlt : k < rs.length := by have := of_decide_eq_true hc0; omega
    refine wc_skip ?_
    refine px_then ?_
    refine wc_seq ?_
    refine wc_block ?_
    refine wc_seq ?_
    refine wc_region ?_
    refine wl_v rfl (val_index es_24 (lk rfl) (lk rfl) (fun hG => hs.hd encU_len (by decide) (i := k) hlt) (fun hG => hlt)) ?_
    refine wl_v rfl (val_loadN ag_31 (lk rfl) rfl (hs.rec_ rfl encU_len d0U (fun _ => hlt))) ?_
    refine wl_alloc zc_31 rfl fun b1 => ?_
    refine wl_storeB 0 rfl (lk rfl) (lk rfl) ag_31 rfl rfl ?_
    refine wl_nil ?_
    refine px_then ?_
    refine wc_seq ?_
    refine wc_region ?_
    refine wl_v rfl (val_field fo_31_0 (lk rfl)) ?_
    refine wl_v rfl (val_load1 t1_3 (lk rfl) (cell_own (.head _) fun _ => rfl)) ?_
    refine wl_v rfl (val_move (lk rfl)) ?_
    refine wl_v rfl (val_eql (lk rfl) (lk rfl)) ?_
    refine wl_nil ?_
    refine px_then ?_
    refine wc_cond (lk rfl) (fun hc1 => ?_) (fun hc1 => ?_)
    · refine wc_region ?_
      refine wl_v rfl (val_move (lk rfl)) ?_
      refine wl_v rfl (val_field fo_31_3 (lk rfl)) ?_
      refine wl_v rfl (val_load1 t1_3 (lk rfl) (cell_own (.head _) fun _ => rfl)) ?_
      refine wl_v rfl (val_add (lk rfl) (lk rfl)) ?_
      refine wl_v rfl (val_assign (lk rfl)) ?_
      refine wl_nil ?_
      refine px_block ?_
      refine px_then ?_
      refine wc_region ?_
      refine wl_v rfl (val_inc (lk rfl) (by omega)) ?_
      refine wl_v rfl (val_move (lk rfl)) ?_
      refine wl_nil ?_
      have hst : bytesU rs net (k + 1) = if (nth d0U rs k).net == net then IntKind.i64.wrap (bytesU rs net k + (nth d0U rs k).byt) else bytesU rs net k := rfl
      refine px_round0 (k + 1) (by omega) (by omega) (⟨slotI (by rw [hst]; simp_all), rfl, rfl, rfl, slotI (by rw [hst]; simp_all), rfl, rfl, rfl, trivial⟩) (fun _ h => h.dropN 1 rfl)
    refine wc_skip ?_
    refine px_block ?_
    refine px_then ?_
    refine wc_region ?_
    refine wl_v rfl (val_inc (lk rfl) (by omega)) ?_
    refine wl_v rfl (val_move (lk rfl)) ?_
    refine wl_nil ?_
    have hst : bytesU rs net (k + 1) = if (nth d0U rs k).net == net then IntKind.i64.wrap (bytesU rs net k + (nth d0U rs k).byt) else bytesU rs net k := rfl
    refine px_round0 (k + 1) (by omega) (by omega) (⟨slotI (by rw [hst]; simp_all), rfl, rfl, rfl, slotI (by rw [hst]; simp_all), rfl, rfl, rfl, trivial⟩) (fun _ h => h.dropN 1 rfl)
  have hge : k = rs.length := by have := of_decide_eq_false hc0; omega
  subst hge
  refine wc_exit ?_
  refine px_then_exit ?_
  refine px_then_exit ?_
  refine px_block_exit ?_
  refine px_then ?_
  refine wc_seq ?_
  refine wc_region ?_
  refine wl_v rfl (val_move (lk rfl)) ?_
  refine wl_v rfl (val_assign (lk rfl)) ?_
  refine wl_nil ?_
  refine px_then ?_
  refine wc_ret ?_
  refine fin1 rfl (res_tmp rfl) (fun w1 hw => ?_)
  exact ⟨rfl, hw.drop rfl⟩

theorem sOkAll_c (rs : List Rec) (A : Option Addr) (b o c : Nat) (w : World) (hs : Sl w A b o (flat encU rs)) (hl : rs.length ≤ 2097152) (hc : rs.length ≤ c) :
    Calls Try.prog 22 #[.slice A rs.length c] w fun e w' => e = .returned (.bool (okAll rs)) ∧ HP w [] w' := by
  refine calls_entry [] _ Try.func22 rfl Try.ntmps22 (HP.refl w) (env1 rfl) ?_
  refine wc_seq ?_
  refine wc_region ?_
  refine wl_v rfl (val_assign lkc) ?_
  refine wl_nil ?_
  refine px_then ?_
  refine wc_seq ?_
  refine wc_seq ?_
  refine wc_region ?_
  refine wl_v rfl (val_assign lkc) ?_
  refine wl_nil ?_
  refine px_then ?_
  refine wc_block ?_
  refine wc_trim (l' := [(0, _), (2, _), (3, _)]) ⟨rfl, rfl, rfl, trivial⟩ ?_
  refine wc_loop0 (X := Nat) (fun k => k ≤ rs.length ∧ ∀ i, i < k → okAt rs i = true) (fun k => [(3, (true, .int .i64 (k : Nat)))]) (fun k => rs.length - k) 0 (⟨Nat.zero_le _, fun i h => absurd h (Nat.not_lt_zero i)⟩) ⟨rfl, rfl, rfl, rfl, trivial⟩ ?_
  rintro k ⟨hk, ht⟩
  refine wc_seq ?_
  refine wc_seq ?_
  refine wc_region ?_
  refine wl_v rfl (val_move (lk rfl)) ?_
  refine wl_v rfl (val_move (lk rfl)) ?_
  refine wl_v rfl (val_len es_24 (lk rfl)) ?_
  refine wl_v rfl (val_lss (lk rfl) (lk rfl)) ?_
  refine wl_nil ?_
  refine px_then ?_
  refine wc_cond (lk rfl) (fun hc0 => ?_) (fun hc0 => ?_)
  · have hlt : k < rs.length := by have := of_decide_eq_true hc0; omega
    refine wc_skip ?_
    refine px_then ?_
    refine wc_seq ?_
    refine wc_block ?_
    refine wc_seq ?_
    refine wc_region_q mo_ (by kernel_rfl) ?_
    refine wq_v rfl (val_move (lk rfl)) ?_
    refine wq_v rfl (val_move (lk rfl)) ?_
    refine wq_v rfl (val_index es_24 (lk rfl) (lk rfl) (fun hG => hs.hd encU_len (by decide) (i := k) hlt) (fun hG => hlt)) ?_
    refine wq_v rfl (val_loadN ag_31 (lk rfl) rfl (hs.rec_ rfl encU_len d0U (fun _ => hlt))) ?_
    refine wq_call gd_none rfl ci_45 (args1 (lk rfl)) (fun hG w1 hw => sokU_c (nth d0U rs k) w1) ?_
    refine wq_v rfl (val_not (lk rfl)) ?_
    refine wq_v rfl (val_move (lk rfl)) ?_
    refine wq_val (gd_f rfl rfl rfl) rfl (val_move (lk rfl)) ?_
    refine wq_val (gd_f rfl rfl rfl) rfl (val_move (lk rfl)) ?_
    refine wq_val (gd_f rfl rfl rfl) rfl ((val_slice_all es_24 (lkg rfl) none (some (.tmp 18)) 0 k rfl ⟨_, lkg rfl⟩ (fun _ => Nat.zero_le _) (fun _ => by omega)).eq (show _ = Value.slice (if c = 0 then A else A.map (·.add (0 * 4))) (rs.take k).length (c - 0) by rw [List.length_take, Nat.min_eq_left (by omega)]; rfl)) ?_
    refine wq_val (gd_f rfl rfl rfl) rfl (val_move (lk rfl)) ?_
    refine wq_val (gd_f rfl rfl rfl) rfl (val_move (lk rfl)) ?_
    refine wq_val (gd_f rfl rfl rfl) rfl (val_index es_24 (lkg rfl) (lkg rfl) (fun hG => hs.hd encU_len (by decide) (i := k) hlt) (fun hG => hlt)) ?_
    refine wq_val (gd_f rfl rfl rfl) rfl (val_loadN ag_31 (lkg rfl) rfl (hs.rec_ rfl encU_len d0U (fun _ => hlt))) ?_
    refine wq_call (gd_f rfl rfl rfl) rfl ci_24 (args2 (lkg rfl) (lkg rfl)) (fun hG w1 hw => sFindU_c (rs.take k) _ _ _ _ (nth d0U rs k) w1 (((hs.hp hw rfl).sub0.take (k * 4)).eq (flat_take encU_len rs k (by omega))) (by rw [List.length_take]; omega)) ?_
    refine wq_val (gd_f rfl rfl rfl) rfl (val_geq (lkg rfl) lkc) ?_
    refine wq_v rfl (val_or (lk rfl) (lkg rfl)) ?_
    refine wq_nil ?_
    refine px_then ?_
    refine wc_cond (lk rfl) (fun hc1 => ?_) (fun hc1 => ?_)
    · refine wc_seq ?_
      refine wc_region ?_
      refine wl_v rfl (val_assign lkc) ?_
      refine wl_nil ?_
      refine px_then ?_
      refine wc_ret ?_
      refine px_block_ret ?_
      refine px_then_ret ?_
      refine px_then_ret ?_
      refine px_block_ret ?_
      refine px_then_ret ?_
      refine fin1 rfl (res_tmp rfl) (fun w1 hw => ?_)
      exact ⟨by rw [okAll_no hlt ((okAt_spec hlt).symm.trans hc1)], hw.drop rfl⟩
    refine wc_skip ?_
    refine px_block ?_
    refine px_then ?_
    refine wc_region ?_
    refine wl_v rfl (val_move (lk rfl)) ?_
    refine wl_v rfl (val_inc (lk rfl) (by omega)) ?_
    refine wl_v rfl (val_assign (lk rfl)) ?_
    refine wl_nil ?_
    refine px_round0 (k + 1) (⟨by omega, fun i hi => by
        rcases Nat.lt_succ_iff_lt_or_eq.1 hi with h | rfl
        · exact ht i h
        · simpa using ((okAt_spec hlt).symm.trans hc1)⟩) (by omega) (⟨rfl, rfl, rfl, rfl, trivial⟩) (fun _ h => h.dropN 0 rfl)
  have hge : k = rs.length := by have := of_decide_eq_false hc0; omega
  subst hge
  refine wc_exit ?_
  refine px_then_exit ?_
  refine px_then_exit ?_
  refine px_block_exit ?_
  refine px_then ?_
  refine wc_seq ?_
  refine wc_region ?_
  refine wl_v rfl (val_move (lk rfl)) ?_
  refine wl_v rfl (val_len es_24 (lk rfl)) ?_
  refine wl_v rfl (val_leq (lk rfl) lkc) ?_
  refine wl_v rfl (val_assign (lk rfl)) ?_
  refine wl_nil ?_
  refine px_then ?_
  refine wc_ret ?_
  refine fin1 rfl (res_tmp rfl) (fun w1 hw => ?_)
  exact ⟨by rw [okAll_end ht]; congr 2; rw [decide_eq_decide]; omega, hw.drop rfl⟩

theorem OkAll_c (rs : List Rec) (A : Option Addr) (b o c : Nat) (w : World) (hs : Sl w A b o (flat encU rs)) (hl : rs.length ≤ 2097152) :
    Calls Try.prog 14 #[.slice A rs.length c] w fun e w' => e = .returned (.bool (okAll rs)) ∧ HP w [] w' := by
  refine calls_entry [] _ Try.func14 rfl Try.ntmps14 (HP.refl w) (env1 rfl) ?_
  refine wc_seq ?_
  refine wc_region ?_
  refine wl_v rfl (val_assign lkc) ?_
  refine wl_nil ?_
  refine px_then ?_
  refine wc_seq ?_
  refine wc_seq ?_
  refine wc_region ?_
  refine wl_v rfl (val_move (lk rfl)) ?_
  refine wl_v rfl (val_len es_24 (lk rfl)) ?_
  refine wl_v rfl (val_gtr (lk rfl) lkc) ?_
  refine wl_nil ?_
  refine px_then ?_
  refine wc_cond (lk rfl) (fun hc0 => ?_) (fun hc0 => ?_)
  · refine wc_seq ?_
    refine wc_region ?_
    refine wl_v rfl (val_assign lkc) ?_
    refine wl_nil ?_
    refine px_then ?_
    refine wc_ret ?_
    refine px_then_ret ?_
    refine fin1 rfl (res_tmp rfl) (fun w1 hw => ?_)
    exact ⟨by have := of_decide_eq_true hc0; rw [okAll, show decide (rs.length ≤ 24) = false by simp; omega]; rfl, hw.drop rfl⟩
  refine wc_skip ?_
  refine px_then ?_
  refine wc_seq ?_
  refine wc_seq ?_
  refine wc_region ?_
  refine wl_v rfl (val_move (lk rfl)) ?_
  refine wl_v rfl (val_len es_24 (lk rfl)) ?_
  refine wl_v rfl (val_move lkc) ?_
  refine wl_nil ?_
  refine px_then ?_
  refine wc_block ?_
  refine wc_trim (l' := [(0, _), (2, _), (8, _), (9, _), (10, _)]) ⟨rfl, rfl, rfl, rfl, rfl, trivial⟩ ?_
  refine wc_loop0 (X := Nat) (fun k => k ≤ rs.length ∧ ∀ i, i < k → okAt rs i = true) (fun k => [(10, (true, .int .i64 (k : Nat)))]) (fun k => rs.length - k) 0 (⟨Nat.zero_le _, fun i h => absurd h (Nat.not_lt_zero i)⟩) ⟨rfl, rfl, rfl, rfl, rfl, rfl, trivial⟩ ?_
  rintro k ⟨hk, ht⟩
  refine wc_seq ?_
  refine wc_region ?_
  refine wl_v rfl (val_lss (lk rfl) (lk rfl)) ?_
  refine wl_nil ?_
  refine px_then ?_
  refine wc_seq ?_
  refine wc_cond (lk rfl) (fun hc1 => ?_) (fun hc1 => ?_)
  · have hlt : k < rs.length := by have := of_decide_eq_true hc1; omega
    refine wc_skip ?_
    refine px_then ?_
    refine wc_seq ?_
    refine wc_block ?_
    refine wc_seq ?_
    refine wc_region ?_
    refine wl_v rfl (val_move (lk rfl)) ?_
    refine wl_v rfl (val_index es_24 (lk rfl) (lk rfl) (fun hG => hs.hd encU_len (by decide) (i := k) hlt) (fun hG => hlt)) ?_
    refine wl_v rfl (val_loadN ag_31 (lk rfl) rfl (hs.rec_ rfl encU_len d0U (fun _ => hlt))) ?_
    refine wl_alloc zc_31 rfl fun b1 => ?_
    refine wl_v rfl (val_assign (lk rfl)) ?_
    refine wl_storeB 0 rfl (lk rfl) (lk rfl) ag_31 rfl rfl ?_
    refine wl_nil ?_
    refine px_then ?_
    refine wc_seq ?_
    refine wc_region ?_
    refine wl_v rfl (val_loadB (.head _) (lk rfl) ag_31) ?_
    refine wl_call gd_none rfl ci_41 (args1 (lk rfl)) (fun hG w1 hw => okU_c (nth d0U rs k) w1) ?_
    refine wl_v rfl (val_not (lk rfl)) ?_
    refine wl_v rfl (val_move (lk rfl)) ?_
    refine wl_val (gd_f rfl rfl rfl) rfl (val_move (lk rfl)) ?_
    refine wl_val (gd_f rfl rfl rfl) rfl (val_loadB (.head _) (lk rfl) ag_31) ?_
    refine wl_call (gd_f rfl rfl rfl) rfl ci_13 (args2 (lkg rfl) (lkg rfl)) (fun hG w1 hw => FindU_c rs _ _ _ _ (nth d0U rs k) w1 (hs.hp hw rfl) (by omega)) ?_
    refine wl_val (gd_f rfl rfl rfl) rfl (val_move (lk rfl)) ?_
    refine wl_val (gd_f rfl rfl rfl) rfl (val_neq (lkg rfl) (lkg rfl)) ?_
    refine wl_v rfl (val_or (lk rfl) (lkg rfl)) ?_
    refine wl_nil ?_
    refine px_then ?_
    refine wc_cond (lk rfl) (fun hc2 => ?_) (fun hc2 => ?_)
    · refine wc_seq ?_
      refine wc_region ?_
      refine wl_v rfl (val_assign lkc) ?_
      refine wl_nil ?_
      refine px_then ?_
      refine wc_ret ?_
      refine px_block_ret ?_
      refine px_then_ret ?_
      refine px_then_ret ?_
      refine px_block_ret ?_
      refine px_then_ret ?_
      refine fin1 rfl (res_tmp rfl) (fun w1 hw => ?_)
      exact ⟨by rw [okAll_no hlt (okAt_impl.symm.trans hc2)], hw.drop rfl⟩
    refine wc_skip ?_
    refine px_block ?_
    refine px_then ?_
    refine wc_region ?_
    refine wl_v rfl (val_inc (lk rfl) (by omega)) ?_
    refine wl_v rfl (val_move (lk rfl)) ?_
    refine wl_nil ?_
    refine px_round0 (k + 1) (⟨by omega, fun i hi => by
        rcases Nat.lt_succ_iff_lt_or_eq.1 hi with h | rfl
        · exact ht i h
        · simpa using (okAt_impl.symm.trans hc2)⟩) (by omega) (⟨rfl, rfl, rfl, rfl, rfl, rfl, trivial⟩) (fun _ h => h.dropN 1 rfl)
  have hge : k = rs.length := by have := of_decide_eq_false hc1; omega
  subst hge
  refine wc_exit ?_
  refine px_then_exit ?_
  refine px_then_exit ?_
  refine px_block_exit ?_
  refine px_then ?_
  refine wc_seq ?_
  refine wc_region ?_
  refine wl_v rfl (val_assign lkc) ?_
  refine wl_nil ?_
  refine px_then ?_
  refine wc_ret ?_
  refine fin1 rfl (res_tmp rfl) (fun w1 hw => ?_)
  exact ⟨by have := of_decide_eq_false hc0; rw [okAll_end ht, show decide (rs.length ≤ 24) = true by simp; omega], hw.drop rfl⟩


theorem agree_no {own told : List Rec} {vis : Int} {k : Nat} (h : (((nth d0U told k).net != vis) || (findU told (nth d0U told k) != (k : Int))) = true) : agreeAt own told vis k = false := by
  unfold agreeAt
  revert h
  simp only [bne]
  cases (nth d0U told k).net == vis <;> cases findU told (nth d0U told k) == (k : Int) <;> simp
theorem agree_eq {own told : List Rec} {vis : Int} {k : Nat} (h : (((nth d0U told k).net != vis) || (findU told (nth d0U told k) != (k : Int))) = false) : agreeAt own told vis k = decide (0 ≤ findU own (nth d0U told k)) := by
  unfold agreeAt
  revert h
  simp only [bne]
  cases (nth d0U told k).net == vis <;> cases findU told (nth d0U told k) == (k : Int) <;> simp
theorem disp_no {own told : List Rec} {vis : Int} {k : Nat} (h : ((nth d0U told k).net != vis) = true) : dispAt own told vis k = false := by
  unfold dispAt
  revert h
  simp only [bne]
  cases (nth d0U told k).net == vis <;> simp
theorem disp_eq {own told : List Rec} {vis : Int} {k : Nat} (h : ((nth d0U told k).net != vis) = false) : dispAt own told vis k = (((findU told (nth d0U told k) != (k : Int)) || decide (findU own (nth d0U told k) < 0)) || decide ((nth d0U own (findU own (nth d0U told k)).toNat).byt < (nth d0U told k).byt)) := by
  unfold dispAt
  revert h
  simp only [bne]
  cases (nth d0U told k).net == vis <;> simp
theorem slotS {A : Option Addr} {m n c : Nat} (h : m = n) : some (true, Value.slice A m c) = some (true, Value.slice A n c) := by rw [h]

theorem sAgree_c (own told : List Rec) (A A2 : Option Addr) (b o c b2 o2 c2 : Nat) (vis : Int) (w : World) (hs1 : Sl w A b o (flat encU own)) (hs : Sl w A2 b2 o2 (flat encU told)) (hl1 : own.length ≤ 2097152) (hl : told.length ≤ 2097152) :
    Calls Try.prog 53 #[.slice A own.length c, .slice A2 told.length c2, .int .i64 vis] w fun e w' => e = .returned (.int .i64 (agreeU own told vis told.length)) ∧ HP w [] w' := by
  refine calls_entry [] _ Try.func53 rfl Try.ntmps53 (HP.refl w) (env3 rfl) ?_
  refine wc_seq ?_
  refine wc_region ?_
  refine wl_v rfl (val_assign lkc) ?_
  refine wl_nil ?_
  refine px_then ?_
  refine wc_seq ?_
  refine wc_region ?_
  refine wl_v rfl (val_assign lkc) ?_
  refine wl_nil ?_
  refine px_then ?_
  refine wc_seq ?_
  refine wc_seq ?_
  refine wc_region ?_
  refine wl_v rfl (val_assign lkc) ?_
  refine wl_nil ?_
  refine px_then ?_
  refine wc_block ?_
  refine wc_trim (l' := [(0, _), (1, _), (2, _), (6, _), (7, _), (8, _)]) ⟨rfl, rfl, rfl, rfl, rfl, rfl, trivial⟩ ?_
  refine wc_loop0 (X := Nat) (fun k => k ≤ told.length) (fun k => [(7, (true, .int .i64 (agreeU own told vis k))), (8, (true, .int .i64 (k : Nat)))]) (fun k => told.length - k) 0 (Nat.zero_le _) ⟨rfl, rfl, rfl, rfl, rfl, rfl, rfl, rfl, trivial⟩ ?_
  intro k hk
  refine wc_seq ?_
  refine wc_seq ?_
  refine wc_region ?_
  refine wl_v rfl (val_move (lk rfl)) ?_
  refine wl_v rfl (val_move (lk rfl)) ?_
  refine wl_v rfl (val_len es_24 (lk rfl)) ?_
  refine wl_v rfl (val_lss (lk rfl) (lk rfl)) ?_
  refine wl_nil ?_
  refine px_then ?_
  refine wc_cond (lk rfl) (fun hc0 => ?_) (fun hc0 => ?_)
  · have hlt : k < told.length := by have := of_decide_eq_true hc0; omega
    refine wc_skip ?_
    refine px_then ?_
    refine wc_seq ?_
    refine wc_block ?_
    refine wc_seq ?_
    refine wc_region ?_
    refine wl_v rfl (val_move (lk rfl)) ?_
    refine wl_v rfl (val_move (lk rfl)) ?_
    refine wl_v rfl (val_move (lk rfl)) ?_
    refine wl_v rfl (val_index es_24 (lk rfl) (lk rfl) (fun hG => hs.hd encU_len (by decide) (i := k) hlt) (fun hG => hlt)) ?_
    refine wl_v rfl (val_loadN ag_31 (lk rfl) rfl (hs.rec_ rfl encU_len d0U (fun _ => hlt))) ?_
    refine wl_call gd_none rfl ci_24 (args2 (lk rfl) (lk rfl)) (fun hG w1 hw => sFindU_c own _ _ _ _ (nth d0U told k) w1 (hs1.hp hw rfl) (by omega)) ?_
    refine wl_v rfl (val_assign (lk rfl)) ?_
    refine wl_nil ?_
    refine px_then ?_
    refine wc_seq ?_
    refine wc_region ?_
    refine wl_v rfl (val_move (lk rfl)) ?_
    refine wl_v rfl (val_move (lk rfl)) ?_
    refine wl_v rfl (val_index es_24 (lk rfl) (lk rfl) (fun hG => hs.hd encU_len (by decide) (i := k) hlt) (fun hG => hlt)) ?_
    refine wl_v rfl (val_field fo_31_0 (lk rfl)) ?_
    refine wl_v rfl (val_load1 t1_3 (lk rfl) (cell_old rfl fun hG => hs.fld encU_len d0U (i := k) (f := 0) (hlt) (by decide) rfl)) ?_
    refine wl_v rfl (val_move (lk rfl)) ?_
    refine wl_v rfl (val_eql (lk rfl) (lk rfl)) ?_
    refine wl_v rfl (val_move (lk rfl)) ?_
    refine wl_val (gd_t rfl rfl rfl) rfl (val_move (lk rfl)) ?_
    refine wl_val (gd_t rfl rfl rfl) rfl (val_move (lk rfl)) ?_
    refine wl_val (gd_t rfl rfl rfl) rfl (val_move (lk rfl)) ?_
    refine wl_val (gd_t rfl rfl rfl) rfl (val_index es_24 (lkg rfl) (lkg rfl) (fun hG => hs.hd encU_len (by decide) (i := k) hlt) (fun hG => hlt)) ?_
    refine wl_val (gd_t rfl rfl rfl) rfl (val_loadN ag_31 (lkg rfl) rfl (hs.rec_ rfl encU_len d0U (fun _ => hlt))) ?_
    refine wl_call (gd_t rfl rfl rfl) rfl ci_24 (args2 (lkg rfl) (lkg rfl)) (fun hG w1 hw => sFindU_c told _ _ _ _ (nth d0U told k) w1 (hs.hp hw rfl) (by omega)) ?_
    refine wl_val (gd_t rfl rfl rfl) rfl (val_move (lk rfl)) ?_
    refine wl_val (gd_t rfl rfl rfl) rfl (val_eql (lkg rfl) (lkg rfl)) ?_
    refine wl_v rfl (val_and (lk rfl) (lkg rfl)) ?_
    refine wl_v rfl (val_move (lk rfl)) ?_
    refine wl_val (gd_t rfl rfl rfl) rfl (val_move (lk rfl)) ?_
    refine wl_val (gd_t rfl rfl rfl) rfl (val_geq (lkg rfl) lkc) ?_
    refine wl_v rfl (val_and (lk rfl) (lkg rfl)) ?_
    refine wl_nil ?_
    refine px_then ?_
    refine wc_cond (lk rfl) (fun hc1 => ?_) (fun hc1 => ?_)
    · have hat : agreeAt own told vis k = true := hc1
      have hj : 0 ≤ findU own (nth d0U told k) := of_decide_eq_true (Bool.and_eq_true _ _ ▸ hc1 : _ ∧ _).2
      refine wc_region_q mo_ (by kernel_rfl) ?_
      refine wq_v rfl (val_move (lk rfl)) ?_
      refine wq_v rfl (val_move (lk rfl)) ?_
      refine wq_v rfl (val_move (lk rfl)) ?_
      refine wq_v rfl (val_indexI es_24 (lk rfl) (lk rfl) (fun hG => hs1.hd encU_len (by decide) (i := (findU own (nth d0U told k)).toNat) (findU_lt hj).1) (fun hG => ⟨hj, (findU_lt hj).2⟩)) ?_
      refine wq_v rfl (val_field fo_31_3 (lk rfl)) ?_
      refine wq_v rfl (val_load1 t1_3 (lk rfl) (cell_old rfl fun hG => hs1.fld encU_len d0U (i := (findU own (nth d0U told k)).toNat) (f := 3) (findU_lt hj).1 (by decide) rfl)) ?_
      refine wq_v rfl (val_move (lk rfl)) ?_
      refine wq_v rfl (val_move (lk rfl)) ?_
      refine wq_v rfl (val_index es_24 (lk rfl) (lk rfl) (fun hG => hs.hd encU_len (by decide) (i := k) hlt) (fun hG => hlt)) ?_
      refine wq_v rfl (val_field fo_31_3 (lk rfl)) ?_
      refine wq_v rfl (val_load1 t1_3 (lk rfl) (cell_old rfl fun hG => hs.fld encU_len d0U (i := k) (f := 3) (hlt) (by decide) rfl)) ?_
      refine wq_call gd_none rfl ci_33 (args2 (lk rfl) (lk rfl)) (fun hG w1 hw => sMin_c _ _ w1) ?_
      refine wq_v rfl (val_add (lk rfl) (lk rfl)) ?_
      refine wq_v rfl (val_assign (lk rfl)) ?_
      refine wq_nil ?_
      refine px_block ?_
      refine px_then ?_
      refine wc_region ?_
      refine wl_v rfl (val_move (lk rfl)) ?_
      refine wl_v rfl (val_inc (lk rfl) (by omega)) ?_
      refine wl_v rfl (val_assign (lk rfl)) ?_
      refine wl_nil ?_
      refine px_round0 (k + 1) (by omega) (by omega) (⟨slotI (by simp [agreeU, hat]), rfl, rfl, rfl, rfl, rfl, slotI (by simp [agreeU, hat]), rfl, trivial⟩) (fun _ h => h.dropN 0 rfl)
    have hat : agreeAt own told vis k = false := hc1
    refine wc_skip ?_
    refine px_block ?_
    refine px_then ?_
    refine wc_region ?_
    refine wl_v rfl (val_move (lk rfl)) ?_
    refine wl_v rfl (val_inc (lk rfl) (by omega)) ?_
    refine wl_v rfl (val_assign (lk rfl)) ?_
    refine wl_nil ?_
    refine px_round0 (k + 1) (by omega) (by omega) (⟨slotI (by simp [agreeU, hat]), rfl, rfl, rfl, rfl, rfl, slotI (by simp [agreeU, hat]), rfl, trivial⟩) (fun _ h => h.dropN 0 rfl)
  have hge : k = told.length := by have := of_decide_eq_false hc0; omega
  subst hge
  refine wc_exit ?_
  refine px_then_exit ?_
  refine px_then_exit ?_
  refine px_block_exit ?_
  refine px_then ?_
  refine wc_seq ?_
  refine wc_region ?_
  refine wl_v rfl (val_move (lk rfl)) ?_
  refine wl_v rfl (val_assign (lk rfl)) ?_
  refine wl_nil ?_
  refine px_then ?_
  refine wc_ret ?_
  refine fin1 rfl (res_tmp rfl) (fun w1 hw => ?_)
  exact ⟨rfl, hw.drop rfl⟩

theorem Agree_c (own told : List Rec) (A A2 : Option Addr) (b o c b2 o2 c2 : Nat) (vis : Int) (w : World) (hs1 : Sl w A b o (flat encU own)) (hs : Sl w A2 b2 o2 (flat encU told)) (hl1 : own.length ≤ 2097152) (hl : told.length ≤ 2097152) :
    Calls Try.prog 25 #[.slice A own.length c, .slice A2 told.length c2, .int .i64 vis] w fun e w' => e = .returned (.int .i64 (agreeU own told vis told.length)) ∧ HP w [] w' := by
  refine calls_entry [] _ Try.func25 rfl Try.ntmps25 (HP.refl w) (env3 rfl) ?_
  refine wc_seq ?_
  refine wc_region ?_
  refine wl_v rfl (val_assign lkc) ?_
  refine wl_nil ?_
  refine px_then ?_
  refine wc_seq ?_
  refine wc_region ?_
  refine wl_v rfl (val_assign lkc) ?_
  refine wl_nil ?_
  refine px_then ?_
  refine wc_seq ?_
  refine wc_seq ?_
  refine wc_region ?_
  refine wl_v rfl (val_move (lk rfl)) ?_
  refine wl_v rfl (val_len es_24 (lk rfl)) ?_
  refine wl_v rfl (val_move lkc) ?_
  refine wl_nil ?_
  refine px_then ?_
  refine wc_block ?_
  refine wc_trim (l' := [(0, _), (1, _), (2, _), (6, _), (7, _), (11, _), (12, _), (13, _)]) ⟨rfl, rfl, rfl, rfl, rfl, rfl, rfl, rfl, trivial⟩ ?_
  refine wc_loop0 (X := Nat) (fun k => k ≤ told.length) (fun k => [(7, (true, .int .i64 (agreeU own told vis k))), (13, (true, .int .i64 (k : Nat)))]) (fun k => told.length - k) 0 (Nat.zero_le _) ⟨rfl, rfl, rfl, rfl, rfl, rfl, rfl, rfl, rfl, rfl, trivial⟩ ?_
  intro k hk
  refine wc_seq ?_
  refine wc_region ?_
  refine wl_v rfl (val_lss (lk rfl) (lk rfl)) ?_
  refine wl_nil ?_
  refine px_then ?_
  refine wc_seq ?_
  refine wc_cond (lk rfl) (fun hc0 => ?_) (fun hc0 => ?_)
  · have hlt : k < told.length := by have := of_decide_eq_true hc0; omega
    refine wc_skip ?_
    refine px_then ?_
    refine wc_seq ?_
    refine wc_block ?_
    refine wc_seq ?_
    refine wc_region ?_
    refine wl_v rfl (val_move (lk rfl)) ?_
    refine wl_v rfl (val_index es_24 (lk rfl) (lk rfl) (fun hG => hs.hd encU_len (by decide) (i := k) hlt) (fun hG => hlt)) ?_
    refine wl_v rfl (val_loadN ag_31 (lk rfl) rfl (hs.rec_ rfl encU_len d0U (fun _ => hlt))) ?_
    refine wl_alloc zc_31 rfl fun b1 => ?_
    refine wl_v rfl (val_assign (lk rfl)) ?_
    refine wl_storeB 0 rfl (lk rfl) (lk rfl) ag_31 rfl rfl ?_
    refine wl_nil ?_
    refine px_then ?_
    refine wc_seq ?_
    refine wc_seq ?_
    refine wc_region ?_
    refine wl_v rfl (val_field fo_31_0 (lk rfl)) ?_
    refine wl_v rfl (val_load1 t1_3 (lk rfl) (cell_own (.head _) fun _ => rfl)) ?_
    refine wl_v rfl (val_move (lk rfl)) ?_
    refine wl_v rfl (val_neq (lk rfl) (lk rfl)) ?_
    refine wl_v rfl (val_move (lk rfl)) ?_
    refine wl_val (gd_f rfl rfl rfl) rfl (val_move (lk rfl)) ?_
    refine wl_val (gd_f rfl rfl rfl) rfl (val_loadB (.head _) (lk rfl) ag_31) ?_
    refine wl_call (gd_f rfl rfl rfl) rfl ci_13 (args2 (lkg rfl) (lkg rfl)) (fun hG w1 hw => FindU_c told _ _ _ _ (nth d0U told k) w1 (hs.hp hw rfl) (by omega)) ?_
    refine wl_val (gd_f rfl rfl rfl) rfl (val_move (lk rfl)) ?_
    refine wl_val (gd_f rfl rfl rfl) rfl (val_neq (lkg rfl) (lkg rfl)) ?_
    refine wl_v rfl (val_or (lk rfl) (lkg rfl)) ?_
    refine wl_nil ?_
    refine px_then ?_
    refine wc_cond (lk rfl) (fun hc1 => ?_) (fun hc1 => ?_)
    · have hat : agreeAt own told vis k = false := agree_no hc1
      refine wc_exit ?_
      refine px_then_exit ?_
      refine px_block_exit ?_
      refine px_then ?_
      refine wc_region ?_
      refine wl_v rfl (val_inc (lk rfl) (by omega)) ?_
      refine wl_v rfl (val_move (lk rfl)) ?_
      refine wl_nil ?_
      refine px_round0 (k + 1) (by omega) (by omega) (⟨slotI (by first | (simp [agreeU, hat]; done) | simp [agreeU, hat, imin_comm]), rfl, rfl, rfl, rfl, rfl, slotI (by first | (simp [agreeU, hat]; done) | simp [agreeU, hat, imin_comm]), rfl, rfl, rfl, trivial⟩) (fun _ h => h.dropN 1 rfl)
    have hat1 := agree_eq (own := own) hc1
    refine wc_skip ?_
    refine px_then ?_
    refine wc_seq ?_
    refine wc_region ?_
    refine wl_v rfl (val_move (lk rfl)) ?_
    refine wl_v rfl (val_loadB (.head _) (lk rfl) ag_31) ?_
    refine wl_call gd_none rfl ci_13 (args2 (lk rfl) (lk rfl)) (fun hG w1 hw => FindU_c own _ _ _ _ (nth d0U told k) w1 (hs1.hp hw rfl) (by omega)) ?_
    refine wl_v rfl (val_assign (lk rfl)) ?_
    refine wl_nil ?_
    refine px_then ?_
    refine wc_seq ?_
    refine wc_region ?_
    refine wl_v rfl (val_move (lk rfl)) ?_
    refine wl_v rfl (val_geq (lk rfl) lkc) ?_
    refine wl_nil ?_
    refine px_then ?_
    refine wc_cond (lk rfl) (fun hc2 => ?_) (fun hc2 => ?_)
    · have hat : agreeAt own told vis k = true := hat1.trans hc2
      have hj : 0 ≤ findU own (nth d0U told k) := of_decide_eq_true hc2
      refine wc_region_q mo_ (by kernel_rfl) ?_
      refine wq_v rfl (val_move (lk rfl)) ?_
      refine wq_v rfl (val_field fo_31_3 (lk rfl)) ?_
      refine wq_v rfl (val_load1 t1_3 (lk rfl) (cell_own (.head _) fun _ => rfl)) ?_
      refine wq_v rfl (val_move (lk rfl)) ?_
      refine wq_v rfl (val_move (lk rfl)) ?_
      refine wq_v rfl (val_indexI es_24 (lk rfl) (lk rfl) (fun hG => hs1.hd encU_len (by decide) (i := (findU own (nth d0U told k)).toNat) (findU_lt hj).1) (fun hG => ⟨hj, (findU_lt hj).2⟩)) ?_
      refine wq_v rfl (val_field fo_31_3 (lk rfl)) ?_
      refine wq_v rfl (val_load1 t1_3 (lk rfl) (cell_old rfl fun hG => hs1.fld encU_len d0U (i := (findU own (nth d0U told k)).toNat) (f := 3) (findU_lt hj).1 (by decide) rfl)) ?_
      refine wq_call gd_none rfl ci_46 (args2 (lk rfl) (lk rfl)) (fun hG w1 hw => Min_c _ _ w1) ?_
      refine wq_v rfl (val_add (lk rfl) (lk rfl)) ?_
      refine wq_v rfl (val_assign (lk rfl)) ?_
      refine wq_nil ?_
      refine px_block ?_
      refine px_then ?_
      refine wc_region ?_
      refine wl_v rfl (val_inc (lk rfl) (by omega)) ?_
      refine wl_v rfl (val_move (lk rfl)) ?_
      refine wl_nil ?_
      refine px_round0 (k + 1) (by omega) (by omega) (⟨slotI (by first | (simp [agreeU, hat]; done) | simp [agreeU, hat, imin_comm]), rfl, rfl, rfl, rfl, rfl, slotI (by first | (simp [agreeU, hat]; done) | simp [agreeU, hat, imin_comm]), rfl, rfl, rfl, trivial⟩) (fun _ h => h.dropN 1 rfl)
    have hat : agreeAt own told vis k = false := hat1.trans hc2
    refine wc_skip ?_
    refine px_block ?_
    refine px_then ?_
    refine wc_region ?_
    refine wl_v rfl (val_inc (lk rfl) (by omega)) ?_
    refine wl_v rfl (val_move (lk rfl)) ?_
    refine wl_nil ?_
    refine px_round0 (k + 1) (by omega) (by omega) (⟨slotI (by first | (simp [agreeU, hat]; done) | simp [agreeU, hat, imin_comm]), rfl, rfl, rfl, rfl, rfl, slotI (by first | (simp [agreeU, hat]; done) | simp [agreeU, hat, imin_comm]), rfl, rfl, rfl, trivial⟩) (fun _ h => h.dropN 1 rfl)
  have hge : k = told.length := by have := of_decide_eq_false hc0; omega
  subst hge
  refine wc_exit ?_
  refine px_then_exit ?_
  refine px_then_exit ?_
  refine px_block_exit ?_
  refine px_then ?_
  refine wc_seq ?_
  refine wc_region ?_
  refine wl_v rfl (val_move (lk rfl)) ?_
  refine wl_v rfl (val_assign (lk rfl)) ?_
  refine wl_nil ?_
  refine px_then ?_
  refine wc_ret ?_
  refine fin1 rfl (res_tmp rfl) (fun w1 hw => ?_)
  exact ⟨rfl, hw.drop rfl⟩

theorem sOwed_c (d : Agr) (own told : List Rec) (A A2 : Option Addr) (b o c b2 o2 c2 : Nat) (w : World) (hs1 : Sl w A b o (flat encU own)) (hs : Sl w A2 b2 o2 (flat encU told)) (hl1 : own.length ≤ 2097152) (hl : told.length ≤ 2097152) (hcp1 : own.length ≤ c) (hcp2 : told.length ≤ c2) :
    Calls Try.prog 36 #[.agg (recV encG d).toArray, .slice A own.length c, .slice A2 told.length c2] w fun e w' => e = .returned (.int .i64 (owed d own told)) ∧ HP w [] w' := by
  refine calls_entry [] _ Try.func36 rfl Try.ntmps36 (HP.refl w) (env3 rfl) ?_
  refine wc_seq ?_
  refine wc_region ?_
  refine wl_box (lk rfl) rfl fun b1 => ?_
  refine wl_v rfl (val_assign lkc) ?_
  refine wl_nil ?_
  refine px_then ?_
  refine wc_seq ?_
  refine wc_seq ?_
  refine wc_region ?_
  refine wl_v rfl (val_loadB (.head _) (lk rfl) ag_48) ?_
  refine wl_call gd_none rfl ci_32 (args1 (lk rfl)) (fun hG w1 hw => sokG_c d w1) ?_
  refine wl_v rfl (val_not (lk rfl)) ?_
  refine wl_v rfl (val_move (lk rfl)) ?_
  refine wl_val (gd_f rfl rfl rfl) rfl (val_move (lk rfl)) ?_
  refine wl_call (gd_f rfl rfl rfl) rfl ci_22 (args1 (lkg rfl)) (fun hG w1 hw => sOkAll_c own _ _ _ _ w1 (hs1.hp hw rfl) (by omega) (by omega)) ?_
  refine wl_val (gd_f rfl rfl rfl) rfl (val_not (lkg rfl)) ?_
  refine wl_v rfl (val_or (lk rfl) (lkg rfl)) ?_
  refine wl_v rfl (val_move (lk rfl)) ?_
  refine wl_val (gd_f rfl rfl rfl) rfl (val_move (lk rfl)) ?_
  refine wl_call (gd_f rfl rfl rfl) rfl ci_22 (args1 (lkg rfl)) (fun hG w1 hw => sOkAll_c told _ _ _ _ w1 (hs.hp hw rfl) (by omega) (by omega)) ?_
  refine wl_val (gd_f rfl rfl rfl) rfl (val_not (lkg rfl)) ?_
  refine wl_v rfl (val_or (lk rfl) (lkg rfl)) ?_
  refine wl_nil ?_
  refine px_then ?_
  refine wc_cond (lk rfl) (fun hc0 => ?_) (fun hc0 => ?_)
  · refine wc_seq ?_
    refine wc_region ?_
    refine wl_v rfl (val_assign lkc) ?_
    refine wl_nil ?_
    refine px_then ?_
    refine wc_ret ?_
    refine px_then_ret ?_
    refine fin1 rfl (res_tmp rfl) (fun w1 hw => ?_)
    exact ⟨by rw [owed, if_neg (by revert hc0; cases okG d <;> cases okAll own <;> cases okAll told <;> simp)], hw.drop rfl⟩
  refine wc_skip ?_
  refine px_then ?_
  refine wc_seq ?_
  refine wc_region_q mo_ (by kernel_rfl) ?_
  refine wq_v rfl (val_field fo_48_3 (lk rfl)) ?_
  refine wq_v rfl (val_load1 t1_3 (lk rfl) (cell_own (.head _) fun _ => rfl)) ?_
  refine wq_v rfl (val_field fo_48_2 (lk rfl)) ?_
  refine wq_v rfl (val_load1 t1_3 (lk rfl) (cell_own (.head _) fun _ => rfl)) ?_
  refine wq_v rfl (val_move (lk rfl)) ?_
  refine wq_v rfl (val_move (lk rfl)) ?_
  refine wq_v rfl (val_field fo_48_1 (lk rfl)) ?_
  refine wq_v rfl (val_load1 t1_3 (lk rfl) (cell_own (.head _) fun _ => rfl)) ?_
  refine wq_call gd_none rfl ci_53 (args3 (lk rfl) (lk rfl) (lk rfl)) (fun hG w1 hw => sAgree_c own told _ _ _ _ _ _ _ _ _ w1 (hs1.hp hw rfl) (hs.hp hw rfl) (by omega) (by omega)) ?_
  refine wq_v rfl (val_mul (lk rfl) (lk rfl)) ?_
  refine wq_call gd_none rfl ci_33 (args2 (lk rfl) (lk rfl)) (fun hG w1 hw => sMin_c _ _ w1) ?_
  refine wq_v rfl (val_assign (lk rfl)) ?_
  refine wq_nil ?_
  refine px_then ?_
  refine wc_ret ?_
  refine fin1 rfl (res_tmp rfl) (fun w1 hw => ?_)
  exact ⟨by rw [owed, if_pos (by revert hc0; cases okG d <;> cases okAll own <;> cases okAll told <;> simp)], hw.drop rfl⟩

theorem Owed_c (d : Agr) (own told : List Rec) (A A2 : Option Addr) (b o c b2 o2 c2 : Nat) (w : World) (hs1 : Sl w A b o (flat encU own)) (hs : Sl w A2 b2 o2 (flat encU told)) (hl1 : own.length ≤ 2097152) (hl : told.length ≤ 2097152) :
    Calls Try.prog 31 #[.agg (recV encG d).toArray, .slice A own.length c, .slice A2 told.length c2] w fun e w' => e = .returned (.int .i64 (owed d own told)) ∧ HP w [] w' := by
  refine calls_entry [] _ Try.func31 rfl Try.ntmps31 (HP.refl w) (env3 rfl) ?_
  refine wc_seq ?_
  refine wc_region ?_
  refine wl_box (lk rfl) rfl fun b1 => ?_
  refine wl_v rfl (val_assign lkc) ?_
  refine wl_nil ?_
  refine px_then ?_
  refine wc_seq ?_
  refine wc_seq ?_
  refine wc_region ?_
  refine wl_v rfl (val_loadB (.head _) (lk rfl) ag_48) ?_
  refine wl_call gd_none rfl ci_51 (args1 (lk rfl)) (fun hG w1 hw => okG_c d w1) ?_
  refine wl_v rfl (val_not (lk rfl)) ?_
  refine wl_v rfl (val_move (lk rfl)) ?_
  refine wl_val (gd_f rfl rfl rfl) rfl (val_move (lk rfl)) ?_
  refine wl_call (gd_f rfl rfl rfl) rfl ci_14 (args1 (lkg rfl)) (fun hG w1 hw => OkAll_c own _ _ _ _ w1 (hs1.hp hw rfl) (by omega)) ?_
  refine wl_val (gd_f rfl rfl rfl) rfl (val_not (lkg rfl)) ?_
  refine wl_v rfl (val_or (lk rfl) (lkg rfl)) ?_
  refine wl_v rfl (val_move (lk rfl)) ?_
  refine wl_val (gd_f rfl rfl rfl) rfl (val_move (lk rfl)) ?_
  refine wl_call (gd_f rfl rfl rfl) rfl ci_14 (args1 (lkg rfl)) (fun hG w1 hw => OkAll_c told _ _ _ _ w1 (hs.hp hw rfl) (by omega)) ?_
  refine wl_val (gd_f rfl rfl rfl) rfl (val_not (lkg rfl)) ?_
  refine wl_v rfl (val_or (lk rfl) (lkg rfl)) ?_
  refine wl_nil ?_
  refine px_then ?_
  refine wc_cond (lk rfl) (fun hc0 => ?_) (fun hc0 => ?_)
  · refine wc_seq ?_
    refine wc_region ?_
    refine wl_v rfl (val_assign lkc) ?_
    refine wl_nil ?_
    refine px_then ?_
    refine wc_ret ?_
    refine px_then_ret ?_
    refine fin1 rfl (res_tmp rfl) (fun w1 hw => ?_)
    exact ⟨by rw [owed, if_neg (by revert hc0; cases okG d <;> cases okAll own <;> cases okAll told <;> simp)], hw.drop rfl⟩
  refine wc_skip ?_
  refine px_then ?_
  refine wc_seq ?_
  refine wc_region_q mo_ (by kernel_rfl) ?_
  refine wq_v rfl (val_field fo_48_3 (lk rfl)) ?_
  refine wq_v rfl (val_load1 t1_3 (lk rfl) (cell_own (.head _) fun _ => rfl)) ?_
  refine wq_v rfl (val_field fo_48_2 (lk rfl)) ?_
  refine wq_v rfl (val_load1 t1_3 (lk rfl) (cell_own (.head _) fun _ => rfl)) ?_
  refine wq_v rfl (val_move (lk rfl)) ?_
  refine wq_v rfl (val_move (lk rfl)) ?_
  refine wq_v rfl (val_field fo_48_1 (lk rfl)) ?_
  refine wq_v rfl (val_load1 t1_3 (lk rfl) (cell_own (.head _) fun _ => rfl)) ?_
  refine wq_call gd_none rfl ci_25 (args3 (lk rfl) (lk rfl) (lk rfl)) (fun hG w1 hw => Agree_c own told _ _ _ _ _ _ _ _ _ w1 (hs1.hp hw rfl) (hs.hp hw rfl) (by omega) (by omega)) ?_
  refine wq_v rfl (val_mul (lk rfl) (lk rfl)) ?_
  refine wq_call gd_none rfl ci_46 (args2 (lk rfl) (lk rfl)) (fun hG w1 hw => Min_c _ _ w1) ?_
  refine wq_v rfl (val_assign (lk rfl)) ?_
  refine wq_nil ?_
  refine px_then ?_
  refine wc_ret ?_
  refine fin1 rfl (res_tmp rfl) (fun w1 hw => ?_)
  exact ⟨by rw [owed, if_pos (by revert hc0; cases okG d <;> cases okAll own <;> cases okAll told <;> simp)], hw.drop rfl⟩

theorem Net_c (d d2 : Agr) (own told : List Rec) (A A2 : Option Addr) (b o c b2 o2 c2 : Nat) (w : World) (hs1 : Sl w A b o (flat encU own)) (hs : Sl w A2 b2 o2 (flat encU told)) (hl1 : own.length ≤ 2097152) (hl : told.length ≤ 2097152) :
    Calls Try.prog 35 #[.agg (recV encG d).toArray, .agg (recV encG d2).toArray, .slice A own.length c, .slice A2 told.length c2] w fun e w' => e = .returned (.int .i64 (IntKind.i64.wrap (owed d own told - owed d2 told own))) ∧ HP w [] w' := by
  refine calls_entry [] _ Try.func35 rfl Try.ntmps35 (HP.refl w) (env4 rfl) ?_
  refine wc_seq ?_
  refine wc_region ?_
  refine wl_box (lk rfl) rfl fun b1 => ?_
  refine wl_box (lk rfl) rfl fun b2 => ?_
  refine wl_v rfl (val_assign lkc) ?_
  refine wl_nil ?_
  refine px_then ?_
  refine wc_seq ?_
  refine wc_region_q mo_ (by kernel_rfl) ?_
  refine wq_v rfl (val_loadB (.tail _ (.head _)) (lk rfl) ag_48) ?_
  refine wq_v rfl (val_move (lk rfl)) ?_
  refine wq_v rfl (val_move (lk rfl)) ?_
  refine wq_call gd_none rfl ci_31 (args3 (lk rfl) (lk rfl) (lk rfl)) (fun hG w1 hw => Owed_c _ own told _ _ _ _ _ _ _ _ w1 (hs1.hp hw rfl) (hs.hp hw rfl) (by omega) (by omega)) ?_
  refine wq_v rfl (val_loadB (.head _) (lk rfl) ag_48) ?_
  refine wq_v rfl (val_move (lk rfl)) ?_
  refine wq_v rfl (val_move (lk rfl)) ?_
  refine wq_call gd_none rfl ci_31 (args3 (lk rfl) (lk rfl) (lk rfl)) (fun hG w1 hw => Owed_c _ told own _ _ _ _ _ _ _ _ w1 (hs.hp hw rfl) (hs1.hp hw rfl) (by omega) (by omega)) ?_
  refine wq_v rfl (val_sub (lk rfl) (lk rfl)) ?_
  refine wq_v rfl (val_assign (lk rfl)) ?_
  refine wq_nil ?_
  refine px_then ?_
  refine wc_ret ?_
  refine fin1 rfl (res_tmp rfl) (fun w1 hw => ?_)
  exact ⟨rfl, hw.drop rfl⟩

end Go.Proofs.Ytcdinidpclmmeaa
