/- Settlement, disputes and missing records: what the laws on draws ask, in plain Lean. -/
import Derived.Test.YtcdinidpclmmeaaSxL
namespace Go.Proofs.Ytcdinidpclmmeaa
open Go.RowKit


def sumN (f : Nat → Int) : Nat → Int
  | 0 => 0
  | k + 1 => sumN f k + f k
theorem sumN_congr {f g : Nat → Int} : ∀ n, (∀ i, i < n → f i = g i) → sumN f n = sumN g n
  | 0, _ => rfl
  | n + 1, h => by rw [sumN, sumN, sumN_congr n (fun i hi => h i (by omega)), h n (by omega)]
theorem sumN_zero {f : Nat → Int} : ∀ n, (∀ i, i < n → f i = 0) → sumN f n = 0
  | 0, _ => rfl
  | n + 1, h => by rw [sumN, sumN_zero n (fun i hi => h i (by omega)), h n (by omega)]; rfl
theorem sumN_one {f : Nat → Int} {p : Nat} : ∀ n, p < n → (∀ i, i < n → i ≠ p → f i = 0) → sumN f n = f p
  | n + 1, hp, h => by
    rw [sumN]
    by_cases e : p = n
    · subst e
      rw [sumN_zero p (fun i hi => h i (by omega) (by omega))]; omega
    · rw [sumN_one n (by omega) (fun i hi => h i (by omega)), h n (by omega) (by omega)]; omega
theorem sumN_add (f g : Nat → Int) : ∀ n, sumN (fun i => f i + g i) n = sumN f n + sumN g n
  | 0 => rfl
  | n + 1 => by rw [sumN, sumN, sumN, sumN_add f g n]; omega
theorem sumN_swap (g : Nat → Nat → Int) (m : Nat) : ∀ n, sumN (fun j => sumN (fun i => g i j) m) n = sumN (fun i => sumN (fun j => g i j) n) m
  | 0 => (sumN_zero m (fun _ _ => rfl)).symm
  | n + 1 => by
    show sumN _ n + sumN (fun i => g i n) m = _
    rw [sumN_swap g m n, ← sumN_add]
    rfl
theorem sumN_le {f g : Nat → Int} : ∀ n, (∀ i, i < n → f i ≤ g i) → sumN f n ≤ sumN g n
  | 0, _ => Int.le_refl _
  | n + 1, h => by
    have h1 := sumN_le n (fun i hi => h i (by omega))
    have h2 := h n (by omega)
    rw [sumN, sumN]; omega
theorem sumN_range {f : Nat → Int} : ∀ n, (∀ i, i < n → 0 ≤ f i ∧ f i ≤ 100000) → 0 ≤ sumN f n ∧ sumN f n ≤ 100000 * n
  | 0, _ => ⟨Int.le_refl _, Int.le_refl _⟩
  | n + 1, h => by
    have h1 := sumN_range n (fun i hi => h i (by omega))
    have h2 := h n (by omega)
    rw [sumN]; omega
theorem at_ok {rs : List Rec} (h : okAll rs = true) {i : Nat} (hi : i < rs.length) : (0 ≤ (nth d0U rs i).byt ∧ (nth d0U rs i).byt ≤ 100000) ∧ findU rs (nth d0U rs i) = (i : Int) := by
  have h1 := ((okAll_iff rs).1 h).2 i hi
  simp only [okAt, okU, inRange, Bool.and_eq_true, decide_eq_true_eq, beq_iff_eq] at h1
  exact ⟨h1.1.2, h1.2⟩
theorem len_ok {rs : List Rec} (h : okAll rs = true) : rs.length ≤ 24 := ((okAll_iff rs).1 h).1
def byT (rs : List Rec) (net : Int) (j : Nat) : Int := if (nth d0U rs j).net == net then (nth d0U rs j).byt else 0
theorem byT_range {rs : List Rec} (h : okAll rs = true) (net : Int) {j : Nat} (hj : j < rs.length) : 0 ≤ byT rs net j ∧ byT rs net j ≤ 100000 := by
  have := (at_ok h hj).1
  unfold byT; split <;> omega
theorem bytesU_sum {rs : List Rec} (h : okAll rs = true) (net : Int) : ∀ k, k ≤ rs.length → bytesU rs net k = sumN (byT rs net) k
  | 0, _ => rfl
  | k + 1, hk => by
    have hl := len_ok h
    have h1 := sumN_range k (fun i hi => byT_range h net (j := i) (by omega))
    have h2 := (at_ok h (i := k) (by omega)).1
    rw [bytesU, sumN, bytesU_sum h net k (by omega), byT]
    split
    · rw [wrap64_in' (by omega)]
    · omega
def agT (own told : List Rec) (vis : Int) (j : Nat) : Int := if agreeAt own told vis j then imin (nth d0U own (findU own (nth d0U told j)).toNat).byt (nth d0U told j).byt else 0
theorem imin_le (a b : Int) : imin a b ≤ a ∧ imin a b ≤ b := by unfold imin; split <;> omega
theorem imin_ge {a b c : Int} (h1 : c ≤ a) (h2 : c ≤ b) : c ≤ imin a b := by unfold imin; split <;> omega
theorem agreeAt_iff {own told : List Rec} (ht : okAll told = true) {vis : Int} {j : Nat} (hj : j < told.length) : agreeAt own told vis j = (((nth d0U told j).net == vis) && decide (0 ≤ findU own (nth d0U told j))) := by
  rw [agreeAt, (at_ok ht hj).2]; simp
theorem agT_range {own told : List Rec} (ho : okAll own = true) (ht : okAll told = true) {vis : Int} {j : Nat} (hj : j < told.length) : 0 ≤ agT own told vis j ∧ agT own told vis j ≤ byT told vis j := by
  have h1 := (at_ok ht hj).1
  unfold agT byT
  rw [agreeAt_iff ht hj]
  split
  · rename_i h
    rw [Bool.and_eq_true, decide_eq_true_eq] at h
    have h2 := (at_ok ho (findU_lt h.2).1).1
    rw [if_pos h.1]
    exact ⟨imin_ge h2.1 h1.1, (imin_le _ _).2⟩
  · split <;> omega
theorem agreeU_sum {own told : List Rec} (ho : okAll own = true) (ht : okAll told = true) (vis : Int) : ∀ k, k ≤ told.length → agreeU own told vis k = sumN (agT own told vis) k
  | 0, _ => rfl
  | k + 1, hk => by
    have hl := len_ok ht
    have h1 := sumN_range k (fun i hi => ⟨(agT_range ho ht (vis := vis) (j := i) (by omega)).1, Int.le_trans (agT_range ho ht (vis := vis) (j := i) (by omega)).2 (byT_range ht vis (by omega)).2⟩)
    have h2 := agT_range ho ht (vis := vis) (j := k) (by omega)
    have h3 := byT_range ht vis (j := k) (by omega)
    rw [agreeU, sumN, agreeU_sum ho ht vis k (by omega)]
    unfold agT at h2 ⊢
    split
    · rename_i h
      rw [if_pos h] at h2
      rw [wrap64_in' (by unfold agT at h1; omega)]
    · omega
theorem findI_sat {α : Type} (p : α → Bool) (d : α) : ∀ (i : Nat) (rs : List α), 0 ≤ findI p i rs → p (nth d rs (findI p i rs - i).toNat) = true
  | _, [], h => by simp [findI] at h
  | i, r :: rs, h => by
    rw [findI] at h ⊢
    split
    · rename_i hp
      rw [show ((i : Int) - i).toNat = 0 by omega]
      exact hp
    · rename_i hp
      rw [if_neg hp] at h
      have h1 := findI_sat p d (i + 1) rs h
      have h2 := (findI_lt p (i + 1) rs h).1
      rw [show (findI p (i + 1) rs - (i : Int)).toNat = (findI p (i + 1) rs - ((i + 1 : Nat) : Int)).toNat + 1 by omega]
      exact h1
theorem findU_sat {rs : List Rec} {r : Rec} (h : 0 ≤ findU rs r) : sameU (nth d0U rs (findU rs r).toNat) r = true := by
  have := findI_sat (fun s => sameU s r) d0U 0 rs h
  rwa [show (findI (fun s => sameU s r) 0 rs - ((0 : Nat) : Int)).toNat = (findU rs r).toNat by rw [findU]; omega] at this
theorem sameU_iff {r s : Rec} : sameU r s = true ↔ (r.net = s.net ∧ r.sid = s.sid) ∧ r.seq = s.seq := by simp [sameU]
theorem findU_key {r s : Rec} (h : sameU r s = true) (rs : List Rec) : findU rs r = findU rs s := by
  obtain ⟨⟨h1, h2⟩, h3⟩ := sameU_iff.1 h
  unfold findU
  congr 1
  funext x
  rw [sameU, sameU, h1, h2, h3]
def pT (own told : List Rec) (vis : Int) (i j : Nat) : Int := if sameU (nth d0U own i) (nth d0U told j) && ((nth d0U told j).net == vis) then imin (nth d0U own i).byt (nth d0U told j).byt else 0
theorem agT_pairs {own told : List Rec} (ho : okAll own = true) (ht : okAll told = true) {vis : Int} {j : Nat} (hj : j < told.length) : agT own told vis j = sumN (fun i => pT own told vis i j) own.length := by
  have hu : ∀ i, i < own.length → sameU (nth d0U own i) (nth d0U told j) = true → findU own (nth d0U told j) = (i : Int) := fun i hi hs => by
    rw [← findU_key hs]; exact (at_ok ho hi).2
  unfold agT
  rw [agreeAt_iff ht hj]
  by_cases h0 : 0 ≤ findU own (nth d0U told j)
  · rw [sumN_one _ (findU_lt h0).1 (fun i hi hne => by
      unfold pT
      rw [if_neg]
      intro h
      have := hu i hi (Bool.and_eq_true _ _ ▸ h : _ ∧ _).1
      omega), pT, findU_sat h0]
    cases (nth d0U told j).net == vis <;> simp [h0]
  · rw [sumN_zero _ (fun i hi => by
      unfold pT
      rw [if_neg]
      intro h
      have := hu i hi (Bool.and_eq_true _ _ ▸ h : _ ∧ _).1
      omega), if_neg (by simp; omega)]
theorem pT_comm (own told : List Rec) (vis : Int) (i j : Nat) : pT own told vis i j = pT told own vis j i := by
  unfold pT
  rw [sameU_comm (nth d0U told j) (nth d0U own i), imin_comm (nth d0U told j).byt]
  by_cases h : sameU (nth d0U own i) (nth d0U told j) = true
  · rw [(sameU_iff.1 h).1.1]
  · simp [h]
theorem agree_comm {own told : List Rec} (ho : okAll own = true) (ht : okAll told = true) (vis : Int) : agreeU own told vis told.length = agreeU told own vis own.length := by
  rw [agreeU_sum ho ht vis _ (Nat.le_refl _), agreeU_sum ht ho vis _ (Nat.le_refl _), sumN_congr _ (fun j hj => agT_pairs ho ht (vis := vis) hj), sumN_congr _ (fun j hj => agT_pairs ht ho (vis := vis) hj), sumN_swap]
  exact sumN_congr _ fun i _ => sumN_congr _ fun j _ => pT_comm own told vis i j
theorem agree_self {told : List Rec} (ht : okAll told = true) (vis : Int) : agreeU told told vis told.length = bytesU told vis told.length := by
  rw [agreeU_sum ht ht vis _ (Nat.le_refl _), bytesU_sum ht vis _ (Nat.le_refl _)]
  refine sumN_congr _ fun j hj => ?_
  unfold agT byT
  have h1 := (at_ok ht hj).2
  rw [agreeAt_iff ht hj, h1]
  have e : imin (nth d0U told j).byt (nth d0U told j).byt = (nth d0U told j).byt := by unfold imin; split <;> rfl
  rw [show ((j : Nat) : Int).toNat = j from rfl, e]
  cases (nth d0U told j).net == vis <;> simp
theorem agree_le {own told : List Rec} (ho : okAll own = true) (ht : okAll told = true) (vis : Int) : agreeU own told vis told.length ≤ bytesU told vis told.length := by
  rw [agreeU_sum ho ht vis _ (Nat.le_refl _), bytesU_sum ht vis _ (Nat.le_refl _)]
  exact sumN_le _ fun j hj => (agT_range ho ht hj).2
theorem settle_no {d : Agr} {own told : List Rec} (h : ((!okG d || !okAll own) || !okAll told) = true) : (owed d own told == 0) = true := by
  rw [owed, if_neg]
  · rfl
  · revert h; cases okG d <;> cases okAll own <;> cases okAll told <;> simp
theorem settle_ok {d : Agr} {own told : List Rec} (h : ((!okG d || !okAll own) || !okAll told) = false) : okG d = true ∧ okAll own = true ∧ okAll told = true := by
  revert h; cases okG d <;> cases okAll own <;> cases okAll told <;> simp
theorem settle_law {d : Agr} {own told : List Rec} (h : ((!okG d || !okAll own) || !okAll told) = false) :
    (((((owed d own told == imin d.cap (IntKind.i64.wrap (d.price * agreeU own told d.vis told.length))) && decide (agreeU own told d.vis told.length ≤ bytesU told d.vis told.length)) && decide (agreeU own told d.vis told.length ≤ bytesU own d.vis own.length)) && (agreeU own told d.vis told.length == agreeU told own d.vis own.length)) && (agreeU told told d.vis told.length == bytesU told d.vis told.length)) = true := by
  obtain ⟨hg, ho, ht⟩ := settle_ok h
  have h1 : owed d own told = imin d.cap (IntKind.i64.wrap (d.price * agreeU own told d.vis told.length)) := by rw [owed, hg, ho, ht]; rfl
  have h2 := agree_le ho ht d.vis
  have h3 := agree_le ht ho d.vis
  have h4 := agree_comm ho ht d.vis
  rw [h1, agree_self ht, ← h4]
  rw [← h4] at h3
  simp [h2, h3]


def totB (ls : List Rec) : Nat → Int
  | 0 => 0
  | k + 1 => IntKind.i64.wrap (totB ls k + (nth d0U ls k).byt)
theorem totB_app (rs : List Rec) (r : Rec) : ∀ k, k ≤ rs.length → totB (rs ++ [r]) k = totB rs k
  | 0, _ => rfl
  | k + 1, h => by rw [totB, totB, nth_app (by omega), totB_app rs r k (by omega)]
theorem dispAt_iff {own told : List Rec} (ht : okAll told = true) {vis : Int} {j : Nat} (hj : j < told.length) : dispAt own told vis j = (((nth d0U told j).net == vis) && (decide (findU own (nth d0U told j) < 0) || decide ((nth d0U own (findU own (nth d0U told j)).toNat).byt < (nth d0U told j).byt))) := by
  rw [dispAt, (at_ok ht hj).2]; simp
def dT (own told : List Rec) (vis : Int) (j : Nat) : Int := if dispAt own told vis j then (nth d0U told j).byt else 0
theorem dT_range {own told : List Rec} (ht : okAll told = true) {vis : Int} {j : Nat} (hj : j < told.length) : 0 ≤ dT own told vis j ∧ dT own told vis j ≤ 100000 := by
  have := (at_ok ht hj).1
  unfold dT; split <;> omega
theorem disp_sum {own told : List Rec} (ht : okAll told = true) (vis : Int) : ∀ k, k ≤ told.length → totB (dispU own told vis k) (dispU own told vis k).length = sumN (dT own told vis) k
  | 0, _ => rfl
  | k + 1, hk => by
    have hl := len_ok ht
    have ih := disp_sum (own := own) ht vis k (by omega)
    have h1 := sumN_range k (fun i hi => dT_range (own := own) ht (vis := vis) (j := i) (by omega))
    have h2 := (at_ok ht (i := k) (by omega)).1
    rw [dispU, sumN, ← ih]
    rw [← ih] at h1
    unfold dT
    split
    · rw [List.length_append, List.length_cons, List.length_nil, totB, nth_last, totB_app _ _ _ (Nat.le_refl _), wrap64_in' (by omega)]
    · omega
theorem dispU_mem {own told : List Rec} {vis : Int} : ∀ k i, i < (dispU own told vis k).length → ∃ j, j < k ∧ nth d0U (dispU own told vis k) i = nth d0U told j ∧ dispAt own told vis j = true
  | 0, i, h => by simp [dispU] at h
  | k + 1, i, h => by
    rw [dispU] at h ⊢
    split
    · rename_i hd
      rw [if_pos hd, List.length_append, List.length_cons, List.length_nil] at h
      by_cases e : i < (dispU own told vis k).length
      · obtain ⟨j, h1, h2, h3⟩ := dispU_mem k i e
        exact ⟨j, by omega, by rw [nth_app e]; exact h2, h3⟩
      · have e2 : i = (dispU own told vis k).length := by omega
        subst e2
        exact ⟨k, by omega, nth_last _ _, hd⟩
    · rename_i hd
      rw [if_neg hd] at h
      obtain ⟨j, h1, h2, h3⟩ := dispU_mem k i h
      exact ⟨j, by omega, h2, h3⟩
theorem disp_chk {own told : List Rec} (ht : okAll told = true) {vis : Int} {k : Nat} (h : k < (dispU own told vis told.length).length) :
    (((nth d0U (dispU own told vis told.length) k).net != vis) || (decide (0 ≤ findU own (nth d0U (dispU own told vis told.length) k)) && decide ((nth d0U (dispU own told vis told.length) k).byt ≤ (nth d0U own (findU own (nth d0U (dispU own told vis told.length) k)).toNat).byt))) = false := by
  obtain ⟨j, h1, h2, h3⟩ := dispU_mem _ k h
  rw [h2]
  rw [dispAt_iff ht h1] at h3
  revert h3
  simp only [bne]
  cases (nth d0U told j).net == vis <;> simp <;> omega
theorem disp_terms {own told : List Rec} (ho : okAll own = true) (ht : okAll told = true) {vis : Int} {j : Nat} (hj : j < told.length) : byT told vis j ≤ agT own told vis j + dT own told vis j := by
  have h1 := (at_ok ht hj).1
  have h2 := agT_range ho ht (vis := vis) hj
  have h3 := dT_range (own := own) ht (vis := vis) hj
  unfold byT at h2 ⊢
  split
  · rename_i hn
    by_cases hd : dispAt own told vis j = true
    · have e : dT own told vis j = (nth d0U told j).byt := by rw [dT, if_pos hd]
      omega
    · have h4 : 0 ≤ findU own (nth d0U told j) ∧ (nth d0U told j).byt ≤ (nth d0U own (findU own (nth d0U told j)).toNat).byt := by
        rw [dispAt_iff ht hj, hn] at hd
        simpa using hd
      have e : agT own told vis j = imin (nth d0U own (findU own (nth d0U told j)).toNat).byt (nth d0U told j).byt := by
        rw [agT, if_pos (by rw [agreeAt_iff ht hj, hn]; simp [h4.1])]
      have := imin_ge h4.2 (Int.le_refl (nth d0U told j).byt)
      omega
  · omega
theorem disp_no_law {own told : List Rec} {vis : Int} : ((((dispU own told vis told.length).length : Nat) : Int) == (((dispU own told vis told.length).length : Nat) : Int)) = true := by simp
theorem disp_law {own told : List Rec} {vis : Int} (h : (!okAll own || !okAll told) = false) :
    ((decide (IntKind.i64.wrap (bytesU told vis told.length - totB (dispU own told vis told.length) (dispU own told vis told.length).length) ≤ agreeU own told vis told.length) && decide (agreeU own told vis told.length ≤ bytesU told vis told.length)) && (decide ((0 : Int) < (((dispU own told vis told.length).length : Nat) : Int)) || (agreeU own told vis told.length == bytesU told vis told.length))) = true := by
  have h0 : okAll own = true ∧ okAll told = true := by revert h; cases okAll own <;> cases okAll told <;> simp
  obtain ⟨ho, ht⟩ := h0
  have hl := len_ok ht
  have h1 := agree_le ho ht vis
  have h2 := disp_sum (own := own) ht vis _ (Nat.le_refl _)
  have h3 := sumN_le (f := byT told vis) (g := fun j => agT own told vis j + dT own told vis j) told.length (fun j hj => disp_terms ho ht hj)
  rw [sumN_add, ← bytesU_sum ht vis _ (Nat.le_refl _), ← agreeU_sum ho ht vis _ (Nat.le_refl _), ← h2] at h3
  have h4 := sumN_range told.length (fun j hj => dT_range (own := own) ht (vis := vis) hj)
  have h5 := sumN_range told.length (fun j hj => byT_range ht vis hj)
  rw [← h2] at h4
  rw [← bytesU_sum ht vis _ (Nat.le_refl _)] at h5
  rw [wrap64_in' (by omega)]
  by_cases hz : (dispU own told vis told.length).length = 0
  · rw [hz, totB] at h3 h4 ⊢
    simp; omega
  · simp; omega

end Go.Proofs.Ytcdinidpclmmeaa
