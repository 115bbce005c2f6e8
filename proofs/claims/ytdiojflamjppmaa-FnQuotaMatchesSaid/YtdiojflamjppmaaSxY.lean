/- Accounts: reserving, debiting and releasing keep an account valid and move what they say; plain Lean. -/
import Derived.Test.YtdiojflamjppmaaSxV
namespace Go.Proofs.Ytdiojflamjppmaa
open Go.RowKit


def sumR : List (Int × Int) → Int
  | [] => 0
  | r :: rs => r.2 + sumR rs
def lkR : List (Int × Int) → Int → Int
  | [], _ => 0
  | r :: rs, id => if r.1 == id then r.2 else lkR rs id
def addI : List (Int × Int) → Int → Int → List (Int × Int)
  | [], id, m => [(id, m)]
  | r :: rs, id, m => if r.1 < id then r :: addI rs id m else if r.1 == id then (r.1, IntKind.i64.wrap (r.2 + m)) :: rs else (id, m) :: r :: rs
def cutI : List (Int × Int) → Int → Int → List (Int × Int)
  | [], _, _ => []
  | r :: rs, id, n => if r.1 == id then (if n < r.2 then (r.1, IntKind.i64.wrap (r.2 - n)) :: rs else rs) else r :: cutI rs id n
theorem addR_eq (id m : Int) : ∀ rs : List (Int × Int), addR rs id m = addI rs id m
  | [] => by simp [addR, lowR, addI]
  | r :: rs => by
    have ih := addR_eq id m rs
    unfold addI
    by_cases h : r.1 < id
    · have hlow : lowR (r :: rs) id = lowR rs id + 1 := by rw [lowR, if_pos h]
      have e1 : nth d0R (r :: rs) (lowR rs id + 1) = nth d0R rs (lowR rs id) := rfl
      have e2 : decide (lowR rs id + 1 < (r :: rs).length) = decide (lowR rs id < rs.length) := by rw [decide_eq_decide]; simp
      rw [if_pos h, ← ih, addR, addR, hlow, e1, e2]
      split
      · rw [List.set_cons_succ]
      · rw [List.take_succ_cons, List.drop_succ_cons]; rfl
    · have hlow : lowR (r :: rs) id = 0 := by rw [lowR, if_neg h]
      have e1 : nth d0R (r :: rs) 0 = r := rfl
      rw [if_neg h, addR, hlow, e1]
      by_cases h2 : (r.1 == id) = true
      · simp [h2]
      · simp only [Bool.not_eq_true] at h2; simp [h2]
theorem held_lk (id : Int) : ∀ (i : Nat) (rs : List (Int × Int)), (if findI (fun r : Int × Int => r.1 == id) i rs < 0 then 0 else (nth d0R rs (findI (fun r : Int × Int => r.1 == id) i rs - i).toNat).2) = lkR rs id
  | _, [] => by simp [findI, lkR]
  | i, r :: rs => by
    unfold lkR findI
    by_cases h : (r.1 == id) = true
    · rw [if_pos h, if_pos h, if_neg (by omega), Int.sub_self]; rfl
    · rw [if_neg h, if_neg h]
      have ih := held_lk id (i + 1) rs
      by_cases hf : findI (fun r : Int × Int => r.1 == id) (i + 1) rs < 0
      · rw [if_pos hf] at ih ⊢; exact ih
      · rw [if_neg hf] at ih ⊢
        have h2 := findI_lt (fun r : Int × Int => r.1 == id) (i + 1) rs (by omega)
        rw [← ih, show (findI (fun r : Int × Int => r.1 == id) (i + 1) rs - i).toNat = (findI (fun r : Int × Int => r.1 == id) (i + 1) rs - ((i + 1 : Nat) : Int)).toNat + 1 by omega]
        rfl
theorem Acc.held_eq (a : Acc) (id : Int) : a.held id = lkR a.res id := by
  have := held_lk id 0 a.res
  rw [← this, Acc.held, Acc.idx]
  simp
theorem cutR_eq (id n : Int) : ∀ (i : Nat) (rs : List (Int × Int)), 0 ≤ findI (fun r : Int × Int => r.1 == id) i rs → cutR rs (findI (fun r : Int × Int => r.1 == id) i rs - i).toNat n = cutI rs id n
  | _, [], h => by simp [findI] at h
  | i, r :: rs, h => by
    unfold findI at h ⊢
    unfold cutI
    by_cases h1 : (r.1 == id) = true
    · rw [if_pos h1, if_pos h1, Int.sub_self]; rfl
    · rw [if_neg h1] at h
      rw [if_neg h1, if_neg h1]
      have ih := cutR_eq id n (i + 1) rs h
      have h2 := findI_lt (fun r : Int × Int => r.1 == id) (i + 1) rs h
      rw [← ih, show (findI (fun r : Int × Int => r.1 == id) (i + 1) rs - i).toNat = (findI (fun r : Int × Int => r.1 == id) (i + 1) rs - ((i + 1 : Nat) : Int)).toNat + 1 by omega]
      unfold cutR cutAt
      have e1 : ∀ k, nth d0R (r :: rs) (k + 1) = nth d0R rs k := fun _ => rfl
      rw [e1]
      split
      · rw [List.set_cons_succ]
      · rw [List.take_succ_cons, List.drop_succ_cons]; rfl
theorem Acc.cut_eq {a : Acc} {id : Int} (n : Int) (h : 0 ≤ a.idx id) : cutR a.res (a.idx id).toNat n = cutI a.res id n := by
  have := cutR_eq id n 0 a.res h
  simpa [Acc.idx] using this
theorem okRes_sum : ∀ {p : Option Int} {rs : List (Int × Int)}, okRes p rs = true → 0 ≤ sumR rs ∧ sumR rs ≤ 100000 * (rs.length : Nat)
  | _, [], _ => by simp [sumR]
  | p, r :: rs, h => by
    simp only [okRes, Bool.and_eq_true, inRange, decide_eq_true_eq] at h
    have ih := okRes_sum h.2
    simp only [sumR, List.length_cons]
    omega
theorem totR_sum : ∀ {p : Option Int} {rs : List (Int × Int)} (t : Int), okRes p rs = true → 0 ≤ t → t + 100000 * (rs.length : Nat) ≤ 4611686018427387904 → totR t rs = t + sumR rs
  | _, [], t, _, _, _ => by simp [totR, sumR]
  | p, r :: rs, t, h, h0, h1 => by
    simp only [okRes, Bool.and_eq_true, inRange, decide_eq_true_eq] at h
    simp only [List.length_cons] at h1
    rw [totR, wrap64_in' (by omega), totR_sum (t + r.2) h.2 (by omega) (by omega), sumR]
    omega
theorem Acc.ok_iff (a : Acc) : a.ok = true ↔ ((0 ≤ a.total ∧ a.total ≤ 100000) ∧ (0 ≤ a.avail ∧ a.avail ≤ a.total) ∧ (0 ≤ a.spent ∧ a.spent ≤ a.total)) ∧ a.res.length ≤ 8 ∧ okRes none a.res = true ∧ a.avail + a.spent + sumR a.res = a.total := by
  constructor
  · intro h
    have h1 := Acc.ok_parts h
    have h2 := Acc.hd_parts h
    refine ⟨h2, h1.2.1, h1.2.2.1, ?_⟩
    have h3 := h1.2.2.2
    have h4 := okRes_sum h1.2.2.1
    rw [Acc.sumOk, totR_sum 0 h1.2.2.1 (by omega) (by omega), wrap64_in' (i := a.avail + a.spent) (by omega), wrap64_in' (by omega)] at h3
    have := beq_iff_eq.1 h3
    omega
  · rintro ⟨⟨h1, h2, h3⟩, h4, h5, h6⟩
    have h7 := okRes_sum h5
    have hs : a.sumOk = true := by
      rw [Acc.sumOk, totR_sum 0 h5 (by omega) (by omega), wrap64_in' (i := a.avail + a.spent) (by omega), wrap64_in' (by omega)]
      exact beq_iff_eq.2 (by omega)
    rw [Acc.ok, Acc.hdOk, hs, h5, decide_eq_true h4]
    simp [inRange, h1, h2, h3]
def belowP (p : Option Int) (id : Int) : Prop := match p with
  | none => True
  | some q => q < id
theorem okRes_cons {p : Option Int} {r : Int × Int} {rs : List (Int × Int)} : okRes p (r :: rs) = true ↔ 0 ≤ r.1 ∧ (1 ≤ r.2 ∧ r.2 ≤ 100000) ∧ belowP p r.1 ∧ okRes (some r.1) rs = true := by
  cases p <;> simp [okRes, inRange, belowP, and_assoc]
theorem okRes_weak {q : Int} : ∀ {rs : List (Int × Int)} {p : Option Int}, okRes (some q) rs = true → (∀ id, q < id → belowP p id) → okRes p rs = true
  | [], _, _, _ => rfl
  | r :: rs, p, h, hp => by
    rw [okRes_cons] at h ⊢
    exact ⟨h.1, h.2.1, hp _ h.2.2.1, h.2.2.2⟩
theorem lk_above : ∀ {rs : List (Int × Int)} {q id : Int}, okRes (some q) rs = true → id ≤ q → lkR rs id = 0
  | [], _, _, _, _ => rfl
  | r :: rs, q, id, h, hq => by
    rw [okRes_cons] at h
    have h1 : q < r.1 := h.2.2.1
    rw [lkR, if_neg (by simp; omega)]
    exact lk_above h.2.2.2 (by omega)
theorem lk_nonneg : ∀ {rs : List (Int × Int)} {p : Option Int} (id : Int), okRes p rs = true → 0 ≤ lkR rs id ∧ lkR rs id ≤ sumR rs
  | [], _, _, _ => by simp [lkR, sumR]
  | r :: rs, p, id, h => by
    rw [okRes_cons] at h
    have ih := lk_nonneg id h.2.2.2
    have hs := okRes_sum h.2.2.2
    unfold lkR sumR
    split <;> omega
theorem add_ok : ∀ {rs : List (Int × Int)} {p : Option Int} {id m : Int}, okRes p rs = true → belowP p id → 0 ≤ id → 1 ≤ m → sumR rs + m ≤ 100000 →
    okRes p (addI rs id m) = true ∧ sumR (addI rs id m) = sumR rs + m ∧ lkR (addI rs id m) id = lkR rs id + m ∧ (addI rs id m).length = rs.length + (if lkR rs id = 0 then 1 else 0)
  | [], p, id, m, _, hp, hi, hm, hs => by
    simp only [sumR] at hs
    refine ⟨?_, by simp [addI, sumR], by simp [addI, lkR], by simp [addI, lkR]⟩
    rw [addI, okRes_cons]
    exact ⟨hi, ⟨hm, by show m ≤ 100000; omega⟩, hp, rfl⟩
  | r :: rs, p, id, m, h, hp, hi, hm, hs => by
    rw [okRes_cons] at h
    obtain ⟨h1, h2, h3, h4⟩ := h
    have hsum := okRes_sum h4
    simp only [sumR] at hs
    unfold addI
    by_cases ha : r.1 < id
    · rw [if_pos ha]
      obtain ⟨i1, i2, i3, i4⟩ := add_ok (p := some r.1) h4 ha hi hm (by omega)
      have hne : (r.1 == id) = false := by simp; omega
      refine ⟨?_, by rw [sumR, i2, sumR]; omega, by simp only [lkR, hne, Bool.false_eq_true, if_false]; exact i3, by simp only [lkR, hne, Bool.false_eq_true, if_false, List.length_cons, i4]; omega⟩
      rw [okRes_cons]
      exact ⟨h1, h2, h3, i1⟩
    · rw [if_neg ha]
      by_cases hb : (r.1 == id) = true
      · rw [if_pos hb]
        have hw : IntKind.i64.wrap (r.2 + m) = r.2 + m := wrap64_in' (by omega)
        rw [hw]
        refine ⟨?_, by simp only [sumR]; omega, by simp [lkR, hb], ?_⟩
        · rw [okRes_cons]
          exact ⟨h1, ⟨by show 1 ≤ r.2 + m; omega, by show r.2 + m ≤ 100000; omega⟩, h3, h4⟩
        · simp only [lkR, hb, if_true, List.length_cons]
          rw [if_neg (by omega)]
      · rw [if_neg hb]
        have hlt : id < r.1 := by have : r.1 ≠ id := by simpa using hb
                                  omega
        have hz : lkR (r :: rs) id = 0 := by
          rw [lkR, if_neg hb]
          exact lk_above h4 (by omega)
        refine ⟨?_, by simp only [sumR]; omega, by rw [lkR]; simp [hz], by simp [hz]⟩
        rw [okRes_cons]
        exact ⟨hi, ⟨hm, by show m ≤ 100000; omega⟩, hp, okRes_cons.2 ⟨h1, h2, hlt, h4⟩⟩
theorem cut_ok : ∀ {rs : List (Int × Int)} {p : Option Int} {id n : Int}, okRes p rs = true → 0 ≤ n → n ≤ lkR rs id →
    okRes p (cutI rs id n) = true ∧ sumR (cutI rs id n) = sumR rs - n ∧ lkR (cutI rs id n) id = lkR rs id - n ∧ (cutI rs id n).length ≤ rs.length
  | [], p, id, n, h, h0, hn => by
    simp only [lkR] at hn
    have : n = 0 := by omega
    subst this
    exact ⟨h, by simp [cutI, sumR], by simp [cutI, lkR], Nat.le_refl _⟩
  | r :: rs, p, id, n, h, h0, hn => by
    rw [okRes_cons] at h
    obtain ⟨h1, h2, h3, h4⟩ := h
    unfold cutI
    by_cases hb : (r.1 == id) = true
    · have hid : r.1 = id := by simpa using hb
      have hl : lkR (r :: rs) id = r.2 := by rw [lkR, if_pos hb]
      rw [hl] at hn ⊢
      rw [if_pos hb]
      by_cases hc : n < r.2
      · rw [if_pos hc, wrap64_in' (by omega)]
        refine ⟨okRes_cons.2 ⟨h1, ⟨by show 1 ≤ r.2 - n; omega, by show r.2 - n ≤ 100000; omega⟩, h3, h4⟩, by simp only [sumR]; omega, by simp [lkR, hb], by simp⟩
      · rw [if_neg hc]
        refine ⟨okRes_weak h4 fun q hq => ?_, by simp only [sumR]; omega, by rw [lk_above h4 (by omega)]; omega, by simp⟩
        cases p with
        | none => trivial
        | some s => exact Int.lt_trans h3 hq
    · have hl : lkR (r :: rs) id = lkR rs id := by rw [lkR, if_neg hb]
      rw [hl] at hn ⊢
      rw [if_neg hb]
      obtain ⟨i1, i2, i3, i4⟩ := cut_ok (p := some r.1) h4 h0 hn
      refine ⟨okRes_cons.2 ⟨h1, h2, h3, i1⟩, by simp only [sumR]; omega, by rw [lkR, if_neg hb]; exact i3, by simp only [List.length_cons]; omega⟩
/-- a debit -/
theorem deb_ok {a : Acc} {id n : Int} (hok : a.ok = true) : (a.deb id n).ok = true ∧ (a.deb id n).total = a.total ∧ (a.deb id n).avail = a.avail ∧
    (a.may id n = true → (a.deb id n).spent = a.spent + n ∧ (a.deb id n).held id = a.held id - n) := by
  by_cases hm : a.may id n = true
  · have h1 := Acc.may_parts hm
    by_cases hn : 0 < n
    · have hi := Acc.idx_of_held (show 0 < a.held id by omega)
      rw [Acc.held_eq] at h1
      obtain ⟨⟨ht, ha, hs⟩, hl, hr, hsum⟩ := (Acc.ok_iff a).1 hok
      obtain ⟨i1, i2, i3, i4⟩ := cut_ok (id := id) (n := n) hr (by omega) h1.2.2
      have hk := lk_nonneg id hr
      rw [deb_pos hm hn, Acc.cut_eq n hi, wrap64_in' (by omega)]
      refine ⟨(Acc.ok_iff _).2 ⟨⟨ht, ha, ?_⟩, ?_, i1, ?_⟩, rfl, rfl, fun _ => ⟨rfl, ?_⟩⟩
      · show 0 ≤ a.spent + n ∧ a.spent + n ≤ a.total; omega
      · show (cutI a.res id n).length ≤ 8; omega
      · show a.avail + (a.spent + n) + sumR (cutI a.res id n) = a.total; omega
      · rw [Acc.held_eq, Acc.held_eq]; exact i3
    · have : n = 0 := by omega
      subst this
      rw [deb_zero hn]
      exact ⟨hok, rfl, rfl, fun _ => by simp⟩
  · rw [deb_no (by simpa using hm)]
    exact ⟨hok, rfl, rfl, fun h => absurd h hm⟩
/-- a reservation -/
theorem rsv_ok {a : Acc} {id n : Int} (hok : a.ok = true) : (a.rsv id n).ok = true ∧ (a.rsv id n).total = a.total ∧ (a.rsv id n).spent = a.spent ∧ (a.rsv id n).avail = a.avail - a.got id n ∧ (a.rsv id n).held id = a.held id + a.got id n ∧ 0 ≤ a.got id n ∧ a.got id n ≤ a.avail := by
  have h2 := (Acc.hd_parts hok)
  by_cases hc : a.can id n = true
  · have hc' := hc
    simp only [Acc.can, Bool.and_eq_true, inRange, decide_eq_true_eq, Bool.not_eq_true', beq_eq_false_iff_ne, decide_eq_false_iff_not, Bool.and_eq_false_iff] at hc'
    obtain ⟨⟨⟨⟨_, hid⟩, hn⟩, hav⟩, hsp⟩ := hc'
    obtain ⟨⟨ht, ha, hs⟩, hl, hr, hsum⟩ := (Acc.ok_iff a).1 hok
    have hmin : 1 ≤ imin n a.avail ∧ imin n a.avail ≤ a.avail := by unfold imin; split <;> omega
    obtain ⟨i1, i2, i3, i4⟩ := add_ok (id := id) (m := imin n a.avail) hr trivial (by omega) hmin.1 (by omega)
    have hk := lk_nonneg id hr
    have hlen : (addI a.res id (imin n a.avail)).length ≤ 8 := by
      rw [i4]
      split
      · rename_i hz
        have hidx : a.idx id < 0 := by
          have h9 := Acc.held_zero hok id
          rw [Acc.held_eq, hz] at h9
          simpa using h9.symm
        rcases hsp with h | h
        · omega
        · exact absurd hidx h
      · omega
    have e1 : a.rsv id n = { a with avail := IntKind.i64.wrap (a.avail - imin n a.avail), res := addR a.res id (imin n a.avail) } := by rw [Acc.rsv, hc]; rfl
    have e2 : a.got id n = imin n a.avail := by rw [Acc.got, hc]; rfl
    rw [e1, e2, addR_eq, wrap64_in' (by omega)]
    refine ⟨(Acc.ok_iff _).2 ⟨⟨ht, ?_, hs⟩, hlen, i1, ?_⟩, rfl, rfl, rfl, ?_, by omega, hmin.2⟩
    · show 0 ≤ a.avail - imin n a.avail ∧ a.avail - imin n a.avail ≤ a.total; omega
    · show a.avail - imin n a.avail + a.spent + sumR (addI a.res id (imin n a.avail)) = a.total; omega
    · rw [Acc.held_eq, Acc.held_eq]; exact i3
  · have e1 : a.rsv id n = a := by rw [Acc.rsv, if_neg hc]
    have e2 : a.got id n = 0 := by rw [Acc.got, if_neg hc]
    rw [e1, e2]
    exact ⟨hok, rfl, rfl, by omega, by omega, by omega, by omega⟩
/-- a release -/
theorem rel_ok {a : Acc} {id : Int} (hok : a.ok = true) : (a.rel id).ok = true ∧ (a.rel id).total = a.total ∧ (a.rel id).spent = a.spent ∧ (a.rel id).avail = a.avail + a.held id ∧ (a.rel id).held id = 0 := by
  by_cases hi : 0 ≤ a.idx id
  · obtain ⟨⟨ht, ha, hs⟩, hl, hr, hsum⟩ := (Acc.ok_iff a).1 hok
    have hk := lk_nonneg id hr
    obtain ⟨i1, i2, i3, i4⟩ := cut_ok (id := id) (n := lkR a.res id) hr (by omega) (Int.le_refl _)
    have hh := Acc.held_eq a id
    have hcut : cutAt a.res (a.idx id).toNat = cutI a.res id (lkR a.res id) := by
      rw [← Acc.cut_eq _ hi, cutR, if_neg (by rw [← hh, Acc.held_of hi]; omega)]
    have e1 : a.rel id = { a with avail := IntKind.i64.wrap (a.avail + (nth d0R a.res (a.idx id).toNat).2), res := cutAt a.res (a.idx id).toNat } := if_pos (by rw [hok, decide_eq_true hi]; rfl)
    rw [e1, ← Acc.held_of hi, hh, hcut, wrap64_in' (by omega)]
    refine ⟨(Acc.ok_iff _).2 ⟨⟨ht, ?_, hs⟩, ?_, i1, ?_⟩, rfl, rfl, rfl, ?_⟩
    · show 0 ≤ a.avail + lkR a.res id ∧ a.avail + lkR a.res id ≤ a.total; omega
    · show (cutI a.res id (lkR a.res id)).length ≤ 8; omega
    · show a.avail + lkR a.res id + a.spent + sumR (cutI a.res id (lkR a.res id)) = a.total; omega
    · rw [Acc.held_eq]; show lkR (cutI a.res id (lkR a.res id)) id = 0; omega
  · have e1 : a.rel id = a := if_neg (by rw [decide_eq_false hi, Bool.and_false]; decide)
    rw [e1, Acc.held_lt (by omega)]
    exact ⟨hok, rfl, rfl, by omega, rfl⟩

end Go.Proofs.Ytdiojflamjppmaa
