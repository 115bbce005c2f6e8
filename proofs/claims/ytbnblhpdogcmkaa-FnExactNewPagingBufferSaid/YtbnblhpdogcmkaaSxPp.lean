/- Token buckets: what the law asks, in plain Lean. -/
import Derived.Test.YtbnblhpdogcmkaaSxO
namespace Go.Proofs.Ytbnblhpdogcmkaa
open Go.RowKit


theorem Bk.ok_iff (b : Bk) : b.ok = true ↔ (1 ≤ b.rate ∧ b.rate ≤ 1000) ∧ (1 ≤ b.burst ∧ b.burst ≤ 1000) ∧ (0 ≤ b.tok ∧ b.tok ≤ b.burst) ∧ (0 ≤ b.upd ∧ b.upd ≤ 1000000000000) := by
  simp [Bk.ok, inRange, and_assoc]
theorem Bk.no_iff {b : Bk} (hok : b.ok = true) (t : Int) : b.no t = true ↔ t ≤ b.upd ∨ 1000000000000 < t := by simp [Bk.no, hok]
theorem mul_le_of {r d : Int} (hr : 1 ≤ r ∧ r ≤ 1000) (hd : 0 ≤ d ∧ d ≤ 1000000000000) : 0 ≤ r * d ∧ r * d ≤ 1000000000000000 :=
  ⟨Int.mul_nonneg (by omega) hd.1, by have := Int.mul_le_mul hr.2 hd.2 hd.1 (by omega : (0 : Int) ≤ 1000); omega⟩
theorem refill_val {b : Bk} (hok : b.ok = true) {t : Int} (h1 : b.upd < t) (h2 : t ≤ 1000000000000) : b.refill t = ⟨b.rate, b.burst, imin b.burst (b.tok + b.rate * (t - b.upd)), t⟩ := by
  obtain ⟨hr, hb, ht, hu⟩ := (Bk.ok_iff b).1 hok
  have hn : b.no t = false := by
    have := Bk.no_iff hok t
    revert this; cases b.no t <;> simp; omega
  have hm := mul_le_of hr (d := t - b.upd) (by omega)
  rw [Bk.refill, hn, wrap64_in' (i := t - b.upd) (by omega), wrap64_in' (i := b.rate * (t - b.upd)) (by omega), wrap64_in' (by omega)]
  rfl
theorem refill_same {b : Bk} (hok : b.ok = true) {t : Int} (h : t ≤ b.upd ∨ 1000000000000 < t) : b.refill t = b := by
  rw [Bk.refill, if_pos ((Bk.no_iff hok t).2 h)]
theorem refill_tok {b : Bk} (hok : b.ok = true) {t : Int} (h2 : t ≤ 1000000000000) : (b.refill t).tok = imin b.burst (b.tok + b.rate * imax (t - b.upd) 0) := by
  obtain ⟨hr, hb, ht, hu⟩ := (Bk.ok_iff b).1 hok
  by_cases h : b.upd < t
  · rw [refill_val hok h h2]
    have e : imax (t - b.upd) 0 = t - b.upd := by unfold imax; split <;> omega
    rw [e]
  · rw [refill_same hok (.inl (by omega))]
    have e : imax (t - b.upd) 0 = 0 := by unfold imax; split <;> omega
    rw [e, Int.mul_zero]
    unfold imin; split <;> omega
theorem refill_hd {b : Bk} (t : Int) : (b.refill t).rate = b.rate ∧ (b.refill t).burst = b.burst := by
  unfold Bk.refill; split <;> exact ⟨rfl, rfl⟩
theorem refill_ok {b : Bk} (hok : b.ok = true) (t : Int) : (b.refill t).ok = true := by
  obtain ⟨hr, hb, ht, hu⟩ := (Bk.ok_iff b).1 hok
  by_cases h : b.upd < t ∧ t ≤ 1000000000000
  · have hm := mul_le_of hr (d := t - b.upd) (by omega)
    rw [refill_val hok h.1 h.2, Bk.ok_iff]
    refine ⟨hr, hb, ?_, (by show 0 ≤ t ∧ t ≤ _; omega)⟩
    show 0 ≤ imin _ _ ∧ imin _ _ ≤ b.burst
    unfold imin; split <;> omega
  · rw [refill_same hok (by omega)]; exact hok
theorem ticks_bad {b : Bk} {n t : Int} (h : (!b.ok || decide (b.burst < n)) = true) : (b.refill t).ticks n = -1 := by
  by_cases hok : b.ok = true
  · have h1 : b.burst < n := by rw [hok] at h; simpa using h
    obtain ⟨_, _, hx, _⟩ := (Bk.ok_iff _).1 (refill_ok hok t)
    rw [(refill_hd t).2] at hx
    rw [Bk.ticks, if_pos (refill_ok hok t), if_neg (by omega), (refill_hd t).2, if_pos h1]
  · have e : b.refill t = b := by rw [Bk.refill, if_pos (by simp [Bk.no, hok])]
    rw [e, Bk.ticks, if_neg hok]
theorem ticks_good {b : Bk} {n : Int} (h : (!b.ok || decide (b.burst < n)) = false) : b.ok = true ∧ n ≤ b.burst := by
  revert h; cases b.ok <;> simp
theorem ticks_val {b : Bk} {n : Int} (hok : b.ok = true) (hn : n ≤ b.burst) : b.ticks n = if n ≤ b.tok then 0 else (n - b.tok + b.rate - 1) / b.rate := by
  obtain ⟨hr, hb, ht, hu⟩ := (Bk.ok_iff b).1 hok
  rw [Bk.ticks, if_pos hok]
  by_cases h : n ≤ b.tok
  · rw [if_pos h, if_pos h]
  · have h1 := Int.ediv_le_self b.rate (show (0 : Int) ≤ n - b.tok + b.rate - 1 by omega)
    have h2 := Int.ediv_nonneg (show (0 : Int) ≤ n - b.tok + b.rate - 1 by omega) (show 0 ≤ b.rate by omega)
    rw [if_neg h, if_neg h, if_neg (by omega), wrap64_in' (i := n - b.tok) (by omega), ceil, if_pos (by simp [inRange]; omega), wrap64_in' (i := n - b.tok + b.rate) (by omega), wrap64_in' (i := n - b.tok + b.rate - 1) (by omega),
      Int.tdiv_eq_ediv_of_nonneg (by omega), wrap64_in' (by omega)]
theorem ticks_range {b : Bk} {n : Int} (hok : b.ok = true) (hn : n ≤ b.burst) : 0 ≤ b.ticks n ∧ b.ticks n ≤ 2000 := by
  obtain ⟨hr, hb, ht, hu⟩ := (Bk.ok_iff b).1 hok
  rw [ticks_val hok hn]
  split
  · omega
  · have h1 := Int.ediv_le_self b.rate (show (0 : Int) ≤ n - b.tok + b.rate - 1 by omega)
    have h2 := Int.ediv_nonneg (show (0 : Int) ≤ n - b.tok + b.rate - 1 by omega) (show 0 ≤ b.rate by omega)
    omega
theorem ticks_late {b : Bk} {n t : Int} (hok : b.ok = true) (hn : n ≤ b.burst) : 0 ≤ (b.refill t).ticks n := (ticks_range (refill_ok hok t) (by rw [(refill_hd t).2]; exact hn)).1
theorem ceil_up {a r : Int} (ha : 0 < a) (hr : 1 ≤ r) : a ≤ r * ((a + r - 1) / r) ∧ r * ((a + r - 1) / r - 1) < a ∧ 0 < (a + r - 1) / r := by
  have h1 := Int.emod_add_mul_ediv (a + r - 1) r
  have h2 := Int.emod_nonneg (a + r - 1) (show r ≠ 0 by omega)
  have h3 := Int.emod_lt_of_pos (a + r - 1) (show 0 < r by omega)
  have h5 := Int.ediv_nonneg (show (0 : Int) ≤ a + r - 1 by omega) (show 0 ≤ r by omega)
  have h4 : (a + r - 1) / r ≠ 0 := fun h0 => by rw [h0, Int.mul_zero] at h1; omega
  rw [Int.mul_sub, Int.mul_one]
  omega
theorem ticks_law {b : Bk} {n t : Int} (hok : b.ok = true) (hn : n ≤ b.burst) (h1 : b.upd ≤ t) (h2 : t ≤ 1000000) :
    (decide (0 ≤ (b.refill t).ticks n) && decide (n ≤ (b.refill (IntKind.i64.wrap (t + (b.refill t).ticks n))).tok) && ((b.refill t).ticks n == 0 || decide ((b.refill (IntKind.i64.wrap (IntKind.i64.wrap (t + (b.refill t).ticks n) - 1))).tok < n)) &&
      inRange n 0 (b.refill (IntKind.i64.wrap (t + (b.refill t).ticks n))).tok == decide (0 ≤ n)) = true := by
  obtain ⟨hr, hb, ht, hu⟩ := (Bk.ok_iff b).1 hok
  have hx := refill_ok hok t
  have hxb := refill_hd (b := b) t
  have hkr := ticks_range hx (n := n) (by rw [hxb.2]; exact hn)
  have hkv := ticks_val hx (n := n) (by rw [hxb.2]; exact hn)
  have hxt := refill_tok hok (t := t) (by omega)
  rw [hxb.1] at hkv
  generalize hk : (b.refill t).ticks n = k at *
  have e1 : imax (t - b.upd) 0 = t - b.upd := by unfold imax; split <;> omega
  have e2 : imax (t + k - b.upd) 0 = t + k - b.upd := by unfold imax; split <;> omega
  rw [wrap64_in' (i := t + k) (by omega), wrap64_in' (i := t + k - 1) (by omega), refill_tok hok (t := t + k) (by omega), refill_tok hok (t := t + k - 1) (by omega), e2]
  rw [e1] at hxt
  rw [hxt] at hkv
  have hm1 := mul_le_of hr (d := t - b.upd) (by omega)
  have hs : b.rate * (t + k - b.upd) = b.rate * (t - b.upd) + b.rate * k := by rw [← Int.mul_add]; congr 1; omega
  have hmk := mul_le_of hr (d := k) (by omega)
  have key : n ≤ imin b.burst (b.tok + b.rate * (t + k - b.upd)) ∧ (k ≠ 0 → imin b.burst (b.tok + b.rate * imax (t + k - 1 - b.upd) 0) < n) := by
    by_cases hle : n ≤ imin b.burst (b.tok + b.rate * (t - b.upd))
    · rw [if_pos hle] at hkv
      subst hkv
      refine ⟨?_, fun h => absurd rfl h⟩
      rw [hs, Int.mul_zero, Int.add_zero]
      exact hle
    · rw [if_neg hle] at hkv
      have hlt : b.tok + b.rate * (t - b.upd) < n := by
        unfold imin at hle; split at hle <;> omega
      have e3 : imin b.burst (b.tok + b.rate * (t - b.upd)) = b.tok + b.rate * (t - b.upd) := by
        unfold imin; split <;> omega
      rw [e3] at hkv
      obtain ⟨c1, c2, c3⟩ := ceil_up (a := n - (b.tok + b.rate * (t - b.upd))) (r := b.rate) (by omega) hr.1
      rw [← hkv] at c1 c2 c3
      have e4 : imax (t + k - 1 - b.upd) 0 = t + k - 1 - b.upd := by unfold imax; split <;> omega
      have hs2 : b.rate * (t + k - 1 - b.upd) = b.rate * (t - b.upd) + b.rate * (k - 1) := by rw [← Int.mul_add]; congr 1; omega
      rw [e4, hs, hs2]
      refine ⟨?_, fun _ => ?_⟩
      · unfold imin; split <;> omega
      · unfold imin; split <;> omega
  obtain ⟨k1, k2⟩ := key
  have k3 : (k == 0 || decide (imin b.burst (b.tok + b.rate * imax (t + k - 1 - b.upd) 0) < n)) = true := by
    by_cases h0 : k = 0
    · simp [h0]
    · simp [k2 h0]
  rw [k3]
  generalize imin b.burst (b.tok + b.rate * (t + k - b.upd)) = u at *
  have k4 : inRange n 0 u = decide (0 ≤ n) := by simp [inRange, k1]
  rw [k4]
  simp [hkr.1, k1]

end Go.Proofs.Ytbnblhpdogcmkaa
