/- Quotas and accounts: what the laws on draws ask, in plain Lean. -/
import Derived.Test.YtdiojflamjppmaaSxZ
namespace Go.Proofs.Ytdiojflamjppmaa
open Go.RowKit


theorem held_range {a : Acc} (hok : a.ok = true) (id : Int) : 0 ≤ a.held id ∧ a.held id ≤ 100000 ∧ a.held id + a.avail ≤ a.total := by
  obtain ⟨⟨ht, ha, hs⟩, hl, hr, hsum⟩ := (Acc.ok_iff a).1 hok
  have hk := lk_nonneg id hr
  rw [Acc.held_eq]
  omega
theorem quota_use_law {q : Quota} {m : Int} (hq : q.ok = true) (h0 : 0 ≤ m) (h1 : m ≤ IntKind.i64.wrap (q.granted - q.used)) :
    (((((q.may m && (q.use m).ok) && ((q.use m).rem == IntKind.i64.wrap (IntKind.i64.wrap (q.granted - q.used) - m))) && ((q.use m).used == IntKind.i64.wrap (q.used + m))) && !(q.use m).may (IntKind.i64.wrap ((q.use m).rem + 1)))) = true := by
  have h2 := Quota.ok_parts hq
  rw [wrap64_in' (by omega)] at h1
  have hw : IntKind.i64.wrap (q.granted - q.used) = q.granted - q.used := wrap64_in' (by omega)
  have hmay : q.may m = true := by rw [Quota.may, hq, hw]; simp [inRange]; omega
  have huse : q.use m = ⟨q.sid, q.granted, q.used + m⟩ := by rw [Quota.use, if_pos hmay, wrap64_in' (by omega)]
  have hok : (⟨q.sid, q.granted, q.used + m⟩ : Quota).ok = true := by simp [Quota.ok, inRange]; omega
  have hrem : (⟨q.sid, q.granted, q.used + m⟩ : Quota).rem = q.granted - q.used - m := by rw [Quota.rem, if_pos hok]; simp only; rw [wrap64_in' (by omega)]; omega
  rw [huse, hmay, hok, hrem, hw, wrap64_in' (i := q.granted - q.used - m) (by omega), wrap64_in' (i := q.used + m) (by omega), wrap64_in' (i := q.granted - q.used - m + 1) (by omega)]
  have hno : (⟨q.sid, q.granted, q.used + m⟩ : Quota).may (q.granted - q.used - m + 1) = false := by
    rw [Quota.may, hok]
    simp only
    rw [wrap64_in' (by omega)]
    simp [inRange]; omega
  rw [hno]
  simp
theorem quota_use_no {q : Quota} {m : Int} (h : ((!q.ok || decide (m < 0)) || decide (IntKind.i64.wrap (q.granted - q.used) < m)) = true) : q.may m = false ∧ q.use m = q := by
  have h1 : q.may m = false := by
    rw [Quota.may, inRange]
    revert h
    cases q.ok <;> simp <;> omega
  exact ⟨h1, by rw [Quota.use, h1]; rfl⟩
def encA (a : Acc) : List (Int × Int) := a.res
theorem encR_eq (r s : Int × Int) : (encR r == encR s) = eqR r s := by
  rw [Bool.eq_iff_iff]; simp [encR, eqR]
/-- the limits of a reservation -/
theorem limits_no {a : Acc} {id n : Int} (h : (((((!a.ok || decide (id < 0)) || decide (n < 1)) || decide (100000 < n)) || (a.avail == 0)) || ((a.held id == 0) && decide ((8 : Int) ≤ (a.res.length : Nat)))) = true) : a.got id n = 0 ∧ a.rsv id n = a := by
  have hc : a.can id n = false := by
    by_cases hok : a.ok = true
    · rw [Acc.held_zero hok] at h
      rw [Acc.can, hok, inRange]
      rw [hok] at h
      revert h
      cases (a.avail == 0) <;> cases decide (a.idx id < 0) <;> simp <;> omega
    · rw [Acc.can]; simp [hok]
  exact ⟨by rw [Acc.got, hc]; rfl, by rw [Acc.rsv, hc]; rfl⟩
theorem limits_can {a : Acc} {id n : Int} (h : (((((!a.ok || decide (id < 0)) || decide (n < 1)) || decide (100000 < n)) || (a.avail == 0)) || ((a.held id == 0) && decide ((8 : Int) ≤ (a.res.length : Nat)))) = false) : a.ok = true ∧ a.can id n = true := by
  have hok : a.ok = true := by revert h; cases a.ok <;> simp
  refine ⟨hok, ?_⟩
  rw [Acc.held_zero hok] at h
  rw [Acc.can, hok, inRange]
  rw [hok] at h
  revert h
  cases (a.avail == 0) <;> cases decide (a.idx id < 0) <;> simp <;> omega
theorem limits_law {a : Acc} {id n : Int} (hok : a.ok = true) (hc : a.can id n = true) :
    (((((((a.got id n == imin n a.avail) && (a.rsv id n).ok) && !(a.rsv id n).may id (IntKind.i64.wrap ((a.rsv id n).held id + 1))) && (((a.rsv id n).deb id (IntKind.i64.wrap ((a.rsv id n).held id + 1))).eqb (a.rsv id n))) && (a.rsv id n).may id (a.got id n)) && (((a.rsv id n).deb id (a.got id n)).spent == IntKind.i64.wrap (a.spent + a.got id n))) && (((a.rsv id n).deb id (a.got id n)).held id == a.held id)) = true := by
  obtain ⟨r1, r2, r3, r4, r5, r6, r7⟩ := rsv_ok (id := id) (n := n) hok
  have hg : a.got id n = imin n a.avail := by rw [Acc.got, if_pos hc]
  have hh := held_range r1 id
  have hh0 := held_range hok id
  have hs := Acc.hd_parts hok
  have hno : (a.rsv id n).may id (IntKind.i64.wrap ((a.rsv id n).held id + 1)) = false := by
    rw [wrap64_in' (by omega), Acc.may, r1]; simp [inRange]; omega
  have hyes : (a.rsv id n).may id (a.got id n) = true := by
    rw [Acc.may, r1]; simp [inRange]; omega
  obtain ⟨d1, d2, d3, d4⟩ := deb_ok (id := id) (n := a.got id n) r1
  have d5 := d4 hyes
  rw [hno, hyes, deb_no hno, Acc.eqb_refl, r1, d5.1, d5.2, r3, r5, wrap64_in' (i := a.spent + a.got id n) (by omega)]
  simp [hg]
theorem quota_match_law {a : Acc} {q : Quota} {n : Int} (hok : a.ok = true) (h1 : 0 ≤ q.sid) (h2 : q.granted = a.held q.sid) (h3 : 0 ≤ q.used) (h4 : q.used ≤ q.granted) :
    (reqA a q n).ok = true ∧ (reqQ a q n).ok = true ∧ (reqA a q n).held (reqQ a q n).sid = (reqQ a q n).granted ∧ (reqQ a q n).used = q.used ∧ IntKind.i64.wrap ((reqQ a q n).granted - q.granted) = IntKind.i64.wrap (a.avail - (reqA a q n).avail) ∧ q.granted ≤ (reqQ a q n).granted ∧
    (repA (reqA a q n) (reqQ a q n)).ok = true ∧ (repQ (reqA a q n) (reqQ a q n)).ok = true ∧ (repA (reqA a q n) (reqQ a q n)).held (repQ (reqA a q n) (reqQ a q n)).sid = (repQ (reqA a q n) (reqQ a q n)).granted ∧ (repQ (reqA a q n) (reqQ a q n)).used = 0 ∧
    (repQ (reqA a q n) (reqQ a q n)).granted = IntKind.i64.wrap ((reqQ a q n).granted - (reqQ a q n).used) ∧ (repA (reqA a q n) (reqQ a q n)).spent = IntKind.i64.wrap (a.spent + q.used) ∧
    (cloA (reqA a q n) (reqQ a q n)).ok = true ∧ (cloA (reqA a q n) (reqQ a q n)).held q.sid = 0 ∧ (cloA (reqA a q n) (reqQ a q n)).spent = (repA (reqA a q n) (reqQ a q n)).spent ∧
    (cloA (reqA a q n) (reqQ a q n)).avail = IntKind.i64.wrap ((repA (reqA a q n) (reqQ a q n)).avail + (repQ (reqA a q n) (reqQ a q n)).granted) := by
  have hh := held_range hok q.sid
  have hs := Acc.hd_parts hok
  have hq : q.ok = true := by simp [Quota.ok, inRange]; omega
  have hm : a.mat q = true := by rw [Acc.mat, hok, hq, ← h2]; simp
  obtain ⟨r1, r2, r3, r4, r5, r6, r7⟩ := rsv_ok (id := q.sid) (n := n) hok
  have hh2 := held_range r1 q.sid
  have hs2 := Acc.hd_parts r1
  have hP : addQ a q n = ⟨q.sid, q.granted + a.got q.sid n, q.used⟩ := by rw [addQ, wrap64_in' (by omega)]
  have hPok : (addQ a q n).ok = true := by rw [hP]; simp [Quota.ok, inRange]; omega
  have hB : reqA a q n = a.rsv q.sid n := by rw [reqA, hm, hPok]; rfl
  have hPP : reqQ a q n = ⟨q.sid, q.granted + a.got q.sid n, q.used⟩ := by rw [reqQ, hm, hPok, ← hP]; rfl
  rw [hB, hPP]
  have hPok2 : (⟨q.sid, q.granted + a.got q.sid n, q.used⟩ : Quota).ok = true := by rw [← hP]; exact hPok
  have hm2 : (a.rsv q.sid n).mat ⟨q.sid, q.granted + a.got q.sid n, q.used⟩ = true := by rw [Acc.mat, r1, hPok2]; simp; omega
  have hC : repA (a.rsv q.sid n) ⟨q.sid, q.granted + a.got q.sid n, q.used⟩ = (a.rsv q.sid n).deb q.sid q.used := by rw [repA, hm2]; rfl
  have hR : repQ (a.rsv q.sid n) ⟨q.sid, q.granted + a.got q.sid n, q.used⟩ = ⟨q.sid, q.granted + a.got q.sid n - q.used, 0⟩ := by
    rw [repQ, hm2]; simp only [if_true]; rw [wrap64_in' (by omega)]
  have hD : cloA (a.rsv q.sid n) ⟨q.sid, q.granted + a.got q.sid n, q.used⟩ = ((a.rsv q.sid n).deb q.sid q.used).rel q.sid := by rw [cloA, hm2, hC]; rfl
  rw [hD, hC, hR]
  obtain ⟨d1, d2, d3, d4⟩ := deb_ok (id := q.sid) (n := q.used) r1
  have d5 := d4 (mat_may (q := ⟨q.sid, q.granted + a.got q.sid n, q.used⟩) hm2)
  obtain ⟨e1, e2, e3, e4, e5⟩ := rel_ok (id := q.sid) d1
  refine ⟨r1, hPok2, by show (a.rsv q.sid n).held q.sid = q.granted + a.got q.sid n; omega, rfl, ?_, by show q.granted ≤ q.granted + a.got q.sid n; omega, d1, ?_, ?_, rfl, ?_, ?_, e1, e5, e3, ?_⟩
  · show IntKind.i64.wrap (q.granted + a.got q.sid n - q.granted) = _
    rw [r4]; congr 1; omega
  · simp [Quota.ok, inRange]; omega
  · show ((a.rsv q.sid n).deb q.sid q.used).held q.sid = q.granted + a.got q.sid n - q.used; omega
  · show q.granted + a.got q.sid n - q.used = IntKind.i64.wrap (q.granted + a.got q.sid n - q.used); rw [wrap64_in' (by omega)]
  · rw [wrap64_in' (by omega)]; omega
  · show _ = IntKind.i64.wrap (((a.rsv q.sid n).deb q.sid q.used).avail + (q.granted + a.got q.sid n - q.used))
    rw [wrap64_in' (by omega)]; omega

end Go.Proofs.Ytdiojflamjppmaa
