/- Arguments opened, the listed table read. -/
import Derived.Test.YtlejciainnlfeaaDoorSxU
import Derived.Test.YtlejciainnlfeaaDoorSxR
import Derived.Lib.SmallJoins
import Derived.Lib.LaidTab
import Derived.ProofKit
import Derived.LaidMore
import Derived.OpenShut
import Derived.Stop.Joined
namespace Go.Proofs.YtlejciainnlfeaaDoor
open Go.RowKit Go.ChangeShapes Go.WideShapes Go.ChangeAt Go.Deep

theorem own_ : ownKnob Tryd.prog.godebug = none := by kernel_rfl
section
variable {H : Type} {enc : TypeId × Value → H} {P : Program} {w : World} {base : Nat} {spare : Nat → Bool} {held : Bool}
theorem rng_of {n : Int} (h : (Lit.int .i64 n).wf = true) : rng n := by
  simp only [Lit.wf, Bool.and_eq_true, decide_eq_true_eq] at h
  have e1 : IntKind.i64.min = -9223372036854775808 := by decide
  have e2 : IntKind.i64.max = 9223372036854775807 := by decide
  rw [e1, e2] at h
  exact h
theorem open_ints {t e : TypeId} {fuel : Nat} {v : Value} {x : DataW H × List MemPlace} (ht : P.underlying t = some (.slice e)) (he : P.underlying e = some (.int .i64)) (hc1 : P.cellsOf e = 1) (h : DataW.trod enc P w base spare held fuel t [v] = some x) :
    ∃ (A : Option Addr) (cap b o : Nat) (xs : List Int), v = .slice A xs.length cap ∧ xs.length ≤ cap ∧ cap ≤ 9223372036854775807 ∧ Sl w A b o (flat encI xs) ∧ ∀ x ∈ xs, rng x := by
  rcases open_slice ht h with ⟨h0, _⟩ | ⟨a, len, cap, m, n, Dd, Pl, h0, hbb, hlc, hcm, hmm, hx, hi⟩
  · injection h0 with h0 _
    subst h0
    exact ⟨none, 0, 0, 0, [], rfl, Nat.le_refl _, by omega, Sl.nil, fun x hx => absurd hx (by simp)⟩
  · injection h0 with h0 _
    subst h0
    have hlm : len ≤ m := by rw [hmm]; split <;> omega
    have key : ∀ i, i < len → ∃ k : Int, rng k ∧ w.cell? (a.add i) = some (.int .i64 k) := by
      intro i hil
      obtain ⟨cs', hc, ht'⟩ := hi i (by omega)
      obtain ⟨k, hk, _, hw⟩ := DataW.trod_int he ht'
      obtain ⟨_, hcl, hat⟩ := World.cells?_some hc
      rw [hc1, Nat.mul_one] at hat
      refine ⟨k, rng_of hw, ?_⟩
      have h1 := hat 0 (by omega)
      rw [hk] at h1
      simpa [Addr.add] using h1
    obtain ⟨f, hfn⟩ := choose_lt key
    refine ⟨some a, cap, a.block, a.off, (List.range len).map f, by simp, by simpa using hlc, by simp only [maxLen] at hcm; omega, ⟨fun hp => ?_, fun j u hu => ?_⟩, fun x hx => ?_⟩
    · have h0 : 0 < len := by rw [flat_len encI_len] at hp; simpa using hp
      have h1 := (hfn 0 h0).2
      have e0 : a.add 0 = a := by simp [Addr.add]
      rw [e0] at h1
      exact congrArg some (addr_of h1)
    · have hj : j < len := by
        have h1 := (List.getElem?_eq_some_iff.1 hu).1
        rw [flat_len encI_len] at h1
        simpa using h1
      have ha : a = ⟨a.block, a.off, none⟩ := by
        have h1 := (hfn 0 (by omega)).2
        have e0 : a.add 0 = a := by simp [Addr.add]
        rw [e0] at h1
        exact addr_of h1
      have h2 := flat_get (rs := (List.range len).map f) encI_len d0I (i := j) (f := 0) (by simpa using hj) (by decide)
      rw [Nat.mul_one, Nat.add_zero, hu, nth_eq (by simpa using hj)] at h2
      have h3 : u = .int .i64 (f j) := by simpa [recV, encI] using h2
      have h4 := (hfn j hj).2
      rw [ha, Addr.add_lit] at h4
      rw [h3]
      exact h4
    · obtain ⟨i, hi, rfl⟩ := List.mem_map.1 hx
      exact (hfn i (by simpa using hi)).1
end
abbrev laidL : List (String × DataW Unit) := Rows.fnExactFormatSubscriptionRow.laid
theorem tab_of_laid {W : World} (h : laidMetH Tryd.prog laidL W) : Tab W := by
  rw [MakeChecks.laidMetH_plain _ _ _ (by kernel_rfl)] at h
  obtain ⟨ps, ⟨g0, t0, cs0, f0, p0, q0, hg0, ht0, hv0, hd0, ⟨g1, t1, cs1, f1, p1, q1, hg1, ht1, hv1, hd1, ⟨g2, t2, cs2, f2, p2, q2, hg2, ht2, hv2, hd2, _, _⟩, _⟩, _⟩, _⟩ := h
  obtain rfl := Option.some.inj (tabG.symm.trans hg2)
  obtain rfl := Option.some.inj ((show (Tryd.prog.globals[1]?).map (·.type) = some 61 by kernel_rfl).symm.trans ht2)
  have hd3 : DataW.trod _ Tryd.prog W 0 _ false f2 61 _ = some (Lib.tabData .u64 Lib.pow10Tab, p2) := hd2
  have := Lib.cells_of_tab Tryd.underlying61 Tryd.underlying54 (by kernel_rfl) (by kernel_rfl) hd3
  show W.var? Tryd.prog "internal/strconv.uint64pow10" = _
  rw [hv2, ← this]

end Go.Proofs.YtlejciainnlfeaaDoor
