/- What the row of this law needs. -/
import Derived.Test.YtfinobpodmdkgaaSxP7
import Derived.Test.YtfinobpodmdkgaaSxR
import Derived.Lib.SmallJoins
namespace Go.Proofs.Ytfinobpodmdkgaa
open Go.RowKit Go.ChangeShapes Go.WideShapes Go.ChangeAt Go.Deep

theorem own_ : ownKnob Try.prog.godebug = none := by kernel_rfl

theorem open_code {H : Type} {enc : TypeId × Value → H} {P : Program} {w : World} {base : Nat} {spare : Nat → Bool} {held : Bool} {r : Reach} {b0 : Nat} {t e : TypeId} {v : Value} {d : DataW H} {p : List MemPlace} (ht : P.underlying t = some (.slice e)) (he : P.underlying e = some (.int .u8)) (hc1 : P.cellsOf e = 1)
    (hv : Value.okWide P w r b0 t v) (h : DataW.Trod enc P w base spare held t v d p) : ∃ (A : Option Addr) (len cap b o : Nat), v = .slice A len cap ∧ Cod w A len b o := by
  obtain ⟨_, _, _, rfl⟩ := Go.WideShapes.okWide_slice ht hv
  obtain ⟨fuel, hx⟩ := h
  rcases open_slice ht hx with ⟨h0, _⟩ | ⟨a, len, cap, m, n, Dd, Pl, h0, hb, hlc, hcm, hmm, hx, hi⟩
  · injection h0 with h0 _
    rw [h0]
    exact ⟨none, 0, 0, 0, 0, rfl, ⟨fun j hj => absurd hj (Nat.not_lt_zero j), by omega⟩⟩
  · injection h0 with h0 _
    rw [h0]
    have hlm : len ≤ m := by rw [hmm]; split <;> omega
    have key : ∀ j, j < len → ∃ k : Int, (0 ≤ k ∧ k ≤ 255) ∧ w.cell? (a.add j) = some (.int .u8 k) := by
      intro j hj
      obtain ⟨cs', hc, ht'⟩ := hi j (by omega)
      obtain ⟨k, hk, _, hw⟩ := DataW.trod_int he ht'
      obtain ⟨_, hcl, hat⟩ := World.cells?_some hc
      rw [hc1, Nat.mul_one] at hat
      refine ⟨k, ?_, ?_⟩
      · simp only [Lit.wf, Bool.and_eq_true, decide_eq_true_eq] at hw
        have e1 : IntKind.u8.min = 0 := by decide
        have e2 : IntKind.u8.max = 255 := by decide
        rw [e1, e2] at hw
        exact hw
      · have h1 := hat 0 (by omega)
        rw [hk] at h1
        simpa [Addr.add] using h1
    refine ⟨some a, len, cap, a.block, a.off, rfl, ⟨fun j hj => ?_, by simp only [maxLen] at hcm; omega⟩⟩
    have ha0 : a = ⟨a.block, a.off, none⟩ := by
      obtain ⟨k, _, h1⟩ := key 0 (by omega)
      have e0 : a.add 0 = a := by simp [Addr.add]
      rw [e0] at h1
      exact addr_of h1
    obtain ⟨k, hk, h1⟩ := key j hj
    refine ⟨congrArg some ha0, k, hk, ?_⟩
    rw [ha0, Addr.add_lit] at h1
    rw [Nat.mul_one]
    exact h1

end Go.Proofs.Ytfinobpodmdkgaa
