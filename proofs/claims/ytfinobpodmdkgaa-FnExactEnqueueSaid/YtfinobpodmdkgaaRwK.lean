/- What the rows of these laws share. -/
import Derived.Test.YtfinobpodmdkgaaSxV
import Derived.Test.YtfinobpodmdkgaaSxR
import Derived.Lib.SmallJoins
namespace Go.Proofs.Ytfinobpodmdkgaa
open Go.RowKit Go.ChangeShapes Go.WideShapes Go.ChangeAt Go.Deep

theorem own_ : ownKnob Try.prog.godebug = none := by kernel_rfl
section
variable {H : Type} {enc : TypeId × Value → H} {P : Program} {w : World} {base : Nat} {spare : Nat → Bool} {held : Bool}
/-- a slice of bytes, in one cell -/
theorem open_bytes {t t8 : TypeId} {fuel : Nat} {v : Value} {x : DataW H × List MemPlace} (hb : P.underlying t = some (.slice t8)) (h8 : flatI P .u8 4 t8 = true) (hc8 : P.cellsOf t8 = 1) (h : DataW.trod enc P w base spare held fuel t [v] = some x) :
    ∃ (p : List Int) (B : Option Addr) (b' o' c' : Nat), v = .slice B p.length c' ∧ p.length ≤ c' ∧ c' ≤ 9223372036854775807 ∧ Sl w B b' o' (bv p) := by
  obtain ⟨A, len, cap, b, o, xs, h1, h2, h3, h4, h5, h6⟩ := open_flat_slice 4 hb h8 (by omega) h
  refine ⟨xs.flatten, A, b, o, cap, ?_, ?_, by simp only [maxLen] at h5; omega, h6⟩
  · rw [h1, flatten_length h3, hc8, Nat.mul_one, h2]
  · rw [flatten_length h3, hc8, Nat.mul_one, h2]; exact h4
theorem open_pays {t e t8 : TypeId} {f0 : Field} {fuel : Nat} {v : Value} {x : DataW H × List MemPlace} (ht : P.underlying t = some (.slice e)) (he : P.underlying e = some (.struct #[f0])) (hf : f0.offset = 0 ∧ P.cellsOf f0.type = 1 ∧ P.cellsOf e = 1)
    (hb : P.underlying f0.type = some (.slice t8)) (h8 : flatI P .u8 4 t8 = true) (hc8 : P.cellsOf t8 = 1) (h : DataW.trod enc P w base spare held fuel t [v] = some x) :
    ∃ (A : Option Addr) (cap b o : Nat) (ps : PS), v = .slice A ps.length cap ∧ ps.length ≤ cap ∧ cap ≤ 9223372036854775807 ∧ Pay w A b o ps ∧ ∀ k, k < ps.length → (nth [] ps k).length ≤ 9223372036854775807 := by
  rcases open_slice ht h with ⟨h0, _⟩ | ⟨a, len, cap, m, n, Dd, Pl, h0, hbb, hlc, hcm, hmm, hx, hi⟩
  · injection h0 with h0 _
    subst h0
    exact ⟨none, 0, 0, 0, [], rfl, Nat.le_refl _, by omega, Pay.nil, fun k hk => absurd hk (by simp)⟩
  · injection h0 with h0 _
    subst h0
    have hlm : len ≤ m := by rw [hmm]; split <;> omega
    have key : ∀ i, i < len → ∃ p : List Int, p.length ≤ 9223372036854775807 ∧ ∃ (B : Option Addr) (b' o' c' : Nat), w.cell? (a.add i) = some (.slice B p.length c') ∧ Sl w B b' o' (bv p) := by
      intro i hil
      obtain ⟨cs', hc, ht'⟩ := hi i (by omega)
      obtain ⟨_, hcl, hat⟩ := World.cells?_some hc
      rw [hf.2.2] at hcl hat
      match cs', hcl with
      | [u], _ =>
        obtain ⟨y0, n', _, _, h2⟩ := trod_struct1 he ht'
        rw [hf.1, hf.2.1] at h2
        have h3 : DataW.trod enc P w base spare held n' f0.type [u] = some y0 := by simpa using h2
        obtain ⟨p, B, b', o', c', rfl, h5, h6, h7⟩ := open_bytes hb h8 hc8 h3
        refine ⟨p, by omega, B, b', o', c', ?_, h7⟩
        have h8 := hat 0 (by omega)
        simpa [Addr.add] using h8
    obtain ⟨f, hfn⟩ := choose_lt key
    refine ⟨some a, cap, a.block, a.off, (List.range len).map f, by simp, by simpa using hlc, by simp only [maxLen] at hcm; omega, ⟨fun hp => ?_, fun k hk => ?_⟩, fun k hk => ?_⟩
    · have h0 : 0 < len := by simpa using hp
      obtain ⟨_, B, b', o', c', h1, _⟩ := hfn 0 h0
      have e0 : a.add 0 = a := by simp [Addr.add]
      rw [e0] at h1
      exact congrArg some (addr_of h1)
    · have hk' : k < len := by simpa using hk
      have e1 : nth [] ((List.range len).map f) k = f k := by rw [nth_eq hk]; simp
      have ha : a = ⟨a.block, a.off, none⟩ := by
        obtain ⟨_, B, b', o', c', h1, _⟩ := hfn 0 (by omega)
        have e0 : a.add 0 = a := by simp [Addr.add]
        rw [e0] at h1
        exact addr_of h1
      obtain ⟨_, B, b', o', c', h1, h2⟩ := hfn k hk'
      refine ⟨B, b', o', c', ?_, by rw [e1]; exact h2⟩
      rw [e1, Nat.mul_one]
      rw [ha, Addr.add_lit] at h1
      exact h1
    · have hk' : k < len := by simpa using hk
      have e1 : nth [] ((List.range len).map f) k = f k := by rw [nth_eq hk]; simp
      rw [e1]
      exact (hfn k hk').1
end

end Go.Proofs.Ytfinobpodmdkgaa
