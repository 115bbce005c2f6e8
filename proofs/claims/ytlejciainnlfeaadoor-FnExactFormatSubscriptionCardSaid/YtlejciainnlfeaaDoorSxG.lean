/- Marks: storing consecutive numbers into a row, and reading them again. Generic; no statement is proved here. -/
import Derived.Test.YtlejciainnlfeaaDoorSxE
import Derived.Test.YtlejciainnlfeaaDoorSxR
namespace Go.Proofs.YtlejciainnlfeaaDoor
open Go.RowKit

section
variable {P : Program} {Q : Exit → Act → World → Prop} {w0 : World} {ops : Array Oper} {n : Nat} {rest : List Oper} {l : Env} {bs : List Blk} {d : Tmp} {ty : TypeId} {pos : String} {af : Array Edge}
/-- the next number of a marking is stored -/
theorem wl_storeM {t : TypeId} {x y : Operand} {b o j k0 : Nat} {m : Int} {nw : Bool} {u : TypeId} {cs : List Value} (i : Nat) (hi : bs[i]? = some ⟨b, nw, u, seqV k0 j ++ cs.drop j⟩) (hx : Look l n true x (.pointer (some ⟨b, o, none⟩))) (hy : Look l n true y (.int .i64 m)) (ht : isTy1 P t = true)
    (ho : o = j) (hm : m = ((k0 + j : Nat) : Int)) (hj : j < cs.length) (k : WL P ops w0 n rest l (bs.set i ⟨b, nw, u, seqV k0 (j + 1) ++ cs.drop (j + 1)⟩) Q) :
    WL P ops w0 n (⟨none, .store t x y, ty, pos, af, none⟩ :: rest) l bs Q := by
  subst ho hm
  refine wl_store1 i hi hx hy ht rfl ?_ ?_
  · rw [List.length_append, seqV_len, List.length_drop]
    simp [Nat.blt_eq]
    omega
  · rw [mark_step k0 o cs hj]
    exact k
end
theorem Sl.seq {w : World} {A : Option Addr} {b o k0 N : Nat} (hs : Sl w A b o (seqV k0 N)) {j p : Nat} (hj : j < N) (hp : p = o + j) : w.cell? ⟨b, p, none⟩ = some (.int .i64 ((k0 + j : Nat) : Int)) := by
  subst hp
  exact hs.cell j _ (seqV_get hj)
theorem Sl.seqhd {w : World} {A : Option Addr} {b o k0 N : Nat} (hs : Sl w A b o (seqV k0 N)) (h : 0 < N) : A = some ⟨b, o, none⟩ := hs.head (by rw [seqV_len]; exact h)
theorem seqV_cell {k0 N : Nat} {u : Value} (h : u ∈ seqV k0 N) : u.oneCell' = true := by
  simp only [seqV, List.mem_map] at h
  obtain ⟨n, _, rfl⟩ := h
  rfl
theorem seqV_zero (k0 : Nat) (cs : List Value) : seqV k0 0 ++ cs.drop 0 = cs := by simp [seqV]
theorem cast_ne {m n : Nat} (h : (((m : Int)) != (n : Int)) = false) : m = n := by
  have := (bne_eq_false_iff_eq.1 h)
  omega
theorem cast_ne' {m n : Nat} (h : (((m : Int)) != (n : Int)) = true) : m ≠ n := by
  have := (bne_iff_ne.1 h)
  omega
/-- slices of slices -/
theorem Sl.sub {w : World} {A : Option Addr} {b o cap i sz : Nat} {vs : List Value} (hs : Sl w A b o vs) (hcap : vs.length ≤ cap * sz) : Sl w (if cap = i then A else A.map (·.add (i * sz))) b (o + i * sz) (vs.drop (i * sz)) := by
  refine hs.drop (i * sz) (fun h => ?_)
  rw [if_neg]
  intro e
  subst e
  omega
theorem Sl.sub0 {w : World} {A : Option Addr} {b o cap sz : Nat} {vs : List Value} (hs : Sl w A b o vs) : Sl w (if cap = 0 then A else A.map (·.add (0 * sz))) b o vs := by
  split
  · exact hs
  · refine ⟨fun h => ?_, hs.cell⟩
    rw [hs.head h]
    simp [Addr.add]
/-- an append to a row of records that we own -/
theorem wl_appendR {P : Program} {Q : Exit → Act → World → Prop} {w0 : World} {ops : Array Oper} {n : Nat} {rest : List Oper} {l : Env} {bs : List Blk} {d : Tmp} {ty : TypeId} {pos : String} {af : Array Edge}
    {α : Type} {enc : α → List Int} {K : Nat} (hk : ∀ r, (enc r).length = K) (hK : 0 < K) {t e by_ : Nat} {z sp : List Value} {x y : Operand} {b cap : Nat} {A : Option Addr} {b' o' c : Nat} (xs ys : List α) (i : Nat) (he : elSz P t = some (e, K)) (hz : zcs P e = some z) (hzl : z.length = K) (hby : elBytes P e = by_)
    (hx : Look l n true x (.slice (some ⟨b, 0, none⟩) xs.length cap)) (hi : bs[i]? = some ⟨b, true, e, flat enc xs ++ sp⟩) (hcl : (flat enc xs ++ sp).length = cap * K) (hcm : cap ≤ 9223372036854775807)
    (hy : Look l n true y (.slice A ys.length c)) (hs : ∀ w, HP w0 bs w → Sl w A b' o' (flat enc ys)) (hb : (xs.length + ys.length) * by_ ≤ 140737488355328) (h63 : xs.length + ys.length ≤ 9223372036854775807) (hd : Nat.blt d n = true)
    (kk : ∀ g cap2 sp2, (flat enc (xs ++ ys) ++ sp2).length = cap2 * K → cap2 ≤ 9223372036854775807 → WL P ops w0 n rest ((d, (true, .slice (some ⟨g, 0, none⟩) (xs ++ ys).length cap2)) :: l) (⟨g, true, e, flat enc (xs ++ ys) ++ sp2⟩ :: bs.eraseIdx i) Q) :
    WL P ops w0 n (⟨some d, .call ⟨.builtin .append, #[x, y], #[t, t]⟩, ty, pos, af, none⟩ :: rest) l bs Q := by
  refine wl_append (xs := flat enc xs) (ys := flat enc ys) i he hz hzl hK hby hx hi (flat_len hk xs) hcl hcm hy hs (flat_len hk ys) (fun _ h => flat_cell h) hb h63 hd fun g cap2 sp2 h1 h2 _ => ?_
  rw [← flat_append] at h1 ⊢
  have := kk g cap2 sp2 h1 h2
  rwa [List.length_append] at this
theorem cap_le {α : Type} {enc : α → List Int} {K : Nat} (hk : ∀ r, (enc r).length = K) (hK : 0 < K) {xs : List α} {sp : List Value} {cap : Nat} (h : (flat enc xs ++ sp).length = cap * K) : xs.length ≤ cap := by
  rw [List.length_append, flat_len hk] at h
  exact Nat.le_of_mul_le_mul_right (by omega) hK
section
variable {P : Program} {ops : Array Oper} {w0 : World} {n : Nat} {l : Env} {bs : List Blk} {C : Nat → World → Prop} {R : Act → World → Prop}
/-- two operations are ready -/
theorem wa_two {fuel : Nat} {listed : Array Bool} {o o' : Oper} (i i' : Nat) (hr : Region.ready .any ops listed = [i, i']) (hi : ops[i]? = some o) (hi' : ops[i']? = some o')
    (h : WL P ops w0 n [o] l bs (QN (C i) (wpAnyN P ops C R fuel (listed.setIfInBounds i true)))) (h' : WL P ops w0 n [o'] l bs (QN (C i') (wpAnyN P ops C R fuel (listed.setIfInBounds i' true)))) : WA P ops w0 n C (fuel + 1) listed l bs R := fun a w ha hw => by
  refine ⟨fun h0 => (by rw [hr] at h0; cases h0), fun j hj => ?_⟩
  rw [hr] at hj
  rcases List.mem_cons.1 hj with rfl | hj
  · have h1 := h a w ha hw
    unfold wpOp
    simp only [hi]
    unfold wpList at h1
    split
    · rename_i hw1
      simp only [hw1, if_true] at h1
      rcases h1 with h1 | ⟨_, h1⟩
      · exact .inl (qn_no h1)
      · obtain ⟨_, _, hq⟩ := h1
        exact hq.elim
    · rename_i hw1
      simp only [hw1] at h1
      exact h1
  · have hji : j = i' := by simpa using hj
    subst hji
    have h1 := h' a w ha hw
    unfold wpOp
    simp only [hi']
    unfold wpList at h1
    split
    · rename_i hw1
      simp only [hw1, if_true] at h1
      rcases h1 with h1 | ⟨_, h1⟩
      · exact .inl (qn_no h1)
      · obtain ⟨_, _, hq⟩ := h1
        exact hq.elim
    · rename_i hw1
      simp only [hw1] at h1
      exact h1
end
/-- a list of one more -/
theorem flat_snoc {α : Type} {enc : α → List Int} (rs : List α) (r : α) : flat enc rs ++ recV enc r = flat enc (rs ++ [r]) := by rw [flat_append, flat_one']
theorem nth_append_left {α : Type} {d : α} {xs ys : List α} {i : Nat} (h : i < xs.length) : nth d (xs ++ ys) i = nth d xs i := by simp [nth, List.getD, List.getElem?_append_left h]
theorem nth_append_right {α : Type} {d : α} {xs ys : List α} {i : Nat} (h : xs.length ≤ i) : nth d (xs ++ ys) i = nth d ys (i - xs.length) := by simp [nth, List.getD, List.getElem?_append_right h]
theorem findI_none {α : Type} (p : α → Bool) : ∀ (i : Nat) (rs : List α), findI p i rs < 0 → ∀ r ∈ rs, p r = false
  | _, [], _ => by simp
  | i, r :: rs, h => by
    unfold findI at h
    split at h
    · omega
    · rename_i hp
      intro x hx
      rcases List.mem_cons.1 hx with rfl | hx
      · simpa using hp
      · exact findI_none p (i + 1) rs h x hx
theorem findI_is {α : Type} (p : α → Bool) (d : α) : ∀ (i : Nat) (rs : List α), 0 ≤ findI p i rs → p (nth d rs ((findI p i rs).toNat - i)) = true
  | _, [], h => by simp [findI] at h
  | i, r :: rs, h => by
    unfold findI at h ⊢
    split
    · rename_i hp
      simp [nth, hp]
    · rename_i hp
      rw [if_neg hp] at h
      have h2 := findI_lt p (i + 1) rs h
      have h3 := findI_is p d (i + 1) rs h
      have : (findI p (i + 1) rs).toNat - i = ((findI p (i + 1) rs).toNat - (i + 1)) + 1 := by omega
      rw [this]
      simpa [nth] using h3
/-- an argument that is a slice of structs of numbers, opened -/
theorem open_rows {H : Type} {enc : TypeId × Value → H} {P : Program} {w : World} {base : Nat} {spare : Nat → Bool} {held : Bool} {k : IntKind} (D : Nat) {r : Reach} {b0 : Nat} {t e : TypeId} {v : Value} {d : DataW H} {p : List MemPlace} (ht : P.underlying t = some (.slice e)) (hf : flatI P k D e = true) (hpos : 0 < P.cellsOf e)
    (hv : Value.okWide P w r b0 t v) (h : DataW.Trod enc P w base spare held t v d p) :
    ∃ (A : Option Addr) (len cap b o : Nat) (xs : List (List Int)), v = .slice A len cap ∧ xs.length = len ∧ (∀ y ∈ xs, y.length = P.cellsOf e) ∧ len ≤ cap ∧ cap ≤ maxLen ∧ Sl w A b o (xs.flatten.map (Value.int k)) := by
  obtain ⟨_, _, _, rfl⟩ := Go.WideShapes.okWide_slice ht hv
  obtain ⟨fuel, hx⟩ := h
  exact open_flat_slice D ht hf hpos hx
end Go.Proofs.YtlejciainnlfeaaDoor
