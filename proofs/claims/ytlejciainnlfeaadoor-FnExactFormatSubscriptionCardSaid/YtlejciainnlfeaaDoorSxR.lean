/- From a walk of a law to its row: arguments opened to numbers, the row's last step. Generic in the program; no statement is proved here. -/
import Derived.Test.YtlejciainnlfeaaDoorSxD
import Derived.ProofKit
import Derived.Deep.Slices
import Derived.Carry
namespace Go.Proofs.YtlejciainnlfeaaDoor
open Go.RowKit Go.ChangeShapes Go.WideShapes Go.Deep

def flatI (P : Program) (k : IntKind) : Nat → TypeId → Bool
  | 0, _ => false
  | D + 1, t => match P.underlying t with
    | some (.int k') => decide (k' = k)
    | some (.struct fs) => (fs.toList.all fun f => flatI P k D f.type) && ((List.range (P.cellsOf t)).all fun j => fs.toList.any fun f => decide (f.offset ≤ j) && decide (j < f.offset + P.cellsOf f.type))
    | _ => false

section
variable {H : Type} {enc : TypeId × Value → H} {P : Program} {w : World} {base : Nat} {spare : Nat → Bool} {held : Bool}

theorem flat_at (k : IntKind) : ∀ (D : Nat) (t : TypeId) (fuel : Nat) (cs : List Value) (x : DataW H × List MemPlace), flatI P k D t = true → DataW.trod enc P w base spare held fuel t cs = some x → ∀ j, j < cs.length → ∃ n : Int, cs[j]? = some (.int k n) := by
  intro D
  induction D with
  | zero => intro t fuel cs x h; simp [flatI] at h
  | succ D ih =>
    intro t fuel cs x h hx j hj
    unfold flatI at h
    split at h
    · rename_i k' hu
      have hk : k' = k := by simpa using h
      subst hk
      obtain ⟨n, rfl, _, _⟩ := DataW.trod_int hu hx
      have hj0 : j = 0 := by simp at hj; omega
      subst hj0
      exact ⟨n, rfl⟩
    · rename_i fs hu
      simp only [Bool.and_eq_true, List.all_eq_true, List.mem_range] at h
      obtain ⟨hf, hcov⟩ := h
      obtain ⟨xs, m, _, _, hlen, hxl, hg⟩ := DataW.trod_struct hu hx
      have hc := hcov j (by omega)
      rw [List.any_eq_true] at hc
      obtain ⟨f, hfm, hfj⟩ := hc
      simp only [Bool.and_eq_true, decide_eq_true_eq] at hfj
      obtain ⟨i, hi⟩ := List.getElem?_of_mem hfm
      have hi' : fs[i]? = some f := by simpa using hi
      have h1 := hg i f hi'
      have hil : i < fs.size := (Array.getElem?_eq_some_iff.1 hi').1
      rw [List.getElem?_eq_getElem (by omega)] at h1
      obtain ⟨n, hn⟩ := ih f.type m _ _ (hf f hfm) h1 (j - f.offset) (by rw [List.length_take, List.length_drop]; omega)
      refine ⟨n, ?_⟩
      rw [List.getElem?_take_of_lt (by omega), List.getElem?_drop] at hn
      rwa [show f.offset + (j - f.offset) = j by omega] at hn
    · cases h

theorem ints_of {k : IntKind} : ∀ (cs : List Value), (∀ j, j < cs.length → ∃ n : Int, cs[j]? = some (.int k n)) → ∃ ns : List Int, cs = ns.map (Value.int k)
  | [], _ => ⟨[], rfl⟩
  | c :: cs, h => by
    obtain ⟨n, hn⟩ := h 0 (by simp)
    obtain ⟨ns, rfl⟩ := ints_of cs (fun j hj => by obtain ⟨m, hm⟩ := h (j + 1) (by simpa using hj); exact ⟨m, by simpa using hm⟩)
    exact ⟨n :: ns, by simpa using hn⟩

/-- a struct of numbers -/
theorem open_flat {k : IntKind} (D : Nat) {r : Reach} {b0 : Nat} {t : TypeId} {fs : Array Field} {v : Value} {d : DataW H} {p : List MemPlace} (hs : P.underlying t = some (.struct fs)) (hf : flatI P k D t = true)
    (hv : Value.okWide P w r b0 t v) (h : DataW.Trod enc P w base spare held t v d p) : ∃ ns : List Int, v = .agg (ns.map (Value.int k)).toArray ∧ ns.length = P.cellsOf t := by
  obtain ⟨cs, rfl, hsz⟩ := okWide_struct hs hv
  obtain ⟨fuel, hx⟩ := h
  simp only [Value.cells] at hx
  obtain ⟨ns, hns⟩ := ints_of cs.toList (flat_at k D t fuel _ _ hf hx)
  refine ⟨ns, ?_, ?_⟩
  · rw [← hns]
  · have := congrArg List.length hns
    simp at this
    omega

theorem flatten_get {α : Type} {k : Nat} : ∀ {xs : List (List α)}, (∀ x ∈ xs, x.length = k) → ∀ (i r : Nat) (x : List α), xs[i]? = some x → r < k → xs.flatten[i * k + r]? = x[r]?
  | [], _, i, r, x, hi, _ => by simp at hi
  | y :: ys, h, i, r, x, hi, hr => by
    have hy := h y (by simp)
    cases i with
    | zero =>
      simp at hi
      subst hi
      simp only [List.flatten_cons, Nat.zero_mul, Nat.zero_add]
      rw [List.getElem?_append_left (by omega)]
    | succ i =>
      simp only [List.flatten_cons]
      rw [List.getElem?_append_right (by rw [hy, Nat.succ_mul]; omega)]
      have := flatten_get (fun z hz => h z (List.mem_cons_of_mem _ hz)) i r x (by simpa using hi) hr
      rw [← this]
      congr 1
      rw [hy, Nat.succ_mul]
      omega
theorem flatten_length {α : Type} {k : Nat} : ∀ {xs : List (List α)}, (∀ x ∈ xs, x.length = k) → xs.flatten.length = xs.length * k
  | [], _ => by simp
  | y :: ys, h => by
    rw [List.flatten_cons, List.length_append, h y (by simp), flatten_length (fun z hz => h z (List.mem_cons_of_mem _ hz)), List.length_cons, Nat.succ_mul]
    omega

theorem addr_of {a : Addr} {v : Value} {w : World} (h : w.cell? a = some v) : a = ⟨a.block, a.off, none⟩ := by
  cases a with
  | mk b o s =>
    cases s with
    | none => rfl
    | some s => simp [World.cell?] at h; split at h <;> simp at h

/-- a slice of structs of numbers (or of numbers), in one cell -/
theorem open_flat_slice {k : IntKind} (D : Nat) {t e : TypeId} {fuel : Nat} {v : Value} {x : DataW H × List MemPlace} (ht : P.underlying t = some (.slice e)) (hf : flatI P k D e = true) (hpos : 0 < P.cellsOf e)
    (h : DataW.trod enc P w base spare held fuel t [v] = some x) :
    ∃ (A : Option Addr) (len cap b o : Nat) (xs : List (List Int)), v = .slice A len cap ∧ xs.length = len ∧ (∀ y ∈ xs, y.length = P.cellsOf e) ∧ len ≤ cap ∧ cap ≤ maxLen ∧ Sl w A b o (xs.flatten.map (Value.int k)) := by
  rcases open_slice ht h with ⟨h0, _⟩ | ⟨a, len, cap, m, n, Dd, Pl, h0, hb, hlc, hcm, hmm, hx, hi⟩
  · injection h0 with h0 _
    subst h0
    exact ⟨none, 0, 0, 0, 0, [], rfl, rfl, fun _ h => absurd h (by simp), Nat.le_refl _, by simp [maxLen], Sl.nil⟩
  · injection h0 with h0 _
    subst h0
    have hlm : len ≤ m := by rw [hmm]; split <;> omega
    have key : ∀ i, i < len → ∃ ns : List Int, ns.length = P.cellsOf e ∧ ∀ j, j < P.cellsOf e → w.cell? (a.add (i * P.cellsOf e + j)) = (ns.map (Value.int k))[j]? := by
      intro i hil
      obtain ⟨cs', hc, ht'⟩ := hi i (by omega)
      obtain ⟨_, hcl, hat⟩ := World.cells?_some hc
      obtain ⟨ns, rfl⟩ := ints_of cs' (flat_at k D e n _ _ hf ht')
      refine ⟨ns, by simpa using hcl, fun j hj => ?_⟩
      rw [← Go.Deep.add_add]
      exact hat j hj
    obtain ⟨f, hfn⟩ := choose_lt key
    have hlen : ∀ y ∈ (List.range len).map f, y.length = P.cellsOf e := fun y hy => by
      obtain ⟨i, hir, rfl⟩ := List.mem_map.1 hy
      exact (hfn i (by simpa using hir)).1
    refine ⟨some a, len, cap, a.block, a.off, (List.range len).map f, rfl, by simp, hlen, hlc, hcm, ?_⟩
    have hcell : ∀ j u, (((List.range len).map f).flatten.map (Value.int k))[j]? = some u → w.cell? (a.add j) = some u := by
      intro j u hu
      have hjl : j < len * P.cellsOf e := by
        have h1 := (List.getElem?_eq_some_iff.1 hu).1
        rw [List.length_map, flatten_length hlen] at h1
        simpa using h1
      have hdm := Nat.div_add_mod j (P.cellsOf e)
      have hi1 : j / P.cellsOf e < len := by rw [Nat.div_lt_iff_lt_mul hpos]; exact hjl
      have hr1 : j % P.cellsOf e < P.cellsOf e := Nat.mod_lt _ hpos
      have hj : j = (j / P.cellsOf e) * P.cellsOf e + j % P.cellsOf e := by rw [Nat.mul_comm]; omega
      rw [List.getElem?_map, hj, flatten_get hlen (j / P.cellsOf e) (j % P.cellsOf e) (f (j / P.cellsOf e)) (by simp [hi1]) hr1] at hu
      rw [hj, (hfn _ hi1).2 _ hr1, List.getElem?_map]
      exact hu
    refine ⟨fun hp => ?_, fun j u hu => ?_⟩
    · have h0 : 0 < (((List.range len).map f).flatten.map (Value.int k)).length := hp
      have h1 := hcell 0 _ (List.getElem?_eq_getElem h0)
      have : a.add 0 = a := by simp [Addr.add]
      rw [this] at h1
      exact congrArg some (addr_of h1)
    · have h0 : 0 < (((List.range len).map f).flatten.map (Value.int k)).length := by have := (List.getElem?_eq_some_iff.1 hu).1; omega
      have h1 := hcell 0 _ (List.getElem?_eq_getElem h0)
      have ha : a.add 0 = a := by simp [Addr.add]
      rw [ha] at h1
      have hae := addr_of h1
      have h2 := hcell j u hu
      rw [hae, Addr.add_lit] at h2
      exact h2

theorem trodAll_stays (laid : laidOutB P = true) {W W' : World} {sp' : Nat → Bool} : ∀ {ts : List TypeId} {vs : List Value} {ds : List (DataW H)} {ps : List MemPlace},
    ts.all (fun t => P.readableRec t && decide (t < P.types.size)) = true → DataW.TrodAll enc P W 0 (fun _ => true) true ts vs ds ps → (∀ x ∈ ps, W.sameAt W' x) → (∀ x ∈ ps, sp' x.block = true) → DataW.TrodAll enc P W' 0 sp' true ts vs ds ps
  | [], [], [], _, _, h, _, _ => h
  | t :: ts, v :: vs, d :: ds, _, ht, h, h1, h2 => by
    obtain ⟨p, q, hd, hr, rfl⟩ := h
    simp only [List.all_cons, Bool.and_eq_true, decide_eq_true_eq] at ht
    exact ⟨p, q, WideElems.Trod_stays laid ht.1.1 ht.1.2 hd (fun x hx => h1 x (List.mem_append_left _ hx)) (fun x hx => h2 x (List.mem_append_left _ hx)),
      trodAll_stays laid ht.2 hr (fun x hx => h1 x (List.mem_append_right _ hx)) (fun x hx => h2 x (List.mem_append_right _ hx)), rfl⟩
  | [], _ :: _, _, _, _, h, _, _ => by simp [DataW.TrodAll] at h
  | [], [], _ :: _, _, _, h, _, _ => by simp [DataW.TrodAll] at h
  | _ :: _, [], _, _, _, h, _, _ => by simp [DataW.TrodAll] at h
  | _ :: _, _ :: _, [], _, _, h, _, _ => by simp [DataW.TrodAll] at h

/-- the last step of a law's row: it returned true; below the old heap nothing has turned -/
theorem law_post {f : Func} {s : ChangeSpec} {W W' : World} {args : Array Value} {ds : List (DataW H)} {p : List MemPlace} {tb : TypeId} (laid : laidOutB P = true) (hv : s.vars = [])
    (hW : DataW.Whole enc P f.params.toList s.vars false W args.toList ds [] p) (hA : DataW.TrodAll enc P W 0 (fun _ => true) true f.params.toList args.toList ds p)
    (ht : f.params.toList.all (fun t => P.readableRec t && decide (t < P.types.size)) = true) (hr : f.resultTypes = #[tb]) (htb : P.underlying tb = some .bool)
    (hs : s.fn H (ds ++ []) = { results := [.lit (.bool true)], args := ds }) (hb : Below W.heap.size W W') : s.post enc P f false true false false W args (.bool true) W' := by
  have hlt : ∀ x ∈ p, x.block < W.heap.size := fun x hx => hW.lt x hx
  refine ⟨ds, [], p, [], p, [], hW, ?_, ?_, ?_, hb.frame _, fun h => by cases h⟩
  · rw [hs, hr]
    exact trodAll_mk1 (shut_bool htb true)
  · rw [hs]
    exact trodAll_stays laid ht hA (fun x hx => hb.same (hlt x hx)) (fun x hx => by simpa using hlt x hx)
  · rw [hs, hv]
    rfl
end
end Go.Proofs.YtlejciainnlfeaaDoor
