/- Rows of records of numbers as cells; plain lemmas on lists. Generic; no statement is proved here. -/
import Derived.Test.YtlejciainnlfeaaDoorSxD
namespace Go.Proofs.YtlejciainnlfeaaDoor
open Go.RowKit

/-- the cells of a row of records -/
def flat {α : Type} (enc : α → List Int) (rs : List α) : List Value := (rs.flatMap enc).map (Value.int .i64)
def nth {α : Type} (d : α) (rs : List α) (i : Nat) : α := rs.getD i d
def recV {α : Type} (enc : α → List Int) (r : α) : List Value := (enc r).map (Value.int .i64)

section
variable {α : Type} {enc : α → List Int} {k : Nat}

theorem nth_eq {d : α} {rs : List α} {i : Nat} (h : i < rs.length) : nth d rs i = rs[i] := by simp [nth, List.getD, List.getElem?_eq_getElem h]
theorem drop_nth {d : α} {rs : List α} {i : Nat} (h : i < rs.length) : rs.drop i = nth d rs i :: rs.drop (i + 1) := by rw [nth_eq h]; exact List.drop_eq_getElem_cons h
theorem take_nth {d : α} {rs : List α} {i : Nat} (h : i < rs.length) : rs.take (i + 1) = rs.take i ++ [nth d rs i] := by rw [nth_eq h]; exact List.take_succ_eq_append_getElem h

theorem flat_nil : flat enc [] = [] := rfl
theorem flat_cons (r : α) (rs : List α) : flat enc (r :: rs) = recV enc r ++ flat enc rs := by simp [flat, recV]
theorem flat_append (xs ys : List α) : flat enc (xs ++ ys) = flat enc xs ++ flat enc ys := by simp [flat]
theorem flat_one' (r : α) : flat enc [r] = recV enc r := by simp [flat, recV]
theorem recV_len (hk : ∀ r, (enc r).length = k) (r : α) : (recV enc r).length = k := by simp [recV, hk]
theorem flat_len (hk : ∀ r, (enc r).length = k) : ∀ (rs : List α), (flat enc rs).length = rs.length * k
  | [] => by simp [flat]
  | r :: rs => by rw [flat_cons, List.length_append, recV_len hk, flat_len hk rs, List.length_cons, Nat.succ_mul]; omega
theorem flat_cell {u : Value} {rs : List α} (h : u ∈ flat enc rs) : u.oneCell' = true := by
  simp only [flat, List.mem_map] at h
  obtain ⟨n, _, rfl⟩ := h
  rfl
theorem recV_cell {u : Value} {r : α} (h : u ∈ recV enc r) : u.oneCell' = true := by
  simp only [recV, List.mem_map] at h
  obtain ⟨n, _, rfl⟩ := h
  rfl
theorem flat_take (hk : ∀ r, (enc r).length = k) (rs : List α) (m : Nat) (hm : m ≤ rs.length) : (flat enc rs).take (m * k) = flat enc (rs.take m) := by
  conv => lhs; rw [← List.take_append_drop m rs, flat_append]
  rw [List.take_left' (by rw [flat_len hk, List.length_take]; congr 1; omega)]
theorem flat_drop (hk : ∀ r, (enc r).length = k) (rs : List α) (m : Nat) (hm : m ≤ rs.length) : (flat enc rs).drop (m * k) = flat enc (rs.drop m) := by
  conv => lhs; rw [← List.take_append_drop m rs, flat_append]
  rw [List.drop_left' (by rw [flat_len hk, List.length_take]; congr 1; omega)]
theorem flat_get (hk : ∀ r, (enc r).length = k) (d : α) {rs : List α} {i f : Nat} (hi : i < rs.length) (hf : f < k) : (flat enc rs)[i * k + f]? = (recV enc (nth d rs i))[f]? := by
  have h1 : (flat enc rs)[i * k + f]? = ((flat enc rs).drop (i * k))[f]? := by rw [List.getElem?_drop]
  rw [h1, flat_drop hk rs i (by omega), drop_nth (d := d) hi, flat_cons, List.getElem?_append_left (by rw [recV_len hk]; exact hf)]

variable {w : World} {A : Option Addr} {b o : Nat} {rs : List α}
/-- field f of element i -/
theorem Sl.fld (hs : Sl w A b o (flat enc rs)) (hk : ∀ r, (enc r).length = k) (d : α) {i f : Nat} (hi : i < rs.length) (hf : f < k) {u : Value} (hu : (recV enc (nth d rs i))[f]? = some u) : w.cell? ⟨b, o + i * k + f, none⟩ = some u := by
  have := hs.cell (i * k + f) u (by rw [flat_get hk d hi hf]; exact hu)
  rwa [← Nat.add_assoc] at this
theorem Sl.hd (hs : Sl w A b o (flat enc rs)) (hk : ∀ r, (enc r).length = k) (hk0 : 0 < k) {i : Nat} (hi : i < rs.length) : A = some ⟨b, o, none⟩ :=
  hs.head (by rw [flat_len hk]; exact Nat.mul_pos (by omega) hk0)
/-- all the fields of element i -/
theorem Sl.rec_ {w0 : World} {bs : List Blk} {G : Bool} (hs : Sl w0 A b o (flat enc rs)) (hb : bs.all (·.new) = true) (hk : ∀ r, (enc r).length = k) (d : α) {i : Nat} (hi : G = true → i < rs.length) : ∀ j u, (recV enc (nth d rs i))[j]? = some u → CellIs w0 bs G b (o + i * k + j) u :=
  fun j u hu => cell_old hb fun hG => hs.fld hk d (hi hG) (by
    have := (List.getElem?_eq_some_iff.1 hu).1
    rwa [recV_len hk] at this) hu
/-- the same in a block of our own -/
theorem own_rec {w0 : World} {bs : List Blk} {G : Bool} {nw : Bool} {t : TypeId} {sp : List Value} (hm : (⟨b, nw, t, flat enc rs ++ sp⟩ : Blk) ∈ bs) (hk : ∀ r, (enc r).length = k) (d : α) {i : Nat} (hi : G = true → i < rs.length) :
    ∀ j u, (recV enc (nth d rs i))[j]? = some u → CellIs w0 bs G b (0 + i * k + j) u :=
  fun j u hu => cell_own hm fun hG => by
    have hj := (List.getElem?_eq_some_iff.1 hu).1
    rw [recV_len hk] at hj
    have h1 := flat_get (rs := rs) hk d (hi hG) hj
    have h2 := hi hG
    have h3 : i * k + j < (flat enc rs).length := by
      rcases Nat.lt_or_ge (i * k + j) (flat enc rs).length with h | h
      · exact h
      · rw [List.getElem?_eq_none h] at h1; rw [← h1] at hu; cases hu
    rw [Nat.zero_add, List.getElem?_append_left h3, h1, hu]
theorem own_fld {w0 : World} {bs : List Blk} {G : Bool} {nw : Bool} {t : TypeId} {sp : List Value} (hm : (⟨b, nw, t, flat enc rs ++ sp⟩ : Blk) ∈ bs) (hk : ∀ r, (enc r).length = k) (d : α) {i f : Nat} (hi : G = true → i < rs.length) {u : Value}
    (hu : (recV enc (nth d rs i))[f]? = some u) : CellIs w0 bs G b (0 + i * k + f) u := own_rec hm hk d hi f u hu
theorem own_fld' {w0 : World} {bs : List Blk} {G : Bool} {nw : Bool} {t : TypeId} (hm : (⟨b, nw, t, flat enc rs⟩ : Blk) ∈ bs) (hk : ∀ r, (enc r).length = k) (d : α) {i f : Nat} (hi : G = true → i < rs.length) {u : Value}
    (hu : (recV enc (nth d rs i))[f]? = some u) : CellIs w0 bs G b (0 + i * k + f) u := own_fld (sp := []) (by simpa using hm) hk d hi hu

/-- element m is filled in -/
theorem fill_step (hk : ∀ r, (enc r).length = k) (d : α) (rs : List α) (cs0 : List Value) (m : Nat) (hm : m < rs.length) :
    (flat enc (rs.take m) ++ cs0.drop (m * k)).take (m * k) ++ recV enc (nth d rs m) ++ (flat enc (rs.take m) ++ cs0.drop (m * k)).drop (m * k + k) = flat enc (rs.take (m + 1)) ++ cs0.drop ((m + 1) * k) := by
  have hl : (flat enc (rs.take m)).length = m * k := by rw [flat_len hk, List.length_take]; congr 1; omega
  rw [List.take_left' hl, take_nth (d := d) hm, flat_append, flat_one', List.drop_append, hl]
  congr 1
  rw [List.drop_of_length_le (by omega), List.nil_append, List.drop_drop, Nat.succ_mul]
  congr 1
  omega
theorem fill_len (hk : ∀ r, (enc r).length = k) (rs : List α) (cs0 : List Value) (m : Nat) (hm : m ≤ rs.length) (h0 : cs0.length = rs.length * k) : (flat enc (rs.take m) ++ cs0.drop (m * k)).length = rs.length * k := by
  rw [List.length_append, flat_len hk, List.length_take, List.length_drop, h0, Nat.min_eq_left hm, ← Nat.add_sub_assoc (Nat.mul_le_mul_right k hm)]
  omega

theorem set_nth (hk : ∀ r, (enc r).length = k) (rs : List α) (m : Nat) (hm : m < rs.length) (r : α) (sp : List Value) :
    (flat enc rs ++ sp).take (m * k) ++ recV enc r ++ (flat enc rs ++ sp).drop (m * k + k) = flat enc (rs.set m r) ++ sp := by
  have h1 : m * k + k ≤ (flat enc rs).length := by rw [flat_len hk, ← Nat.succ_mul]; exact Nat.mul_le_mul_right k hm
  have h2 : rs.set m r = rs.take m ++ r :: rs.drop (m + 1) := by rw [List.set_eq_take_append_cons_drop, if_pos hm]
  rw [List.take_append_of_le_length (by omega), List.drop_append_of_le_length h1, flat_take hk rs m (by omega), ← Nat.succ_mul, flat_drop hk rs (m + 1) (by omega), h2, flat_append, flat_cons]
  simp
end

theorem recs_of {α : Type} {enc : α → List Int} {k : Nat} (surj : ∀ l : List Int, l.length = k → ∃ r, enc r = l) : ∀ xs : List (List Int), (∀ y ∈ xs, y.length = k) → ∃ rs : List α, rs.length = xs.length ∧ flat enc rs = xs.flatten.map (Value.int .i64)
  | [], _ => ⟨[], rfl, rfl⟩
  | y :: ys, h => by
    obtain ⟨r, hr⟩ := surj y (h y List.mem_cons_self)
    obtain ⟨rs, h1, h2⟩ := recs_of surj ys (fun z hz => h z (List.mem_cons_of_mem _ hz))
    exact ⟨r :: rs, by simp [h1], by rw [flat_cons, h2, recV, hr]; simp⟩

/-- the cells that a marking leaves: k0, k0 + 1, .. -/
def seqV (k0 n : Nat) : List Value := (List.range n).map fun j => .int .i64 ((k0 + j : Nat) : Int)
theorem seqV_len (k0 n : Nat) : (seqV k0 n).length = n := by simp [seqV]
theorem seqV_get {k0 n j : Nat} (h : j < n) : (seqV k0 n)[j]? = some (.int .i64 ((k0 + j : Nat) : Int)) := by simp [seqV, h]
theorem seqV_step (k0 j : Nat) (rest : List Value) (h : 0 < rest.length) : (seqV k0 j ++ rest).set j (.int .i64 ((k0 + j : Nat) : Int)) = seqV k0 (j + 1) ++ rest.drop 1 := by
  have h1 : seqV k0 (j + 1) = seqV k0 j ++ [.int .i64 ((k0 + j : Nat) : Int)] := by simp [seqV, List.range_succ]
  rw [List.set_append_right _ _ (by rw [seqV_len]; exact Nat.le_refl _), seqV_len, Nat.sub_self, h1]
  cases rest with
  | nil => simp at h
  | cons x xs => simp
theorem mark_step (k0 j : Nat) (cs : List Value) (h : j < cs.length) : (seqV k0 j ++ cs.drop j).set j (.int .i64 ((k0 + j : Nat) : Int)) = seqV k0 (j + 1) ++ cs.drop (j + 1) := by
  rw [seqV_step k0 j _ (by rw [List.length_drop]; omega), List.drop_drop]

theorem slotN {m n : Nat} (h : m = n) : some (true, Value.int .i64 (m : Int)) = some (true, Value.int .i64 (n : Int)) := by rw [h]
theorem slotI {m n : Int} (h : m = n) : some (true, Value.int .i64 m) = some (true, Value.int .i64 n) := by rw [h]
theorem HP.one {w : World} {b : Nat} {t : TypeId} {cs : List Value} (h : w.heap[b]? = some (.cells cs.toArray t (0, 0))) : HP w [⟨b, false, t, cs⟩] w :=
  ⟨rfl, rfl, rfl, Nat.le_refl _, fun _ _ _ => rfl, fun e he => by
      have := List.mem_singleton.1 he
      subst this
      exact h,
    fun e he hn => (by
      have := List.mem_singleton.1 he
      subst this
      cases hn), by simp⟩
/-- what a size check leaves -/
def szN (left : Int) (n : Nat) : Int := if left - n < 0 then -1 else left - n
/-- the first that answers yes, counted from i; else -1 -/
def findI {α : Type} (p : α → Bool) : Nat → List α → Int
  | _, [] => -1
  | i, r :: rs => if p r then (i : Int) else findI p (i + 1) rs
theorem findI_lt {α : Type} (p : α → Bool) : ∀ (i : Nat) (rs : List α), 0 ≤ findI p i rs → (i : Int) ≤ findI p i rs ∧ findI p i rs < (i + rs.length : Nat)
  | _, [], h => by simp [findI] at h
  | i, r :: rs, h => by
    unfold findI at h ⊢
    split
    · simp only [List.length_cons]; omega
    · rename_i hp
      rw [if_neg hp] at h
      have := findI_lt p (i + 1) rs h
      simp only [List.length_cons]
      omega
theorem findI_neg {α : Type} (p : α → Bool) (i : Nat) (rs : List α) (h : findI p i rs < 0) : findI p i rs = -1 := by
  induction rs generalizing i with
  | nil => rfl
  | cons r rs ih =>
    unfold findI at h ⊢
    split
    · rename_i hp; rw [if_pos hp] at h; omega
    · rename_i hp; rw [if_neg hp] at h; exact ih _ h

/-- two rows alike -/
def eqRows {α : Type} (q : α → α → Bool) : List α → List α → Bool
  | [], [] => true
  | x :: xs, y :: ys => q x y && eqRows q xs ys
  | _, _ => false
theorem eqRows_len {α : Type} {q : α → α → Bool} : ∀ {xs ys : List α}, eqRows q xs ys = true → xs.length = ys.length
  | [], [], _ => rfl
  | x :: xs, y :: ys, h => by simp only [eqRows, Bool.and_eq_true] at h; simp [eqRows_len h.2]
  | [], _ :: _, h => by simp [eqRows] at h
  | _ :: _, [], h => by simp [eqRows] at h
theorem eqRows_refl {α : Type} {q : α → α → Bool} (hq : ∀ x, q x x = true) : ∀ xs : List α, eqRows q xs xs = true
  | [] => rfl
  | x :: xs => by simp [eqRows, hq, eqRows_refl hq xs]
theorem eqRows_ne {α : Type} {q : α → α → Bool} {xs ys : List α} (h : xs.length ≠ ys.length) : eqRows q xs ys = false := by
  cases hh : eqRows q xs ys with
  | false => rfl
  | true => exact absurd (eqRows_len hh) h
theorem eqRows_step {α : Type} {q : α → α → Bool} {d : α} {xs ys : List α} {i : Nat} (h1 : i < xs.length) (h2 : i < ys.length) : eqRows q (xs.drop i) (ys.drop i) = (q (nth d xs i) (nth d ys i) && eqRows q (xs.drop (i + 1)) (ys.drop (i + 1))) := by
  rw [drop_nth (d := d) h1, drop_nth (d := d) h2, eqRows]
end Go.Proofs.YtlejciainnlfeaaDoor
