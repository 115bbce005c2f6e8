/- Records: what the laws on draws ask, in plain Lean. -/
import Derived.Test.YtcdinidpclmmeaaSxW
namespace Go.Proofs.Ytcdinidpclmmeaa
open Go.RowKit


section
variable {P : Program} {Q : Exit → Act → World → Prop} {w0 : World} {ops : Array Oper} {n : Nat} {rest : List Oper} {l : Env} {bs : List Blk} {d : Tmp} {ty : TypeId} {pos : String} {af : Array Edge} {gd : Option (Nat × Bool)}
/-- a call that makes new memory, behind a guard that holds -/
theorem wl_callxg {G : Bool} {X : Type} {good : X → Prop} {val : X → Value} {nb : X → List Blk} {f : FuncId} {args : List Operand} {atys : Array TypeId} {vals : List Value} (hg : GD ops l n ⟨some d, .call ⟨.value (.func f), args.toArray, atys⟩, ty, pos, af, gd⟩ G) (hG : G = true) (hd : Nat.blt d n = true) (hci : CI P f)
    (ha : Args l n true args vals) (hc : ∀ w, HP w0 bs w → Calls P f vals.toArray w fun e w' => ∃ x, good x ∧ e = .returned (val x) ∧ HP w (nb x) w') (hn : ∀ x, (nb x).all (·.new) = true)
    (k : ∀ x, good x → WL P ops w0 n rest ((d, (true, val x)) :: l) (nb x ++ bs) Q) : WL P ops w0 n (⟨some d, .call ⟨.value (.func f), args.toArray, atys⟩, ty, pos, af, gd⟩ :: rest) l bs Q := fun a w hea hw => by
  refine wpList_step fun K hK => ?_
  rw [hg a hea, hG]
  simp only [if_true]
  unfold Oper.wp
  rw [run_call (vals := vals.toArray) hci a (by simp [ha.map a hea rfl]) w]
  refine (hc w hw).mono fun e w' ⟨x, hx, he, hh⟩ => ?_
  subst he
  exact hK _ _ (k x hx _ w' (hea.put (blt_lt hd) true _ _ rfl) (hw.comp hh (hn x)))
/-- an operation behind a guard that does not hold -/
theorem wl_skip {G : Bool} {op : Op} {v : Value} (hg : GD ops l n ⟨some d, op, ty, pos, af, gd⟩ G) (hG : G = false) (hd : Nat.blt d n = true) (k : WL P ops w0 n rest ((d, (false, v)) :: l) bs Q) : WL P ops w0 n (⟨some d, op, ty, pos, af, gd⟩ :: rest) l bs Q := fun a w hea hw => by
  refine wpList_step fun K hK => ?_
  rw [hg a hea, hG]
  simp only [Bool.false_eq_true, if_false]
  exact hK _ _ (k _ w (hea.put (blt_lt hd) false v undef rfl) hw)
end
theorem encU_eq (r s : Rec) : (encU r == encU s) = eqU r s := by
  rw [Bool.eq_iff_iff]; simp [encU, eqU, and_assoc]
theorem net_law (u v z : Int) : (((IntKind.i64.wrap (u - v) == IntKind.i64.wrap (-(IntKind.i64.wrap (v - u)))) && (IntKind.i64.wrap (u - v) == IntKind.i64.wrap (u - v))) && (IntKind.i64.wrap (z - z) == 0)) = true := by
  have h1 : IntKind.i64.wrap (u - v) = IntKind.i64.wrap (-(IntKind.i64.wrap (v - u))) := by
    rw [IntKind.wrap_i64, IntKind.wrap_i64, IntKind.wrap_i64]; omega
  have h2 : IntKind.i64.wrap (z - z) = 0 := by rw [IntKind.wrap_i64]; omega
  rw [← h1, h2]; simp
theorem nth_app {rs : List Rec} {r : Rec} {i : Nat} (h : i < rs.length) : nth d0U (rs ++ [r]) i = nth d0U rs i := by
  rw [nth_eq (by simp; omega), nth_eq h, List.getElem_append_left h]
theorem nth_last (rs : List Rec) (r : Rec) : nth d0U (rs ++ [r]) rs.length = r := by
  rw [nth_eq (by simp)]; simp
theorem findI_app {α : Type} (p : α → Bool) : ∀ (i : Nat) (rs : List α) (r : α), findI p i (rs ++ [r]) = if 0 ≤ findI p i rs then findI p i rs else if p r then ((i + rs.length : Nat) : Int) else -1
  | i, [], r => by simp [findI]
  | i, s :: rs, r => by
    rw [List.cons_append, findI, findI]
    split
    · rw [if_pos (by omega)]
    · rw [findI_app p (i + 1) rs r]
      have e : i + 1 + rs.length = i + (s :: rs).length := by simp; omega
      rw [e]
theorem findI_nth {α : Type} (p : α → Bool) (d : α) : ∀ (i : Nat) (rs : List α) {k : Nat}, k < rs.length → p (nth d rs k) = true → 0 ≤ findI p i rs
  | i, r :: rs, 0, _, hp => by
    have : p r = true := hp
    simp [findI, this]
  | i, r :: rs, k + 1, h, hp => by
    rw [findI]
    split
    · omega
    · exact findI_nth p d (i + 1) rs (k := k) (by simpa using h) hp
  | _, [], _, h, _ => by simp at h
theorem findU_app (rs : List Rec) (s r : Rec) : findU (rs ++ [s]) r = if 0 ≤ findU rs r then findU rs r else if sameU s r then (rs.length : Int) else -1 := by
  rw [findU, findI_app, ← findU, Nat.zero_add]
theorem sameU_comm (r s : Rec) : sameU r s = sameU s r := by
  rw [Bool.eq_iff_iff]; simp [sameU]; omega
theorem okAll_iff (rs : List Rec) : okAll rs = true ↔ rs.length ≤ 24 ∧ ∀ i, i < rs.length → okAt rs i = true := by
  simp [okAll]
theorem okAt_app {rs : List Rec} {r : Rec} {i : Nat} (h : i < rs.length) : okAt (rs ++ [r]) i = okAt rs i := by
  rw [okAt, okAt, nth_app h, findU_app]
  by_cases h0 : 0 ≤ findU rs (nth d0U rs i)
  · rw [if_pos h0]
  · have h1 := findI_take (fun s => sameU s (nth d0U rs i)) d0U i 0 rs h (sameU_refl _)
    exact absurd (findI_nth (fun s => sameU s (nth d0U rs i)) d0U 0 rs h (sameU_refl _)) h0
theorem okAll_app {rs : List Rec} {r : Rec} (h : okAll rs = true) : okAll (rs ++ [r]) = (decide (rs.length < 24) && okU r && decide (findU rs r < 0)) := by
  obtain ⟨h1, h2⟩ := (okAll_iff rs).1 h
  have hl : okAt (rs ++ [r]) rs.length = (okU r && decide (findU rs r < 0)) := by
    rw [okAt, nth_last, findU_app]
    by_cases h0 : 0 ≤ findU rs r
    · rw [if_pos h0]
      have := findU_lt h0
      have e1 : (findU rs r == (rs.length : Int)) = false := by simp; omega
      have e2 : decide (findU rs r < 0) = false := by simp; omega
      rw [e1, e2]
    · rw [if_neg h0, sameU_refl]
      have e2 : decide (findU rs r < 0) = true := by simp; omega
      rw [e2]; simp
  rw [Bool.eq_iff_iff, okAll_iff]
  rw [Bool.and_assoc, ← hl]
  simp only [List.length_append, List.length_cons, List.length_nil, Bool.and_eq_true, decide_eq_true_eq]
  constructor
  · rintro ⟨a, b⟩
    exact ⟨by omega, b _ (by omega)⟩
  · rintro ⟨a, b⟩
    refine ⟨by omega, fun i hi => ?_⟩
    by_cases hil : i < rs.length
    · rw [okAt_app hil]; exact h2 i hil
    · rw [show i = rs.length by omega]; exact b
theorem okAll_app_true {rs : List Rec} {r : Rec} (h : okAll (rs ++ [r]) = true) : okAll rs = true ∧ okU r = true ∧ findU rs r < 0 := by
  obtain ⟨h1, h2⟩ := (okAll_iff _).1 h
  rw [List.length_append, List.length_cons, List.length_nil] at h1 h2
  have h3 : okAll rs = true := (okAll_iff rs).2 ⟨by omega, fun i hi => by rw [← okAt_app hi (r := r)]; exact h2 i (by omega)⟩
  rw [okAll_app h3] at h
  simp only [Bool.and_eq_true, decide_eq_true_eq] at h
  exact ⟨h3, h.1.2, h.2⟩
theorem appU_found {rs : List Rec} {r : Rec} (h : 0 ≤ findU rs r) : okAll (rs ++ [r]) = false ∧ appU rs r = rs := by
  have h1 : okAll (rs ++ [r]) = false := by
    cases h2 : okAll (rs ++ [r])
    · rfl
    · have := (okAll_app_true h2).2.2; omega
  exact ⟨h1, by rw [appU, h1]; rfl⟩
theorem bytesU_app (rs : List Rec) (r : Rec) (net : Int) : ∀ k, k ≤ rs.length → bytesU (rs ++ [r]) net k = bytesU rs net k
  | 0, _ => rfl
  | k + 1, h => by rw [bytesU, bytesU, nth_app (by omega), bytesU_app rs r net k (by omega)]
theorem same_refl (rs : List Rec) : eqRows eqU rs rs = true := eqRows_refl eqU_refl rs
theorem usage_no {l : List Rec} {r : Rec} (h : (!okAll (l ++ [r])) = true) : eqRows eqU (appU l r) l = true := by
  rw [appU, if_neg (by simpa using h)]; exact same_refl l
theorem usage_law {l : List Rec} {r : Rec} (h : (!okAll (l ++ [r])) = false) :
    (((((okAll (appU l r) && (findU (appU l r) r == ((l.length : Nat) : Int))) && (bytesU (appU l r) r.net (appU l r).length == IntKind.i64.wrap (bytesU l r.net l.length + r.byt))) && !okAll (appU l r ++ [r])) && eqRows eqU (appU (appU l r) r) (appU l r))) = true := by
  have h1 : okAll (l ++ [r]) = true := by simpa using h
  obtain ⟨h2, h3, h4⟩ := okAll_app_true h1
  have hx : appU l r = l ++ [r] := by rw [appU, if_pos h1]
  have hf : findU (l ++ [r]) r = (l.length : Int) := by rw [findU_app, if_neg (by omega), sameU_refl]; rfl
  obtain ⟨h5, h6⟩ := appU_found (rs := l ++ [r]) (r := r) (by omega)
  have hb : bytesU (l ++ [r]) r.net (l ++ [r]).length = IntKind.i64.wrap (bytesU l r.net l.length + r.byt) := by
    rw [List.length_append, List.length_cons, List.length_nil, bytesU, nth_last, bytesU_app _ _ _ _ (Nat.le_refl _)]
    simp
  rw [hx, h1, hf, hb, h5, h6, same_refl]
  simp
theorem mergeU_pre (a b : List Rec) : ∀ k, ∃ c, mergeU a b k = a ++ c ∧ c.length ≤ k
  | 0 => ⟨[], by simp [mergeU], Nat.le_refl _⟩
  | k + 1 => by
    obtain ⟨c, h1, h2⟩ := mergeU_pre a b k
    rw [mergeU, appU]
    split
    · exact ⟨c ++ [nth d0U b k], by rw [h1, List.append_assoc], by simp; omega⟩
    · exact ⟨c, h1, by omega⟩
theorem mergeU_ge (a b : List Rec) (k : Nat) : a.length ≤ (mergeU a b k).length := by
  obtain ⟨c, h1, _⟩ := mergeU_pre a b k
  rw [h1]; simp
theorem mergeU_take (a b : List Rec) (k : Nat) : (mergeU a b k).take a.length = a := by
  obtain ⟨c, h1, _⟩ := mergeU_pre a b k
  rw [h1]; simp
theorem mergeU_le (a b : List Rec) (k : Nat) : (mergeU a b k).length ≤ a.length + k := by
  obtain ⟨c, h1, h2⟩ := mergeU_pre a b k
  rw [h1]; simp; omega
theorem mergeU_ok {a : List Rec} (b : List Rec) (h : okAll a = true) : ∀ k, okAll (mergeU a b k) = true
  | 0 => h
  | k + 1 => appU_ok (mergeU_ok b h k) _
theorem appU_find {rs : List Rec} {r s : Rec} (h : 0 ≤ findU rs r) : 0 ≤ findU (appU rs s) r := by
  rw [appU]
  split
  · rw [findU_app, if_pos h]; exact h
  · exact h
theorem appU_self {rs : List Rec} {r : Rec} (h : okAll rs = true) (hr : okU r = true) (hl : rs.length < 24) : 0 ≤ findU (appU rs r) r := by
  by_cases h0 : 0 ≤ findU rs r
  · exact appU_find h0
  · rw [appU, if_pos (by rw [okAll_app h, hr]; simp; omega), findU_app, if_neg h0, sameU_refl]
    simp
theorem mergeU_find {a b : List Rec} (ha : okAll a = true) (hb : okAll b = true) (hla : a.length ≤ 8) (hlb : b.length ≤ 8) : ∀ k, k ≤ b.length → ∀ i, i < k → 0 ≤ findU (mergeU a b k) (nth d0U b i)
  | 0, _, i, h => absurd h (Nat.not_lt_zero i)
  | k + 1, hk, i, hi => by
    rw [mergeU]
    by_cases h : i < k
    · exact appU_find (mergeU_find ha hb hla hlb k (by omega) i h)
    · have e : i = k := by omega
      subst e
      have hk2 := ((okAll_iff b).1 hb).2 i (by omega)
      rw [okAt, Bool.and_eq_true] at hk2
      exact appU_self (mergeU_ok b ha i) hk2.1 (by have := mergeU_le a b i; omega)
theorem mergeU_same {x b : List Rec} (h : ∀ i, i < b.length → 0 ≤ findU x (nth d0U b i)) : ∀ k, k ≤ b.length → mergeU x b k = x
  | 0, _ => rfl
  | k + 1, hk => by rw [mergeU, mergeU_same h k (by omega), (appU_found (h k (by omega))).2]
theorem findU_self {rs : List Rec} {i : Nat} (h : i < rs.length) : 0 ≤ findU rs (nth d0U rs i) := findI_nth (fun s => sameU s (nth d0U rs i)) d0U 0 rs h (sameU_refl _)
theorem merge_again {a b : List Rec} (ha : okAll a = true) (hb : okAll b = true) (hla : a.length ≤ 8) (hlb : b.length ≤ 8) : (true && eqRows eqU (mergeU (mergeU a b b.length) b b.length) (mergeU a b b.length)) = true := by
  rw [mergeU_same (x := mergeU a b b.length) (fun i hi => mergeU_find ha hb hla hlb _ (Nat.le_refl _) i hi) _ (Nat.le_refl _), same_refl]
  rfl
theorem merge_self {a : List Rec} : (true && eqRows eqU (mergeU a a a.length) a) = true := by
  rw [mergeU_same (x := a) (fun i hi => findU_self hi) _ (Nat.le_refl _), same_refl]
  rfl
theorem merge_start {a b : List Rec} : (decide ((((mergeU a b b.length).length : Nat) : Int) < (a.length : Nat)) || !eqRows eqU ((mergeU a b b.length).take a.length) a) = false := by
  rw [mergeU_take, same_refl]
  have := mergeU_ge a b b.length
  simp; omega

end Go.Proofs.Ytcdinidpclmmeaa
