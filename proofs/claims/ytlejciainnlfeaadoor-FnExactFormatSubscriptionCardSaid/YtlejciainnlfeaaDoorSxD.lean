/- A small logic of frames and own blocks: slices, append, copy, literals. Generic in the program; no statement is proved here. -/
import Derived.Test.YtlejciainnlfeaaDoorSxC
import Derived.Maps.AppendAt
namespace Go.Proofs.YtlejciainnlfeaaDoor
open Go.RowKit

/-- the slice value with address A reads the cells vs, which lie from (b, o) on -/
structure Sl (w : World) (A : Option Addr) (b o : Nat) (vs : List Value) : Prop where
  head : 0 < vs.length → A = some ⟨b, o, none⟩
  cell : ∀ (j : Nat) (u : Value), vs[j]? = some u → w.cell? ⟨b, o + j, none⟩ = some u

section
variable {w0 w : World} {bs : List Blk} {A : Option Addr} {b o : Nat} {vs : List Value}
theorem Sl.hp (h : Sl w0 A b o vs) (hw : HP w0 bs w) (hb : bs.all (·.new) = true) : Sl w A b o vs :=
  ⟨h.head, fun j u hu => by
    have h1 := h.cell j u hu
    rw [World.cell?_of_block (w := w0) (w' := w) (a := ⟨b, o + j, none⟩) (hw.old hb (World.block_lt_of_cell? w0 _ h1))]
    exact h1⟩
theorem Sl.own {nw : Bool} {t : TypeId} {sp : List Value} (hw : HP w0 bs w) (hm : (⟨b, nw, t, vs ++ sp⟩ : Blk) ∈ bs) : Sl w (some ⟨b, 0, none⟩) b 0 vs :=
  ⟨fun _ => rfl, fun j u hu => by
    rw [hw.cell hm, Nat.zero_add]
    rw [List.getElem?_append_left (List.getElem?_eq_some_iff.1 hu).1]
    exact hu⟩
theorem Sl.own' {nw : Bool} {t : TypeId} (hw : HP w0 bs w) (hm : (⟨b, nw, t, vs⟩ : Blk) ∈ bs) : Sl w (some ⟨b, 0, none⟩) b 0 vs := by
  exact Sl.own (nw := nw) (t := t) (sp := []) hw (by simpa using hm)
theorem Sl.nil : Sl w A b o [] := ⟨fun h => absurd h (by simp), fun j u hu => by simp at hu⟩
theorem Sl.eq {us : List Value} (h : Sl w A b o vs) (e : vs = us) : Sl w A b o us := e ▸ h
theorem Sl.drop (h : Sl w A b o vs) (i : Nat) {C : Option Addr} (hC : i < vs.length → C = A.map (·.add i)) : Sl w C b (o + i) (vs.drop i) := by
  refine ⟨fun hp => ?_, fun k u hu => ?_⟩
  · simp only [List.length_drop] at hp
    rw [hC (by omega), h.head (by omega)]
    simp [Addr.add_lit]
  · rw [List.getElem?_drop] at hu
    have := h.cell _ u hu
    rwa [← Nat.add_assoc] at this
theorem Sl.take (h : Sl w A b o vs) (m : Nat) : Sl w A b o (vs.take m) := by
  refine ⟨fun hp => h.head (by simp only [List.length_take] at hp; omega), fun k u hu => ?_⟩
  have : k < m := by
    rcases Nat.lt_or_ge k m with h1 | h1
    · exact h1
    · rw [List.getElem?_eq_none (by simp; omega)] at hu; cases hu
  rw [List.getElem?_take_of_lt this] at hu
  exact h.cell _ u hu

/-- the block that an append leaves -/
theorem HP.app {w' : World} {i b g : Nat} {e : TypeId} {cs : List Value} {cur : Array Value} (h : HP w0 bs w) (hi : bs[i]? = some ⟨b, true, e, cs⟩) (hg : w.grownBy w' (some b)) (hc : w'.heap[g]? = some (.cells cur e (0, 0)))
    (hgb : g = b ∨ g = w.heap.size) : HP w0 (⟨g, true, e, cur.toList⟩ :: bs.eraseIdx i) w' := by
  have hmem : (⟨b, true, e, cs⟩ : Blk) ∈ bs := List.mem_of_getElem? hi
  have hb0 : w0.heap.size ≤ b := h.fresh _ hmem rfl
  have hbl : b < w.heap.size := h.lt hmem
  have hil : i < bs.length := (List.getElem?_eq_some_iff.1 hi).1
  have hne : ∀ e' ∈ bs.eraseIdx i, e'.b ≠ b ∧ e' ∈ bs := by
    intro e' he'
    obtain ⟨j, hj⟩ := List.getElem?_of_mem he'
    rw [List.getElem?_eraseIdx] at hj
    have hnd := h.nodup
    unfold List.Nodup at hnd
    rw [List.pairwise_iff_getElem] at hnd
    have hie := (List.getElem?_eq_some_iff.1 hi).2
    split at hj
    · rename_i hji
      obtain ⟨hjl, hje⟩ := List.getElem?_eq_some_iff.1 hj
      refine ⟨fun heb => ?_, List.mem_of_getElem? hj⟩
      exact hnd j i (by simpa using hjl) (by simpa using hil) hji (by simp [hie, hje, heb])
    · rename_i hji
      obtain ⟨hjl, hje⟩ := List.getElem?_eq_some_iff.1 hj
      refine ⟨fun heb => ?_, List.mem_of_getElem? hj⟩
      exact hnd i (j + 1) (by simpa using hil) (by simpa using hjl) (by omega) (by simp [hie, hje, heb])
  refine ⟨hg.os.trans h.os, hg.tape.trans h.tape, hg.output.trans h.output, Nat.le_trans h.size hg.size, fun k hk hnk => ?_, fun e' he' => ?_, fun e' he' hn => ?_, ?_⟩
  · have hkb : k ≠ b := by omega
    rw [hg.block k (by have := h.size; omega) (fun ee => hkb (by injection ee))]
    refine h.keep k hk fun e' he' hek => ?_
    by_cases hbb : e'.b = b
    · omega
    · have hjm : e' ∈ bs.eraseIdx i := by
        obtain ⟨j, hj⟩ := List.getElem?_of_mem he'
        have hji : j ≠ i := fun ee => by subst ee; rw [hi] at hj; injection hj with hj; subst hj; exact hbb rfl
        rcases Nat.lt_or_gt_of_ne hji with h1 | h1
        · exact List.mem_of_getElem? (i := j) (by rw [List.getElem?_eraseIdx, if_pos h1]; exact hj)
        · exact List.mem_of_getElem? (i := j - 1) (by rw [List.getElem?_eraseIdx, if_neg (by omega)]; rw [show j - 1 + 1 = j by omega]; exact hj)
      exact hnk e' (List.mem_cons_of_mem _ hjm) hek
  · rcases List.mem_cons.1 he' with rfl | h1
    · simpa using hc
    · obtain ⟨h2, h3⟩ := hne e' h1
      rw [hg.block e'.b (h.lt h3) (fun ee => h2 (by injection ee))]
      exact h.own e' h3
  · rcases List.mem_cons.1 he' with rfl | h1
    · rcases hgb with rfl | rfl
      · exact hb0
      · exact h.size
    · exact h.fresh e' (hne e' h1).2 hn
  · simp only [List.map_cons, List.nodup_cons]
    refine ⟨fun hm => ?_, ((List.eraseIdx_sublist bs i).map (·.b)).nodup h.nodup⟩
    obtain ⟨e', he', heb⟩ := List.mem_map.1 hm
    obtain ⟨h2, h3⟩ := hne e' he'
    have := h.lt h3
    rcases hgb with rfl | rfl
    · exact h2 heb
    · omega
end

section
variable {P : Program} {ops : Array Oper} {w0 : World} {n : Nat} {l : Env} {bs : List Blk} {d : Tmp} {ty : TypeId} {pos : String} {af : Array Edge} {rest : List Oper} {Q : Exit → Act → World → Prop}

theorem zcs_of {t : Nat} {z : List Value} (hz : zcs P t = some z) : ∃ i v, P.info? t = some i ∧ i.zero = some v ∧ v.cells.toList = z := by
  unfold zcs at hz
  split at hz
  · rename_i i hi
    split at hz
    · rename_i v hv; injection hz with hz; exact ⟨i, v, hi, hv, hz⟩
    · cases hz
  · cases hz

theorem run_append_none {t e sz : Nat} (he : elSz P t = some (e, sz)) (B : Option Addr) (k cap : Nat) (hk : k ≤ cap) (A : Option Addr) (c : Nat) (w : World) :
    (Builtin.append_ #[t, t] ty #[.slice B k cap, .slice A 0 c]).run P w = .ok (.slice B k cap) w := by
  obtain ⟨hu, i, hi, rfl⟩ := elSz_of he
  have hl : ∀ (x : Addr), (loadCells x 0).run P w = .ok #[] w := fun x => by simpa using run_loadCells_list (P := P) w x [] (by simp)
  cases A <;> cases B <;> simp [Builtin.append_, run_underlying hu, sizeOf, typeInfo, hi, Builtin.lenOf, Builtin.firstCells, hk, storeCells, hl]

/-- append to a slice of our own that starts a block of ours -/
theorem wl_append {t e sz by_ : Nat} {z : List Value} {x y : Operand} {b k cap : Nat} {xs sp ys : List Value} {A : Option Addr} {b' o' m c : Nat} (i : Nat) (he : elSz P t = some (e, sz)) (hz : zcs P e = some z) (hzl : z.length = sz) (hsz : 0 < sz) (hby : elBytes P e = by_)
    (hx : Look l n true x (.slice (some ⟨b, 0, none⟩) k cap)) (hi : bs[i]? = some ⟨b, true, e, xs ++ sp⟩) (hxl : xs.length = k * sz) (hcl : (xs ++ sp).length = cap * sz) (hcm : cap ≤ 9223372036854775807)
    (hy : Look l n true y (.slice A m c)) (hs : ∀ w, HP w0 bs w → Sl w A b' o' ys) (hyl : ys.length = m * sz) (h1 : ∀ u ∈ ys, u.oneCell' = true) (hb : (k + m) * by_ ≤ 140737488355328) (h63 : k + m ≤ 9223372036854775807) (hd : Nat.blt d n = true)
    (kk : ∀ g cap2 sp2, (xs ++ ys ++ sp2).length = cap2 * sz → cap2 ≤ 9223372036854775807 → k + m ≤ cap2 → WL P ops w0 n rest ((d, (true, .slice (some ⟨g, 0, none⟩) (k + m) cap2)) :: l) (⟨g, true, e, xs ++ ys ++ sp2⟩ :: bs.eraseIdx i) Q) :
    WL P ops w0 n (⟨some d, .call ⟨.builtin .append, #[x, y], #[t, t]⟩, ty, pos, af, none⟩ :: rest) l bs Q := fun a w hea hw => by
  refine wpList_plain rfl fun K hK => ?_
  have hkc : k ≤ cap := by
    have h2 : k * sz ≤ cap * sz := by rw [← hxl, ← hcl, List.length_append]; omega
    exact Nat.le_of_mul_le_mul_right h2 hsz
  rcases Nat.eq_zero_or_pos m with hm | hm
  · subst hm
    have hys : ys = [] := List.eq_nil_of_length_eq_zero (by simpa using hyl)
    subst hys
    have hr := run_append_none (P := P) (ty := ty) he (some ⟨b, 0, none⟩) k cap hkc A c w
    unfold Oper.wp execOp
    simp only [resolve, invoke, builtin, Sem.run_bind, Sem.run_pure, Result.andThen_ok, List.map_toArray, List.map_cons, List.map_nil, hx a hea rfl, hy a hea rfl, hr, Oper.upon_value]
    refine hK _ _ (kk b cap sp (by simpa using hcl) hcm (by omega) _ _ (hea.put (blt_lt hd) true _ _ rfl) ?_)
    have := hw.app (w' := w) (g := b) (cur := (xs ++ sp).toArray) hi ⟨rfl, rfl, rfl, Nat.le_refl _, fun _ _ _ => rfl⟩ (hw.own _ (List.mem_of_getElem? hi)) (.inl rfl)
    simpa using this
  · obtain ⟨hu, ii, hii, rfl⟩ := elSz_of he
    obtain ⟨ii', v, hii', hv, rfl⟩ := zcs_of hz
    rw [hii] at hii'
    injection hii' with hii'
    subst hii'
    have hsl := hs w hw
    have hypos : 0 < ys.length := by rw [hyl]; exact Nat.mul_pos hm hsz
    have hA := hsl.head hypos
    subst hA
    have hown : w.ownsRow b e ii.size (.slice (some ⟨b, 0, none⟩) k cap) k xs :=
      ⟨hxl, .inr ⟨b, cap, (xs ++ sp).toArray, rfl, Nat.le_refl _, hw.own _ (List.mem_of_getElem? hi), hkc, by simp only [maxLen]; omega, by simpa using hcl, by simp [← hxl]⟩⟩
    have hbl : b < w.heap.size := hw.lt (List.mem_of_getElem? hi)
    have hby' : ii.bytes = by_ := by rw [← hby]; simp [elBytes, hii]
    obtain ⟨v', w', hr, hown', hgrow, hnil, hat⟩ := run_append_own_at (P := P) w b t ty e ii v ii.size by_ hu hii hv rfl hby' (by simpa using hzl) hsz _ k xs hown ⟨b', o', none⟩ m c ys hyl
      (fun j u hu => by rw [Addr.add_lit]; exact hsl.cell j u hu) h1 (by simp only [maxLen]; omega) hb (by omega)
    have hnn : v' ≠ .slice none 0 0 := fun e' => by have := (hnil.1 e').1; cases this
    rcases hown'.2 with ⟨hv', _⟩ | ⟨g, cap2, cur, hv', hbg, hh, hle, hcap, hcs, htk⟩
    · exact absurd hv' hnn
    · subst hv'
      unfold Oper.wp execOp
      simp only [resolve, invoke, builtin, Sem.run_bind, Sem.run_pure, Result.andThen_ok, List.map_toArray, List.map_cons, List.map_nil, hx a hea rfl, hy a hea rfl, hr, Oper.upon_value]
      have hcur : cur.toList = xs ++ ys ++ cur.toList.drop ((k + m) * ii.size) := by rw [← htk]; simp
      refine hK _ _ (kk g cap2 (cur.toList.drop ((k + m) * ii.size)) (by rw [← hcur]; simpa using hcs) (by simp only [maxLen] at hcap; omega) hle _ _ (hea.put (blt_lt hd) true _ _ rfl) ?_)
      have hgb : g = b ∨ g = w.heap.size := by simpa [Value.ownBlock] using hat
      have := hw.app hi hgrow hh hgb
      rwa [← hcur]

/-- copy into a slice of our own -/
theorem wl_copy {t e sz : Nat} {x y : Operand} {b o dl dc sl sc : Nat} {nw : Bool} {u : TypeId} {cs ys : List Value} {A : Option Addr} {b' o' : Nat} (i m : Nat) (he : elSz P t = some (e, sz))
    (hx : Look l n true x (.slice (some ⟨b, o, none⟩) dl dc)) (hy : Look l n true y (.slice A sl sc)) (hm : m = Nat.min sl dl) (hi : bs[i]? = some ⟨b, nw, u, cs⟩) (hs : ∀ w, HP w0 bs w → Sl w A b' o' ys) (hyl : ys.length = m * sz)
    (hfit : o + m * sz ≤ cs.length) (h1 : ∀ u ∈ ys, u.oneCell' = true) (hd : Nat.blt d n = true)
    (kk : WL P ops w0 n rest ((d, (true, .int .i64 (m : Nat))) :: l) (bs.set i ⟨b, nw, u, cs.take o ++ ys ++ cs.drop (o + m * sz)⟩) Q) :
    WL P ops w0 n (⟨some d, .call ⟨.builtin .copy, #[x, y], #[t, t]⟩, ty, pos, af, none⟩ :: rest) l bs Q := fun a w hea hw => by
  refine wpList_plain rfl fun K hK => ?_
  obtain ⟨hu, ii, hii, rfl⟩ := elSz_of he
  have hsl := hs w hw
  have hown := hw.own _ (List.mem_of_getElem? hi)
  have hst := run_storeCells_at P b o u ys 0 cs.toArray w hown (by simp only [List.size_toArray]; omega) h1
  simp only [Nat.add_zero] at hst
  rw [hyl] at hst
  have hfc : (Builtin.firstCells ii.size m (.slice A sl sc)).run P w = .ok ys.toArray w := by
    cases A with
    | none =>
      have h0 : ¬ 0 < ys.length := fun h => by have := hsl.head h; cases this
      have hys : ys = [] := List.eq_nil_of_length_eq_zero (by omega)
      subst hys
      simp [Builtin.firstCells]
    | some q =>
      rcases Nat.eq_zero_or_pos ys.length with h0 | h0
      · have hys : ys = [] := List.eq_nil_of_length_eq_zero h0
        subst hys
        have hz : m * ii.size = 0 := by rw [← hyl]; rfl
        have hl : (loadCells q 0).run P w = .ok #[] w := by simpa using run_loadCells_list (P := P) w q [] (by simp)
        simp [Builtin.firstCells, hz, hl]
      · have hA := hsl.head h0
        injection hA with hA
        subst hA
        have hll := run_loadCells_list (P := P) w ⟨b', o', none⟩ ys (fun j v hv => by rw [Addr.add_lit]; exact hsl.cell j v hv)
        rw [hyl] at hll
        simp [Builtin.firstCells, hll]
  have hr : (Builtin.copy_ #[t, t] ty #[.slice (some ⟨b, o, none⟩) dl dc, .slice A sl sc]).run P w = .ok (goInt m) (w.setRow b (cs.take o ++ ys ++ cs.drop (o + m * ii.size)).toArray) := by
    simp only [Builtin.copy_, List.getElem?_toArray, List.getElem?_cons_zero, List.getElem?_cons_succ, Sem.run_bind, run_underlying hu, Result.andThen_ok, Builtin.lenOf, Sem.run_pure, sizeOf, typeInfo, run_program, hii, ← hm, hfc, hst]
  unfold Oper.wp execOp
  simp only [resolve, invoke, builtin, Sem.run_bind, Sem.run_pure, Result.andThen_ok, List.map_toArray, List.map_cons, List.map_nil, hx a hea rfl, hy a hea rfl, hr, Oper.upon_value]
  refine hK _ _ (kk _ _ (hea.put (blt_lt hd) true _ _ rfl) ?_)
  have := hw.set hi (cs.take o ++ ys ++ cs.drop (o + m * ii.size)).toArray rfl
  simpa using this

/-! literals -/
def Parts (l : Env) (n : Nat) (G : Bool) : List (Nat × Operand) → List (Nat × Value) → Prop
  | [], [] => True
  | (i, x) :: xs, (j, v) :: vs => i = j ∧ Look l n G x v ∧ Parts l n G xs vs
  | _, _ => False
theorem Parts.map {G : Bool} : ∀ {xs : List (Nat × Operand)} {vs : List (Nat × Value)}, Parts l n G xs vs → ∀ a, EnvOK l n a → G = true → (xs.map fun (i, x) => (i, a.eval x)) = vs
  | [], [], _, _, _, _ => rfl
  | (i, x) :: xs, (j, v) :: vs, h, a, ha, hG => by
    obtain ⟨rfl, h1, h2⟩ := h
    simp only [List.map_cons, h1 a ha hG, Parts.map h2 a ha hG]
  | [], _ :: _, h, _, _, _ => h.elim
  | _ :: _, [], h, _, _, _ => h.elim
theorem parts0 {G : Bool} : Parts l n G [] [] := trivial
theorem partsC {G : Bool} {i : Nat} {x : Operand} {v : Value} {xs : List (Nat × Operand)} {vs : List (Nat × Value)} (h : Look l n G x v) (h' : Parts l n G xs vs) : Parts l n G ((i, x) :: xs) ((i, v) :: vs) := ⟨rfl, h, h'⟩

theorem val_buildP {G : Bool} {dd : Option Tmp} {gd : Option (Nat × Bool)} {t : TypeId} {parts : List (Nat × Operand)} {ps : List (Nat × Value)} {cells : List Value} (hp : Parts l n G parts ps) (hb : P.built t ps = some cells.toArray) :
    Val P w0 n l bs G ⟨dd, .build t parts.toArray, ty, pos, af, gd⟩ (.agg cells.toArray) :=
  val_build (fun hG a ha => by simpa using hp.map a ha hG) hb

def bsl (P : Program) (t len : Nat) (ps : List (Nat × Value)) : Option (TypeId × List Value) :=
  match P.underlying t with
  | some (.slice e) => match P.info? e with
    | some i => if len * i.size > 16777216 then none else if len * i.size = 0 then (match Instr.fill (fun j => some (j * i.size, i.size)) #[] ps with | some c => some (e, c.toList) | none => none) else match i.zero with
      | some z => match Instr.fill (fun j => some (j * i.size, i.size)) ((Array.range (len * i.size)).map (z.cells[· % z.cells.size]!)) ps with
        | some c => some (e, c.toList)
        | none => none
      | none => none
    | none => none
  | _ => none

theorem run_bsl {t len : Nat} {ps : List (Nat × Value)} {e : TypeId} {cs : List Value} (h : bsl P t len ps = some (e, cs)) (w : World) :
    (Instr.buildSlice t len ps.toArray).run P w = .ok (.slice (some ⟨w.heap.size, 0, none⟩) len len) (w.alloc (.cells cs.toArray e)) := by
  unfold bsl at h
  split at h
  · rename_i e' hu
    split at h
    · rename_i i hi
      split at h
      · cases h
      · rename_i hbig
        have hbig' : ¬ (16777216 < len * i.size) := by omega
        split at h
        · rename_i h0
          split at h
          · rename_i c hc
            injection h with h
            injection h with h1 h2
            subst h1; subst h2
            simp [Instr.buildSlice, run_underlying hu, sizeOf, typeInfo, hi, h0, hc, newRow, Array.range_zero']
          · cases h
        · rename_i h0
          split at h
          · rename_i z hz
            split at h
            · rename_i c hc
              injection h with h
              injection h with h1 h2
              subst h1; subst h2
              simp [Instr.buildSlice, run_underlying hu, sizeOf, typeInfo, hi, h0, hbig', zeroValue, hz, hc, newRow]
            · cases h
          · cases h
    · cases h
  · cases h

theorem wl_bslice {t len : Nat} {parts : List (Nat × Operand)} {ps : List (Nat × Value)} {e : TypeId} {cs : List Value} (hp : Parts l n true parts ps) (hb : bsl P t len ps = some (e, cs)) (hd : Nat.blt d n = true)
    (kk : ∀ b, WL P ops w0 n rest ((d, (true, .slice (some ⟨b, 0, none⟩) len len)) :: l) (⟨b, true, e, cs⟩ :: bs) Q) :
    WL P ops w0 n (⟨some d, .buildSlice t len parts.toArray, ty, pos, af, none⟩ :: rest) l bs Q := fun a w hea hw => by
  refine wpList_plain rfl fun K hK => ?_
  have hr := run_bsl hb w
  have he : (parts.toArray.map fun (i, x) => (i, a.eval x)) = ps.toArray := by
    have := hp.map a hea rfl
    simp [this]
  unfold Oper.wp execOp
  simp only [he, Sem.run_bind, hr, Result.andThen_ok, Sem.run_pure, Oper.upon_value]
  refine hK _ _ (kk _ _ _ (hea.put (blt_lt hd) true _ _ rfl) ?_)
  simpa using hw.alloc e cs.toArray
end
end Go.Proofs.YtlejciainnlfeaaDoor
