/- Structs of numbers compared; bit operations, quotients and remainders; appends to an empty slice; a new base world after a call. Generic in the program; no statement is proved here. -/
import Derived.Test.YtlejciainnlfeaaDoorSxH
namespace Go.Proofs.YtlejciainnlfeaaDoor
open Go.RowKit

/-! structs of numbers, compared -/
def eqKs (f : TypeId → Option Nat) : List Field → Nat → Option Nat
  | [], off => some off
  | fd :: fs, off => if fd.offset = off ∧ fd.name ≠ "_" then match f fd.type with
    | some k => eqKs f fs (off + k)
    | none => none else none
def eqK (P : Program) : Nat → TypeId → Option Nat
  | 0, _ => none
  | D + 1, t => match P.underlying t with
    | some (.int _) => match P.info? t with
      | some i => if i.size = 1 then some 1 else none
      | none => none
    | some (.struct fs) => if P.stoodInHeld t = true then none else match P.info? t with
      | some i => if eqKs (eqK P D) fs.toList 0 = some i.size then some i.size else none
      | none => none
    | _ => none
def mkV (P : Program) (t : TypeId) (ns : List Int) : Value :=
  match P.underlying t with
  | some (.struct _) => .agg (ns.map (Value.int .i64)).toArray
  | _ => .int .i64 (ns.headD 0)

theorem eqK_part {P : Program} {D : Nat} {t : TypeId} {k : Nat} (h : eqK P (D + 1) t = some k) (ns : List Int) (off : Nat) (hl : off + k ≤ ns.length) (w : World) :
    (part t (ns.map (Value.int .i64)).toArray off).run P w = .ok (mkV P t ((ns.drop off).take k)) w := by
  unfold eqK at h
  split at h
  · rename_i q hu
    split at h
    · rename_i i hi
      split at h
      · injection h with h
        subst h
        have ho : off < ns.length := by omega
        have hh : ((ns.drop off).take 1).headD 0 = ns[off] := by rw [List.drop_eq_getElem_cons ho]; rfl
        simp [part, isAgg, run_underlying hu, mkV, hu, ho]
        simpa using hh.symm
      · cases h
    · cases h
  · rename_i fs hu
    split at h
    · cases h
    · split at h
      · rename_i i hi
        split at h
        · injection h with h
          subst h
          simp only [part, isAgg, Sem.run_bind, run_underlying hu, Result.andThen_ok, Sem.run_pure, if_true, run_sizeOf w hi, mkV, hu]
          have hco : P.cellsOf t = i.size := by simp [Program.cellsOf, hi]
          congr 2
          apply Array.ext'
          simp [List.extract, hco]
        · cases h
      · cases h
  · cases h

theorem take_eq_iff {ns ms : List Int} {off k : Nat} :
    (ns.drop off = ms.drop off) ↔ ((ns.drop off).take k = (ms.drop off).take k ∧ ns.drop (off + k) = ms.drop (off + k)) := by
  constructor
  · intro h
    refine ⟨by rw [h], ?_⟩
    rw [← List.drop_drop, ← List.drop_drop, h]
  · rintro ⟨h3, h4⟩
    rw [← List.take_append_drop k (ns.drop off), ← List.take_append_drop k (ms.drop off), List.drop_drop, List.drop_drop, h3, h4]

theorem eqKs_ge {f : TypeId → Option Nat} : ∀ {fs : List Field} {off k : Nat}, eqKs f fs off = some k → off ≤ k
  | [], off, k, h => by simp [eqKs] at h; omega
  | fd :: fs, off, k, h => by
    unfold eqKs at h
    split at h
    · split at h
      · have := eqKs_ge h; omega
      · cases h
    · cases h

theorem run_eqKs {P : Program} {D : Nat} (d : Nat) (IH : ∀ t k, eqK P (D + 1) t = some k → ∀ ns ms : List Int, ns.length = k → ms.length = k → ∀ w, (Op.equalIn d t (mkV P t ns) (mkV P t ms)).run P w = .ok (decide (ns = ms)) w) (ns ms : List Int) :
    ∀ (fs : List Field) (off k : Nat), eqKs (eqK P (D + 1)) fs off = some k → ns.length = k → ms.length = k → ∀ w,
    (Op.eqFields d (ns.map (Value.int .i64)).toArray (ms.map (Value.int .i64)).toArray fs).run P w = .ok (decide (ns.drop off = ms.drop off)) w
  | [], off, k, h, h1, h2, w => by
    simp only [eqKs, Option.some.injEq] at h
    subst h
    have e1 : ns.drop off = [] := List.drop_of_length_le (by omega)
    have e2 : ms.drop off = [] := List.drop_of_length_le (by omega)
    simp [Op.eqFields, e1, e2]
  | fd :: fs, off, k, h, h1, h2, w => by
    unfold eqKs at h
    split at h
    · rename_i hc
      obtain ⟨ho, hn⟩ := hc
      split at h
      · rename_i q hq
        have hle := eqKs_ge h
        have ih := run_eqKs d IH ns ms fs (off + q) k h h1 h2 w
        have i1 := IH fd.type q hq ((ns.drop off).take q) ((ms.drop off).take q) (by rw [List.length_take, List.length_drop]; omega) (by rw [List.length_take, List.length_drop]; omega) w
        have hiff := take_eq_iff (ns := ns) (ms := ms) (off := off) (k := q)
        simp only [Op.eqFields, hn, ne_eq, not_false_eq_true, if_true, Sem.run_bind, ho, eqK_part hq ns off (by omega) w, eqK_part hq ms off (by omega) w, Result.andThen_ok, i1]
        by_cases he : (ns.drop off).take q = (ms.drop off).take q
        · simp only [he, decide_true, Bool.not_true, Bool.false_eq_true, if_false, ih]
          congr 1
          rw [decide_eq_decide, hiff]
          exact ⟨fun h => ⟨he, h⟩, fun h => h.2⟩
        · simp only [he, decide_false, Bool.not_false, if_true, Sem.run_pure]
          congr 1
          exact (decide_eq_false (fun h => he (hiff.1 h).1)).symm
      · cases h
    · cases h

theorem run_eqK {P : Program} : ∀ (D : Nat) (t : TypeId) (k : Nat), eqK P D t = some k → ∀ ns ms : List Int, ns.length = k → ms.length = k → ∀ (d : Nat) (w : World), (Op.equalIn (d + D) t (mkV P t ns) (mkV P t ms)).run P w = .ok (decide (ns = ms)) w
  | 0, _, _, h, _, _, _, _, _, _ => by simp [eqK] at h
  | D + 1, t, k, h, ns, ms, h1, h2, d, w => by
    have h0 := h
    unfold eqK at h
    split at h
    · rename_i q hu
      split at h
      · split at h
        · injection h with h
          subst h
          match ns, ms, h1, h2 with
          | [a], [b], _, _ =>
            have e := run_equalIn_int (P := P) w (d + D) t .i64 q a b hu
            simp only [mkV, hu, List.headD_cons]
            rw [show d + (D + 1) = d + D + 1 by omega, e]
            congr 1
            simp [BEq.beq]
        · cases h
      · cases h
    · rename_i fs hu
      split at h
      · cases h
      · rename_i hst
        split at h
        · rename_i i hi
          split at h
          · rename_i hks
            injection h with h
            subst h
            have hfo : P.fieldsOf t = fs := by simp [Program.fieldsOf, hu]
            have hst' : P.stoodInHeld t = false := by simpa using hst
            have e := run_equalIn_agg (P := P) w (d + D) t (ns.map (Value.int .i64)).toArray (ms.map (Value.int .i64)).toArray (by rw [hfo]; exact hu) hst'
            simp only [mkV, hu]
            rw [show d + (D + 1) = d + D + 1 by omega, e, hfo]
            cases D with
            | zero =>
              have : ∀ (fs : List Field) (off k : Nat), eqKs (eqK P 0) fs off = some k → fs = [] := by
                intro fs off k hh
                cases fs with
                | nil => rfl
                | cons f fs => unfold eqKs at hh; split at hh <;> simp [eqK] at hh
              have hnil := this _ _ _ hks
              rw [hnil] at hks ⊢
              simp [eqKs] at hks
              have e1 : ns = [] := List.eq_nil_of_length_eq_zero (by omega)
              have e2 : ms = [] := List.eq_nil_of_length_eq_zero (by omega)
              simp [Op.eqFields, e1, e2]
            | succ D =>
              have := run_eqKs (P := P) (D := D) (d + (D + 1)) (fun t k ht ns ms h1 h2 w => run_eqK (D + 1) t k ht ns ms h1 h2 d w) ns ms fs.toList 0 i.size hks h1 h2 w
              simpa using this
          · cases h
        · cases h
    · cases h
theorem isS_mkV {P : Program} {t : TypeId} {fs : Array Field} (h : P.underlying t = some (.struct fs)) (ns : List Int) : mkV P t ns = .agg (ns.map (Value.int .i64)).toArray := by simp [mkV, h]
def isSt (P : Program) (t : TypeId) : Bool := match P.underlying t with | some (.struct _) => true | _ => false

section
variable {P : Program} {w0 : World} {n : Nat} {l : Env} {bs : List Blk} {G : Bool} {d : Option Tmp} {ty : TypeId} {pos : String} {af : Array Edge} {gd : Option (Nat × Bool)}
theorem run_eqS {t : TypeId} {k : Nat} (h : eqK P 4 t = some k) (hs : isSt P t = true) {ns ms : List Int} (h1 : ns.length = k) (h2 : ms.length = k) (w : World) :
    (Op.equalIn 10000 t (.agg (ns.map (Value.int .i64)).toArray) (.agg (ms.map (Value.int .i64)).toArray)).run P w = .ok (ns == ms) w := by
  have hu : ∃ fs, P.underlying t = some (.struct fs) := by
    unfold isSt at hs
    split at hs
    · exact ⟨_, ‹_›⟩
    · cases hs
  obtain ⟨fs, hu⟩ := hu
  have := run_eqK 4 t k h ns ms h1 h2 9996 w
  rw [isS_mkV hu, isS_mkV hu] at this
  rw [show (10000 : Nat) = 9996 + 4 from rfl, this]
  congr 1
  by_cases h : ns = ms <;> simp [h]
theorem val_eqlK {t y : TypeId} {x z : Operand} {k : Nat} {ns ms : List Int} (h : eqK P 4 t = some k) (hs : isSt P t = true) (hm : P.eqGuardType P.depth t = false) (hx : Look l n G x (.agg (ns.map (Value.int .i64)).toArray)) (hz : Look l n G z (.agg (ms.map (Value.int .i64)).toArray)) (h1 : ns.length = k) (h2 : ms.length = k) :
    Val P w0 n l bs G ⟨d, .binOp .eql t x z y, ty, pos, af, gd⟩ (.bool (ns == ms)) :=
  val_eqlS hx hz (fun w => by rw [run_eql_struct, run_eqS h hs h1 h2]; rfl) (fun w => run_eqGuard_agg w _ _ _ _ _ _ hm)
theorem val_neqK {t y : TypeId} {x z : Operand} {k : Nat} {ns ms : List Int} (h : eqK P 4 t = some k) (hs : isSt P t = true) (hm : P.eqGuardType P.depth t = false) (hx : Look l n G x (.agg (ns.map (Value.int .i64)).toArray)) (hz : Look l n G z (.agg (ms.map (Value.int .i64)).toArray)) (h1 : ns.length = k) (h2 : ms.length = k) :
    Val P w0 n l bs G ⟨d, .binOp .neq t x z y, ty, pos, af, gd⟩ (.bool (ns != ms)) :=
  val_neqS hx hz (fun w => by rw [run_neq_struct, run_eqS h hs h1 h2]; rfl) (fun w => run_eqGuard_agg w _ _ _ _ _ _ hm)

/-! parts of structs -/
theorem own_part {b o k : Nat} {nw : Bool} {t : TypeId} {cs : List Value} (hm : (⟨b, nw, t, cs⟩ : Blk) ∈ bs) : ∀ j u, ((cs.drop o).take k)[j]? = some u → CellIs w0 bs G b (o + j) u :=
  fun j u hu => cell_own hm fun _ => by
    have hj : j < k := by
      rcases Nat.lt_or_ge j k with h | h
      · exact h
      · rw [List.getElem?_eq_none (by simp; omega)] at hu; cases hu
    rwa [List.getElem?_take_of_lt hj, List.getElem?_drop] at hu
theorem val_loadP {t : TypeId} {x : Operand} {b o k : Nat} {nw : Bool} {u : TypeId} {cs : List Value} (hm : (⟨b, nw, u, cs⟩ : Blk) ∈ bs) (hx : Look l n G x (.pointer (some ⟨b, o, none⟩))) (ht : aggSz P t = some k) (hl : ((cs.drop o).take k).length = k) :
    Val P w0 n l bs G ⟨d, .load t x, ty, pos, af, gd⟩ (.agg ((cs.drop o).take k).toArray) := val_loadN ht hx hl (own_part hm)
theorem Sl.recP {α : Type} {enc : α → List Int} {K : Nat} {A : Option Addr} {b o : Nat} {rs : List α} (hs : Sl w0 A b o (flat enc rs)) (hb : bs.all (·.new) = true) (hk : ∀ r, (enc r).length = K) (dd : α) {i f k : Nat} (hi : G = true → i < rs.length) :
    ∀ j u, (((recV enc (nth dd rs i)).drop f).take k)[j]? = some u → CellIs w0 bs G b (o + i * K + f + j) u := fun j u hu => by
  have hj : j < k := by
    rcases Nat.lt_or_ge j k with h | h
    · exact h
    · rw [List.getElem?_eq_none (by simp; omega)] at hu; cases hu
  rw [List.getElem?_take_of_lt hj, List.getElem?_drop] at hu
  have := hs.rec_ (G := G) hb hk dd hi (f + j) u hu
  rwa [← Nat.add_assoc] at this
theorem own_recP {α : Type} {enc : α → List Int} {K : Nat} {b : Nat} {rs : List α} {nw : Bool} {t : TypeId} {sp : List Value} (hm : (⟨b, nw, t, flat enc rs ++ sp⟩ : Blk) ∈ bs) (hk : ∀ r, (enc r).length = K) (dd : α) {i f k : Nat} (hi : G = true → i < rs.length) :
    ∀ j u, (((recV enc (nth dd rs i)).drop f).take k)[j]? = some u → CellIs w0 bs G b (0 + i * K + f + j) u := fun j u hu => by
  have hj : j < k := by
    rcases Nat.lt_or_ge j k with h | h
    · exact h
    · rw [List.getElem?_eq_none (by simp; omega)] at hu; cases hu
  rw [List.getElem?_take_of_lt hj, List.getElem?_drop] at hu
  have := own_rec (G := G) (w0 := w0) hm hk dd hi (f + j) u hu
  rwa [← Nat.add_assoc] at this

/-! numbers -/
def band (a b : Int) : Int := IntKind.i64.wrap ((BitVec.ofInt 64 a &&& BitVec.ofInt 64 b).toNat : Nat)
def bxor (a b : Int) : Int := IntKind.i64.wrap ((BitVec.ofInt 64 a ^^^ BitVec.ofInt 64 b).toNat : Nat)
theorem band_255 (a : Int) : 0 ≤ band a 255 ∧ band a 255 ≤ 255 := by
  have h : (BitVec.ofInt 64 a &&& BitVec.ofInt 64 255).toNat ≤ 255 := by
    rw [BitVec.toNat_and]
    exact Nat.le_trans Nat.and_le_right (by decide)
  unfold band
  rw [wrap64_in' (by omega)]
  omega
theorem val_andI {t y : TypeId} {x z : Operand} {i j : Int} (hx : Look l n G x (.int .i64 i)) (hz : Look l n G z (.int .i64 j)) : Val P w0 n l bs G ⟨d, .binOp .and t x z y, ty, pos, af, gd⟩ (.int .i64 (band i j)) :=
  val_bin hx hz fun w => by simp only [binOp_and, Op.intBits, band, IntKind.bits, Sem.run_pure]; rfl
theorem val_xorI {t y : TypeId} {x z : Operand} {i j : Int} (hx : Look l n G x (.int .i64 i)) (hz : Look l n G z (.int .i64 j)) : Val P w0 n l bs G ⟨d, .binOp .xor t x z y, ty, pos, af, gd⟩ (.int .i64 (bxor i j)) :=
  val_bin hx hz fun w => by simp only [binOp_xor, Op.intBits, bxor, IntKind.bits, Sem.run_pure]; rfl
theorem val_rem {t y : TypeId} {x z : Operand} {k : IntKind} {i j : Int} (hx : Look l n G x (.int k i)) (hz : Look l n G z (.int k j)) (hj : G = true → j ≠ 0) : Val P w0 n l bs G ⟨d, .binOp .rem t x z y, ty, pos, af, gd⟩ (.int k (i.tmod j)) := fun a w ha hw hG =>
  (val_bin (d := d) (ty := ty) (pos := pos) (af := af) (gd := gd) (y := y) hx hz fun w => by simp [binOp_rem, Op.intDiv, hj hG]) a w ha hw hG
theorem val_quo {t y : TypeId} {x z : Operand} {k : IntKind} {i j : Int} (hx : Look l n G x (.int k i)) (hz : Look l n G z (.int k j)) (hj : G = true → j ≠ 0) : Val P w0 n l bs G ⟨d, .binOp .quo t x z y, ty, pos, af, gd⟩ (.int k (k.wrap (i.tdiv j))) := fun a w ha hw hG =>
  (val_bin (d := d) (ty := ty) (pos := pos) (af := af) (gd := gd) (y := y) hx hz fun w => by simp [binOp_quo, Op.intDiv, hj hG]) a w ha hw hG
theorem val_shr {t y : TypeId} {x z : Operand} {k k' : IntKind} {i j : Int} (hx : Look l n G x (.int k i)) (hz : Look l n G z (.int k' j)) (hj : G = true → 0 ≤ j) : Val P w0 n l bs G ⟨d, .binOp .shr t x z y, ty, pos, af, gd⟩ (.int k (i.fdiv (2 ^ min j.toNat k.bits))) := fun a w ha hw hG => by
  have h0 : ¬ j < 0 := by have := hj hG; omega
  have hr : (binOp .shr t (.int k i) (.int k' j)).run P w = .ok (.int k (i.fdiv (2 ^ min j.toNat k.bits))) w := by simp [binOp_shr, Op.shift, h0]
  simp [execOp, hx a ha hG, hz a ha hG, hr, eqGuard]
theorem val_neg {t : TypeId} {x : Operand} {k : IntKind} {i : Int} (hx : Look l n G x (.int k i)) : Val P w0 n l bs G ⟨d, .unOp .neg t x, ty, pos, af, gd⟩ (.int k (k.wrap (-i))) := fun a w ha _ hG => by
  simp [execOp, hx a ha hG, Op.unary, Op.intArith]

theorem val_nilCheck {x : Operand} {b o : Nat} (hx : Look l n G x (.pointer (some ⟨b, o, none⟩))) : Val P w0 n l bs G ⟨d, .nilCheck x, ty, pos, af, gd⟩ (.pointer (some ⟨b, o, none⟩)) := fun a w ha _ hG => by
  simp [execOp, hx a ha hG]
/-- a cell of old memory, beside old blocks that are written -/
theorem cell_ne {b o : Nat} {v : Value} (hbs : ∀ e ∈ bs, e.new = true ∨ e.b ≠ b) (hv : G = true → w0.cell? ⟨b, o, none⟩ = some v) : CellIs w0 bs G b o v :=
  fun w hw hG => by
    have h1 := hv hG
    have hlt : b < w0.heap.size := World.block_lt_of_cell? w0 _ h1
    rw [World.cell?_of_block (w := w0) (w' := w) (a := ⟨b, o, none⟩) (hw.keep b hlt fun e he heb => by
      rcases hbs e he with h2 | h2
      · have := hw.fresh e he h2; omega
      · exact h2 heb)]
    exact h1
theorem Sl.hpne {w w0 : World} {bs : List Blk} {A : Option Addr} {b o : Nat} {vs : List Value} (h : Sl w0 A b o vs) (hw : HP w0 bs w) (hbs : ∀ e ∈ bs, e.new = true ∨ e.b ≠ b) : Sl w A b o vs :=
  ⟨h.head, fun j u hu => cell_ne (G := true) hbs (fun _ => h.cell j u hu) w hw rfl⟩

theorem wc_region_amL {Q : Exit → Act → World → Prop} {id : Nat} {ops : List Oper} (L : Nat) (mk : List Bool) (m : Nat) (hm : P.follows .mixedOrders = true) (hsz : ops.length = m)
    (h : WA P ops.toArray w0 n (CL L w0 (maskB mk bs)) m (Array.replicate m false) l bs (Q .normal)) : WC P w0 n (.region id ops.toArray true) l bs Q := wc_region_a L (maskB mk bs) m hm hsz h

/-! a new base -/
theorem HP.join {w1 w2 : World} (h : HP w0 bs w1) (hb : bs.all (·.new) = true) (k : HP w1 [] w2) : HP w0 [] w2 := (h.drop hb).comp0 k
end
section
variable {P : Program} {ops : Array Oper} {w0 : World} {n : Nat} {l : Env} {bs : List Blk} {d : Tmp} {ty : TypeId} {pos : String} {af : Array Edge} {rest : List Oper} {Q : Exit → Act → World → Prop}
/-- a call whose end is the new base: what is known of our blocks goes -/
theorem wl_callr {X : Type} {good : X → Prop} {val : X → Value} {S : X → World → Prop} {f : FuncId} {args : List Operand} {atys : Array TypeId} {vals : List Value} (hd : Nat.blt d n = true) (hci : CI P f)
    (ha : Args l n true args vals) (hc : ∀ w, HP w0 bs w → Calls P f vals.toArray w fun e w' => ∃ x, good x ∧ e = .returned (val x) ∧ HP w [] w' ∧ S x w')
    (k : ∀ x w1, good x → HP w0 bs w1 → S x w1 → WL P ops w1 n rest ((d, (true, val x)) :: l) [] Q) : WL P ops w0 n (⟨some d, .call ⟨.value (.func f), args.toArray, atys⟩, ty, pos, af, none⟩ :: rest) l bs Q := fun a w hea hw => by
  refine wpList_step fun K hK => ?_
  rw [gd_none (ops := ops) (l := l) (n := n) a hea]
  simp only [if_true]
  unfold Oper.wp
  rw [run_call (vals := vals.toArray) hci a (by simp [ha.map a hea rfl]) w]
  refine (hc w hw).mono fun e w' ⟨x, hx, he, hh, hS⟩ => ?_
  subst he
  exact hK _ _ (k x w' hx (hw.comp0 hh) hS _ w' (hea.put (blt_lt hd) true _ _ rfl) (HP.refl w'))

/-- the block that an append to an empty slice leaves -/
theorem HP.app0 {w w' : World} {g : Nat} {e : TypeId} {cur : Array Value} (h : HP w0 bs w) (hg : w.grownBy w' none) (hc : w'.heap[g]? = some (.cells cur e (0, 0))) (hgb : g = w.heap.size) : HP w0 (⟨g, true, e, cur.toList⟩ :: bs) w' := by
  subst hgb
  refine ⟨hg.os.trans h.os, hg.tape.trans h.tape, hg.output.trans h.output, Nat.le_trans h.size hg.size, fun k hk hnk => ?_, fun e' he' => ?_, fun e' he' hn => ?_, ?_⟩
  · rw [hg.block k (by have := h.size; omega) (by simp)]
    exact h.keep k hk fun e' he' => hnk e' (List.mem_cons_of_mem _ he')
  · rcases List.mem_cons.1 he' with rfl | h1
    · simpa using hc
    · rw [hg.block e'.b (h.lt h1) (by simp)]
      exact h.own e' h1
  · rcases List.mem_cons.1 he' with rfl | h1
    · exact h.size
    · exact h.fresh e' h1 hn
  · simp only [List.map_cons, List.nodup_cons]
    refine ⟨fun hm => ?_, h.nodup⟩
    obtain ⟨e', he', heb⟩ := List.mem_map.1 hm
    have := h.lt he'
    omega
/-- append to the empty slice -/
theorem wl_append0 {t e sz by_ : Nat} {z : List Value} {x y : Operand} {ys : List Value} {A : Option Addr} {b' o' m c : Nat} (he : elSz P t = some (e, sz)) (hz : zcs P e = some z) (hzl : z.length = sz) (hsz : 0 < sz) (hby : elBytes P e = by_)
    (hx : Look l n true x (.slice none 0 0))
    (hy : Look l n true y (.slice A m c)) (hm : 0 < m) (hs : ∀ w, HP w0 bs w → Sl w A b' o' ys) (hyl : ys.length = m * sz) (h1 : ∀ u ∈ ys, u.oneCell' = true) (hb : m * by_ ≤ 140737488355328) (h63 : m ≤ 9223372036854775807) (hd : Nat.blt d n = true)
    (kk : ∀ g cap2 sp2, (ys ++ sp2).length = cap2 * sz → cap2 ≤ 9223372036854775807 → WL P ops w0 n rest ((d, (true, .slice (some ⟨g, 0, none⟩) m cap2)) :: l) (⟨g, true, e, ys ++ sp2⟩ :: bs) Q) :
    WL P ops w0 n (⟨some d, .call ⟨.builtin .append, #[x, y], #[t, t]⟩, ty, pos, af, none⟩ :: rest) l bs Q := fun a w hea hw => by
  refine wpList_plain rfl fun K hK => ?_
  obtain ⟨hu, ii, hii, rfl⟩ := elSz_of he
  obtain ⟨ii', v, hii', hv, rfl⟩ := zcs_of hz
  rw [hii] at hii'
  injection hii' with hii'
  subst hii'
  have hsl := hs w hw
  have hypos : 0 < ys.length := by rw [hyl]; exact Nat.mul_pos hm hsz
  have hA := hsl.head hypos
  subst hA
  have hown : w.ownsRow 0 e ii.size (.slice none 0 0) 0 [] := ⟨by simp, .inl ⟨rfl, rfl⟩⟩
  have hby' : ii.bytes = by_ := by rw [← hby]; simp [elBytes, hii]
  obtain ⟨v', w', hr, hown', hgrow, hnil, hat⟩ := run_append_own_at (P := P) w 0 t ty e ii v ii.size by_ hu hii hv rfl hby' (by simpa using hzl) hsz _ 0 [] hown ⟨b', o', none⟩ m c ys hyl
    (fun j u hu => by rw [Addr.add_lit]; exact hsl.cell j u hu) h1 (by simp only [maxLen]; omega) (by simpa using hb) (by omega)
  have hnn : v' ≠ .slice none 0 0 := fun e' => by have := (hnil.1 e').2; omega
  rcases hown'.2 with ⟨hv', _⟩ | ⟨g, cap2, cur, hv', hbg, hh, hle, hcap, hcs, htk⟩
  · exact absurd hv' hnn
  · subst hv'
    simp only [Nat.zero_add, List.nil_append] at htk hle
    unfold Oper.wp execOp
    simp only [resolve, invoke, builtin, Sem.run_bind, Sem.run_pure, Result.andThen_ok, List.map_toArray, List.map_cons, List.map_nil, hx a hea rfl, hy a hea rfl, hr, Oper.upon_value]
    have hcur : cur.toList = ys ++ cur.toList.drop (m * ii.size) := by rw [← htk]; simp
    have hgb : g = w.heap.size := by simpa [Value.ownBlock] using hat
    have hpp := hw.app0 (by simpa [Value.ownBlock] using hgrow) hh hgb
    rw [hcur] at hpp
    have := kk g cap2 (cur.toList.drop (m * ii.size)) (by rw [← hcur]; simpa using hcs) (by simp only [maxLen] at hcap; omega) _ _ (hea.put (blt_lt hd) true _ _ rfl) hpp
    simpa using hK _ _ (by simpa using this)
/-- .. a row of records -/
theorem wl_append0R {α : Type} {enc : α → List Int} {K : Nat} (hk : ∀ r, (enc r).length = K) (hK : 0 < K) {t e by_ : Nat} {z : List Value} {x y : Operand} {A : Option Addr} {b' o' c : Nat} (ys : List α) (he : elSz P t = some (e, K)) (hz : zcs P e = some z) (hzl : z.length = K) (hby : elBytes P e = by_)
    (hx : Look l n true x (.slice none 0 0)) (hy : Look l n true y (.slice A ys.length c)) (hm : 0 < ys.length) (hs : ∀ w, HP w0 bs w → Sl w A b' o' (flat enc ys)) (hb : ys.length * by_ ≤ 140737488355328) (h63 : ys.length ≤ 9223372036854775807) (hd : Nat.blt d n = true)
    (kk : ∀ g cap2 sp2, (flat enc ys ++ sp2).length = cap2 * K → cap2 ≤ 9223372036854775807 → WL P ops w0 n rest ((d, (true, .slice (some ⟨g, 0, none⟩) ys.length cap2)) :: l) (⟨g, true, e, flat enc ys ++ sp2⟩ :: bs) Q) :
    WL P ops w0 n (⟨some d, .call ⟨.builtin .append, #[x, y], #[t, t]⟩, ty, pos, af, none⟩ :: rest) l bs Q :=
  wl_append0 he hz hzl hK hby hx hy hm hs (flat_len hk ys) (fun _ h => flat_cell h) hb h63 hd kk
end

/-! a chain of operations, with operations that make new memory coming up anywhere beside it -/
section
variable {P : Program} {ops : Array Oper} {w0 : World} {n : Nat} {bsC : List Blk} {L : Nat} {R : Act → World → Prop}
def Chain (P : Program) (ops : Array Oper) (w0 : World) (n : Nat) (bsC : List Blk) : List (Bool × Nat × Nat) → Env → List Blk → (Env → List Blk → Prop) → Prop
  | [], l, bs, F => F l bs
  | (true, i, d) :: r, l, bs, F => ∃ op ty pos af gd G v, ops[i]? = some ⟨some d, op, ty, pos, af, gd⟩ ∧ GD ops l n ⟨some d, op, ty, pos, af, gd⟩ G ∧ Nat.blt d n = true ∧ Val P w0 n l bsC G ⟨some d, op, ty, pos, af, gd⟩ v ∧ Chain P ops w0 n bsC r ((d, (G, v)) :: l) bs F
  | (false, i, d) :: r, l, bs, F => ∃ S, OpS P ops w0 n l bs i d S ∧ ∀ v nb, S v nb → Chain P ops w0 n bsC r ((d, (true, v)) :: l) (nb ++ bs) F
theorem ch_q {l : Env} {bs : List Blk} {F : Env → List Blk → Prop} {r : List (Bool × Nat × Nat)} {i d : Nat} {op : Op} {ty : TypeId} {pos : String} {af : Array Edge} {gd : Option (Nat × Bool)} {G : Bool} {v : Value} (hi : ops[i]? = some ⟨some d, op, ty, pos, af, gd⟩)
    (hg : GD ops l n ⟨some d, op, ty, pos, af, gd⟩ G) (hd : Nat.blt d n = true) (hv : Val P w0 n l bsC G ⟨some d, op, ty, pos, af, gd⟩ v) (k : Chain P ops w0 n bsC r ((d, (G, v)) :: l) bs F) : Chain P ops w0 n bsC ((true, i, d) :: r) l bs F :=
  ⟨op, ty, pos, af, gd, G, v, hi, hg, hd, hv, k⟩
theorem ch_o {l : Env} {bs : List Blk} {F : Env → List Blk → Prop} {r : List (Bool × Nat × Nat)} {i d : Nat} {S : Value → List Blk → Prop} (h : OpS P ops w0 n l bs i d S) (k : ∀ v nb, S v nb → Chain P ops w0 n bsC r ((d, (true, v)) :: l) (nb ++ bs) F) : Chain P ops w0 n bsC ((false, i, d) :: r) l bs F := ⟨S, h, k⟩
theorem ch_nil {l : Env} {bs : List Blk} {F : Env → List Blk → Prop} (h : F l bs) : Chain P ops w0 n bsC [] l bs F := h

def chk (ops : Array Oper) (L : Nat) (fx : List Nat) : Nat → List (Bool × Nat × Nat) → List Bool → Array Bool → Array Bool → Bool
  | 0, cs, f, listed, fin => cs.isEmpty && f.all id && (listed.toList == fin.toList)
  | m + 1, cs, f, listed, fin => match cs with
    | (true, i, _) :: r => lastOK ops L i && Region.free .any ops listed i && (Region.ready .any ops listed).contains i && chk ops L fx m r f (listed.setIfInBounds i true) fin
    | (false, i, _) :: r => !(Region.ready .any ops listed).isEmpty && (Region.ready .any ops listed).all fun j => (j == i && chk ops L fx m r f (listed.setIfInBounds j true) fin) || (List.range fx.length).any fun k => fx[k]? == some j && f[k]? == some false && chk ops L fx m cs (f.set k true) (listed.setIfInBounds j true) fin
    | [] => !(Region.ready .any ops listed).isEmpty && (Region.ready .any ops listed).all fun j => (List.range fx.length).any fun k => fx[k]? == some j && f[k]? == some false && chk ops L fx m [] (f.set k true) (listed.setIfInBounds j true) fin

theorem itE_push (d : Nat) (e : Bool × Value) (l : Env) : ∀ (its : List Item), (∀ it ∈ its, d ≠ it.d) → ∀ t, look (itE its ((d, e) :: l)) t = look ((d, e) :: itE its l) t
  | [], _, _ => rfl
  | x :: r, h, t => by
    have ih := itE_push d e l r (fun it hi => h it (List.mem_cons_of_mem _ hi)) t
    have hx := h x List.mem_cons_self
    simp only [itE]
    cases hc : x.c with
    | none => simpa [hc] using ih
    | some p =>
      simp only [look] at ih ⊢
      rw [ih]
      by_cases h1 : d = t
      · subst h1
        have : Nat.beq x.d d = false := by
          cases hb : Nat.beq x.d d with
          | false => rfl
          | true => exact absurd (Nat.eq_of_beq_eq_true hb).symm hx
        simp [this]
      · have : Nat.beq d t = false := by
          cases hb : Nat.beq d t with
          | false => rfl
          | true => exact absurd (Nat.eq_of_beq_eq_true hb) h1
        simp [this]
theorem itB_push (nb bs : List Blk) : ∀ (its : List Item), (nb ++ itB its bs).Perm (itB its (nb ++ bs))
  | [] => List.Perm.refl _
  | x :: r => by
    have ih := itB_push nb bs r
    simp only [itB]
    cases hc : x.c with
    | none => simpa [hc] using ih
    | some p => exact (List.perm_append_comm_assoc nb p.2 _).trans (ih.append_left p.2)
theorem EnvOK.same {l l' : Env} {a : Act} (h : EnvOK l n a) (e : ∀ t, look l' t = look l t) : EnvOK l' n a := ⟨h.1, h.2.1, fun t g v hl => h.2.2 t g v (by rw [← e t]; exact hl)⟩

theorem wa_chain {fuel : Nat} {fin : Array Bool} (hs : Region.noSelect ops = true) : ∀ (m : Nat) (cs : List (Bool × Nat × Nat)) (its : List Item) (l : Env) (bs : List Blk) (listed : Array Bool),
    chk ops L (its.map (·.i)) m cs (its.map (·.c.isSome)) listed fin = true → (its.map (·.d)).Nodup → (∀ it ∈ its, look l it.d = none) → (∀ it ∈ its, ∀ c ∈ cs, c.2.2 ≠ it.d) → (∀ it ∈ its, ∀ l' bs', OpS P ops w0 n l' bs' it.i it.d it.S) →
    (∀ it ∈ its, ∀ p, it.c = some p → it.S p.1 p.2 ∧ p.2.all (·.new) = true) → (∀ w, HP w0 bs w → HP w0 bsC w) →
    Chain P ops w0 n bsC cs l bs (fun l' bs' => ∀ its' : List Item, its'.map (fun it => (it.i, it.d, it.S)) = its.map (fun it => (it.i, it.d, it.S)) → (∀ it ∈ its', ∃ p, it.c = some p ∧ it.S p.1 p.2) → WA P ops w0 n (CL L w0 bsC) fuel fin (itE its' l') (itB its' bs') R) →
    WA P ops w0 n (CL L w0 bsC) (fuel + m) listed (itE its l) (itB its bs) R := by
  intro m
  induction m with
  | zero =>
    intro cs its l bs listed hg _ _ _ _ hS _ hc
    simp only [chk, Bool.and_eq_true, beq_iff_eq, List.isEmpty_iff] at hg
    obtain ⟨⟨h0, h1⟩, h2⟩ := hg
    subst h0
    have : listed = fin := by cases listed; cases fin; simpa using h2
    subst this
    refine hc its rfl fun it hi => ?_
    have h3 := List.all_eq_true.1 h1 _ (List.mem_map_of_mem hi)
    obtain ⟨p, hp⟩ := Option.isSome_iff_exists.1 (by simpa using h3)
    exact ⟨p, hp, (hS it hi p hp).1⟩
  | succ m ih =>
    intro cs its l bs listed hg hn hf hcd ho hS hC hc
    have hbase : ∀ a, EnvOK (itE its l) n a → EnvOK l n a := fun a ha => itE_base hf ha
    have hdrop : ∀ w, HP w0 (itB its bs) w → HP w0 bs w := fun w hw => itB_drop (fun it hi p hp => (hS it hi p hp).2) hw
    -- a floating operation goes on
    have hflt : ∀ (cs' : List (Bool × Nat × Nat)) j k, (∀ it ∈ its, ∀ c ∈ cs', c.2.2 ≠ it.d) → (its.map (·.i))[k]? = some j → (its.map (·.c.isSome))[k]? = some false → chk ops L (its.map (·.i)) m cs' ((its.map (·.c.isSome)).set k true) (listed.setIfInBounds j true) fin = true →
        Chain P ops w0 n bsC cs' l bs (fun l' bs' => ∀ its' : List Item, its'.map (fun it => (it.i, it.d, it.S)) = its.map (fun it => (it.i, it.d, it.S)) → (∀ it ∈ its', ∃ p, it.c = some p ∧ it.S p.1 p.2) → WA P ops w0 n (CL L w0 bsC) fuel fin (itE its' l') (itB its' bs') R) →
        ∀ a w, EnvOK (itE its l) n a → HP w0 (itB its bs) w → wpOp P ops NoExit j (fun a' w' => CL L w0 bsC j w' ∧ wpAnyN P ops (CL L w0 bsC) R (fuel + m) (listed.setIfInBounds j true) a' w') a w := by
      intro cs' j k hcd' hk1 hk2 hk3 hc' a w ha hw
      simp only [List.getElem?_map, Option.map_eq_some_iff] at hk1 hk2
      obtain ⟨it, hit, rfl⟩ := hk1
      obtain ⟨it2, hit2, hc2⟩ := hk2
      have : it2 = it := by rw [hit] at hit2; injection hit2 with h; exact h.symm
      subst this
      have hcn : it2.c = none := by simpa using hc2
      have hmem := List.mem_of_getElem? hit
      obtain ⟨o, hoi, hop⟩ := ho it2 hmem l bs
      have hfill : ∀ v nb, it2.S v nb → nb.all (·.new) = true → WA P ops w0 n (CL L w0 bsC) (fuel + m) (listed.setIfInBounds it2.i true) ((it2.d, (true, v)) :: itE its l) (nb ++ itB its bs) R := by
        intro v nb hSv hnb a' w' ha' hw'
        have hset : ∀ x ∈ its.set k (it2.fill v nb), x ∈ its ∨ x = it2.fill v nb := fun x hx => List.mem_or_eq_of_mem_set hx
        refine ih cs' (its.set k (it2.fill v nb)) l bs (listed.setIfInBounds it2.i true) ?_ ?_ ?_ ?_ ?_ ?_ hC ?_ a' w' ?_ (hw'.perm (itB_fill bs its k it2 v nb hit hcn))
        · rw [List.map_set, List.map_set]
          have e1 : (its.map (·.i)).set k (it2.fill v nb).i = its.map (·.i) := set_same (by simp [hit, Item.fill])
          rw [e1]
          exact hk3
        · rw [List.map_set]
          have e1 : (its.map (·.d)).set k (it2.fill v nb).d = its.map (·.d) := set_same (by simp [hit, Item.fill])
          rw [e1]
          exact hn
        · intro x hx
          rcases hset x hx with h | rfl
          · exact hf x h
          · exact hf it2 hmem
        · intro x hx
          rcases hset x hx with h | rfl
          · exact hcd' x h
          · exact hcd' it2 hmem
        · intro x hx
          rcases hset x hx with h | rfl
          · exact ho x h
          · exact ho it2 hmem
        · intro x hx p hp
          rcases hset x hx with h | rfl
          · exact hS x h p hp
          · have : p = (v, nb) := by simpa [Item.fill] using hp.symm
            subst this
            exact ⟨hSv, hnb⟩
        · have e2 : (its.set k (it2.fill v nb)).map (fun it => (it.i, it.d, it.S)) = its.map (fun it => (it.i, it.d, it.S)) := by
            rw [List.map_set]
            exact set_same (by simp [hit, Item.fill])
          rw [e2]
          exact hc'
        · exact ⟨ha'.1, ha'.2.1, fun t g u hl => ha'.2.2 t g u (by rw [← itE_fill l its k it2 v nb hit hcn hn t]; exact hl)⟩
      have h1 := hop (itE its l) (itB its bs) hbase hdrop (QN (CL L w0 bsC it2.i) (wpAnyN P ops (CL L w0 bsC) R (fuel + m) (listed.setIfInBounds it2.i true)))
        (fun v nb hSv hnb => px_qn (fun w hw => hC w (hdrop w (hw.front hnb))) (hfill v nb hSv hnb)) a w ha hw
      unfold wpOp
      simp only [hoi]
      unfold wpList at h1
      split
      · rename_i hw1
        simp only [hw1, if_true] at h1
        rcases h1 with h1 | ⟨_, h1⟩
        · exact .inl (qn_no h1)
        · obtain ⟨_, _, hq⟩ := h1
          exact hq.elim
      · rename_i hw1
        simp only [hw1] at h1
        exact h1
    match cs, hg, hcd, hc with
    | (true, i, d) :: r, hg, hcd, hc =>
      simp only [chk, Bool.and_eq_true] at hg
      obtain ⟨⟨⟨hL, hfr⟩, hrd⟩, hg⟩ := hg
      obtain ⟨op, ty, pos, af, gd, G, v, hi, hgd, hdn, hv, hk⟩ := hc
      refine wa_take (hb := fun w hw => hC w (hdrop w hw)) i hi hL hs hfr hrd (fun a ha => hgd a (hbase a ha)) hdn (fun a w ha => hv a w (hbase a ha)) ?_
      intro a w ha hw
      refine ih r its ((d, (G, v)) :: l) bs (listed.setIfInBounds i true) hg hn (fun it hit => ?_) (fun it hit c hc' => hcd it hit c (List.mem_cons_of_mem _ hc')) ho hS hC hk a w (ha.same fun t => itE_push d (G, v) l its (fun it hit => hcd it hit _ List.mem_cons_self) t) hw
      have hne := hcd it hit (true, i, d) List.mem_cons_self
      simp only [look]
      cases hb : Nat.beq d it.d with
      | false => simpa using hf it hit
      | true => exact absurd (Nat.eq_of_beq_eq_true hb) hne
    | (false, i, d) :: r, hg, hcd, hc =>
      intro a w ha hw
      simp only [chk, Bool.and_eq_true, Bool.not_eq_true'] at hg
      obtain ⟨hr, hg⟩ := hg
      refine ⟨fun h0 => by rw [h0] at hr; simp at hr, fun j hj => ?_⟩
      have h1 := List.all_eq_true.1 hg j hj
      rw [Bool.or_eq_true] at h1
      rcases h1 with h1 | h1
      · rw [Bool.and_eq_true, beq_iff_eq] at h1
        obtain ⟨rfl, h1⟩ := h1
        obtain ⟨S, ⟨o, hoi, hop⟩, hk⟩ := hc
        have hgo : ∀ v nb, S v nb → nb.all (·.new) = true → WA P ops w0 n (CL L w0 bsC) (fuel + m) (listed.setIfInBounds j true) ((d, (true, v)) :: itE its l) (nb ++ itB its bs) R := by
          intro v nb hSv hnb a' w' ha' hw'
          refine ih r its ((d, (true, v)) :: l) (nb ++ bs) (listed.setIfInBounds j true) h1 hn (fun it hit => ?_) (fun it hit c hc' => hcd it hit c (List.mem_cons_of_mem _ hc')) ho hS (fun w hw => hC w (hw.front hnb)) (hk v nb hSv) a' w'
            (ha'.same fun t => itE_push d (true, v) l its (fun it hit => hcd it hit _ List.mem_cons_self) t) (hw'.perm (itB_push nb bs its))
          have hne := hcd it hit (false, j, d) List.mem_cons_self
          simp only [look]
          cases hb : Nat.beq d it.d with
          | false => simpa using hf it hit
          | true => exact absurd (Nat.eq_of_beq_eq_true hb) hne
        have h2 := hop (itE its l) (itB its bs) hbase hdrop (QN (CL L w0 bsC j) (wpAnyN P ops (CL L w0 bsC) R (fuel + m) (listed.setIfInBounds j true)))
          (fun v nb hSv hnb => px_qn (fun w hw => hC w (hdrop w (hw.front hnb))) (hgo v nb hSv hnb)) a w ha hw
        unfold wpOp
        simp only [hoi]
        unfold wpList at h2
        split
        · rename_i hw1
          simp only [hw1, if_true] at h2
          rcases h2 with h2 | ⟨_, h2⟩
          · exact .inl (qn_no h2)
          · obtain ⟨_, _, hq⟩ := h2
            exact hq.elim
        · rename_i hw1
          simp only [hw1] at h2
          exact h2
      · obtain ⟨k, _, h2⟩ := List.any_eq_true.1 h1
        simp only [Bool.and_eq_true, beq_iff_eq] at h2
        exact hflt _ j k hcd h2.1.1 h2.1.2 h2.2 hc a w ha hw
    | [], hg, hcd, hc =>
      intro a w ha hw
      simp only [chk, Bool.and_eq_true, Bool.not_eq_true'] at hg
      obtain ⟨hr, hg⟩ := hg
      refine ⟨fun h0 => by rw [h0] at hr; simp at hr, fun j hj => ?_⟩
      have h1 := List.all_eq_true.1 hg j hj
      obtain ⟨k, _, h2⟩ := List.any_eq_true.1 h1
      simp only [Bool.and_eq_true, beq_iff_eq] at h2
      exact hflt [] j k hcd h2.1.1 h2.1.2 h2.2 hc a w ha hw
theorem wa_chn {fuel : Nat} {fin listed : Array Bool} {l : Env} {bs : List Blk} (cs : List (Bool × Nat × Nat)) (fs : List (Nat × Nat × (Value → List Blk → Prop))) (m : Nat) (hC : ∀ w, HP w0 bs w → HP w0 bsC w) (hs : Region.noSelect ops = true)
    (hg : chk ops L (fs.map (·.1)) m cs (fs.map fun _ => false) listed fin = true) (hn : (fs.map (·.2.1)).Nodup) (hf : ∀ it ∈ fs, look l it.2.1 = none) (hcd : ∀ it ∈ fs, ∀ c ∈ cs, c.2.2 ≠ it.2.1)
    (ho : ∀ it ∈ fs, ∀ l' bs', OpS P ops w0 n l' bs' it.1 it.2.1 it.2.2) (k : Chain P ops w0 n bsC cs l bs fun l' bs' => Kall fs l' bs' fun l' bs' => WA P ops w0 n (CL L w0 bsC) fuel fin l' bs' R) :
    WA P ops w0 n (CL L w0 bsC) (fuel + m) listed l bs R := by
  have e0 : ∀ (l : Env) (its : List (Nat × Nat × (Value → List Blk → Prop))), itE (its.map fun it => (⟨it.1, it.2.1, it.2.2, none⟩ : Item)) l = l := by
    intro l its; induction its with
    | nil => rfl
    | cons x r ih => simpa [itE] using ih
  have e1 : ∀ (bs : List Blk) (its : List (Nat × Nat × (Value → List Blk → Prop))), itB (its.map fun it => (⟨it.1, it.2.1, it.2.2, none⟩ : Item)) bs = bs := by
    intro bs its; induction its with
    | nil => rfl
    | cons x r ih => simpa [itB] using ih
  have hmono : ∀ (cs : List (Bool × Nat × Nat)) (l : Env) (bs : List Blk) (F F' : Env → List Blk → Prop), (∀ l bs, F l bs → F' l bs) → Chain P ops w0 n bsC cs l bs F → Chain P ops w0 n bsC cs l bs F' := by
    intro cs
    induction cs with
    | nil => intro l bs F F' h hc; exact h l bs hc
    | cons c r ih =>
      intro l bs F F' h hc
      match c, hc with
      | (true, i, d), hc => obtain ⟨op, ty, pos, af, gd, G, v, h1, h2, h3, h4, h5⟩ := hc; exact ⟨op, ty, pos, af, gd, G, v, h1, h2, h3, h4, ih _ _ _ _ h h5⟩
      | (false, i, d), hc => obtain ⟨S, h1, h2⟩ := hc; exact ⟨S, h1, fun v nb hS => ih _ _ _ _ h (h2 v nb hS)⟩
  have h := wa_chain (P := P) (ops := ops) (w0 := w0) (n := n) (L := L) (bsC := bsC) (R := R) (fuel := fuel) (fin := fin) hs m cs (fs.map fun it => (⟨it.1, it.2.1, it.2.2, none⟩ : Item)) l bs listed
    (by simpa [Function.comp_def] using hg) (by simpa [Function.comp_def] using hn)
    (by intro x hx; obtain ⟨y, hy, rfl⟩ := List.mem_map.1 hx; exact hf y hy) (by intro x hx; obtain ⟨y, hy, rfl⟩ := List.mem_map.1 hx; exact hcd y hy) (by intro x hx; obtain ⟨y, hy, rfl⟩ := List.mem_map.1 hx; exact ho y hy)
    (by intro x hx p hp; obtain ⟨y, hy, rfl⟩ := List.mem_map.1 hx; cases hp) hC
    (hmono cs l bs _ _ (fun l' bs' hk its' hsh hall => kall_spec its' _ (by rw [hsh]; simpa [Function.comp_def] using hk) hall) k)
  rwa [e0, e1] at h
def setAll (listed : Array Bool) (is : List Nat) : Array Bool := is.foldl (fun a i => a.setIfInBounds i true) listed
def dsts (cs : List (Bool × Nat × Nat)) (d : Nat) : Bool := cs.all fun c => !Nat.beq c.2.2 d
theorem dsts_ne {cs : List (Bool × Nat × Nat)} {d : Nat} (h : dsts cs d = true) : ∀ c ∈ cs, c.2.2 ≠ d := fun c hc e => by
  have := List.all_eq_true.1 h c hc
  rw [e, Nat.beq_refl] at this
  cases this
theorem wa_chn1 {fuel : Nat} {listed : Array Bool} {l : Env} {bs : List Blk} {S1 : Value → List Blk → Prop} (cs : List (Bool × Nat × Nat)) (i1 d1 m : Nat) (is : List Nat) (hC : ∀ w, HP w0 bs w → HP w0 bsC w) (hs : Region.noSelect ops = true)
    (hg : chk ops L [i1] m cs [false] listed (setAll listed is) = true) (hf1 : look l d1 = none) (hc1 : dsts cs d1 = true) (o1 : ∀ l' bs', OpS P ops w0 n l' bs' i1 d1 S1)
    (k : Chain P ops w0 n bsC cs l bs fun l' bs' => ∀ v1 nb1, S1 v1 nb1 → WA P ops w0 n (CL L w0 bsC) fuel (setAll listed is) ((d1, (true, v1)) :: l') (nb1 ++ bs') R) : WA P ops w0 n (CL L w0 bsC) (fuel + m) listed l bs R :=
  wa_chn cs [(i1, d1, S1)] m hC hs hg (by simp) (by simp [hf1]) (by simpa using dsts_ne hc1) (by simpa using o1) k
theorem wa_chn2 {fuel : Nat} {listed : Array Bool} {l : Env} {bs : List Blk} {S1 S2 : Value → List Blk → Prop} (cs : List (Bool × Nat × Nat)) (i1 d1 i2 d2 m : Nat) (is : List Nat) (hC : ∀ w, HP w0 bs w → HP w0 bsC w) (hs : Region.noSelect ops = true)
    (hg : chk ops L [i2, i1] m cs [false, false] listed (setAll listed is) = true) (hn : Nat.beq d2 d1 = false) (hf1 : look l d1 = none) (hf2 : look l d2 = none) (hc1 : dsts cs d1 = true) (hc2 : dsts cs d2 = true) (o1 : ∀ l' bs', OpS P ops w0 n l' bs' i1 d1 S1) (o2 : ∀ l' bs', OpS P ops w0 n l' bs' i2 d2 S2)
    (k : Chain P ops w0 n bsC cs l bs fun l' bs' => ∀ v1 nb1, S1 v1 nb1 → ∀ v2 nb2, S2 v2 nb2 → WA P ops w0 n (CL L w0 bsC) fuel (setAll listed is) ((d2, (true, v2)) :: (d1, (true, v1)) :: l') (nb2 ++ (nb1 ++ bs')) R) : WA P ops w0 n (CL L w0 bsC) (fuel + m) listed l bs R :=
  wa_chn cs [(i2, d2, S2), (i1, d1, S1)] m hC hs hg (by simp; exact fun e => by rw [e, Nat.beq_refl] at hn; cases hn) (by simp [hf1, hf2]) (by
    intro it hit c hc
    rcases List.mem_cons.1 hit with rfl | hit
    · exact dsts_ne hc2 c hc
    · have := List.mem_singleton.1 hit
      subst this
      exact dsts_ne hc1 c hc) (by
    intro it hit
    rcases List.mem_cons.1 hit with rfl | hit
    · exact o2
    · have := List.mem_singleton.1 hit
      subst this
      exact o1) k
end

/-! a row that may be empty and without a block of its own; then another block stands in for it -/
def RowG {α : Type} (enc : α → List Int) (K : Nat) (e : TypeId) (xs : List α) (A : Option Addr) (c g : Nat) (T : TypeId) (cs : List Value) : Prop :=
  (A = some ⟨g, 0, none⟩ ∧ T = e ∧ ∃ sp, cs = flat enc xs ++ sp ∧ cs.length = c * K ∧ c ≤ 9223372036854775807) ∨ (A = none ∧ c = 0 ∧ xs = [])
section
variable {α : Type} {enc : α → List Int} {K : Nat} {e : TypeId} {xs : List α} {A : Option Addr} {c g : Nat} {T : TypeId} {cs : List Value}
theorem RowG.own {sp : List Value} (h : (flat enc xs ++ sp).length = c * K) (hc : c ≤ 9223372036854775807) : RowG enc K e xs (some ⟨g, 0, none⟩) c g e (flat enc xs ++ sp) := .inl ⟨rfl, rfl, sp, rfl, h, hc⟩
theorem RowG.nil : RowG enc K e ([] : List α) none 0 g T cs := .inr ⟨rfl, rfl, rfl⟩
theorem RowG.sl {w0 w : World} {bs : List Blk} {nw : Bool} (h : RowG enc K e xs A c g T cs) (hw : HP w0 bs w) (hm : (⟨g, nw, T, cs⟩ : Blk) ∈ bs) : Sl w A g 0 (flat enc xs) := by
  rcases h with ⟨rfl, rfl, sp, rfl, _, _⟩ | ⟨rfl, rfl, rfl⟩
  · exact Sl.own hw hm
  · exact Sl.nil
theorem RowG.cap (hk : ∀ r, (enc r).length = K) (hK : 0 < K) (h : RowG enc K e xs A c g T cs) : xs.length ≤ c := by
  rcases h with ⟨_, _, sp, rfl, hl, _⟩ | ⟨_, _, rfl⟩
  · exact cap_le hk hK hl
  · simp
theorem HP.erase {w0 w : World} {bs : List Blk} {f e : Blk} {i : Nat} (h : HP w0 (f :: bs) w) (hi : bs[i]? = some e) (hn : e.new = true) : HP w0 (f :: bs.eraseIdx i) w := by
  have hsub : (f :: bs.eraseIdx i).Sublist (f :: bs) := (List.eraseIdx_sublist bs i).cons_cons f
  refine h.part (fun x hx => hsub.subset hx) (fun x hx => ?_) ((hsub.map (·.b)).nodup h.nodup)
  rcases List.mem_cons.1 hx with rfl | hx
  · exact .inr List.mem_cons_self
  · obtain ⟨j, hj⟩ := List.getElem?_of_mem hx
    by_cases hji : j = i
    · subst hji; rw [hi] at hj; injection hj with hj; subst hj; exact .inl hn
    · right
      refine List.mem_cons_of_mem _ ?_
      rcases Nat.lt_or_gt_of_ne hji with h1 | h1
      · exact List.mem_of_getElem? (i := j) (by rw [List.getElem?_eraseIdx, if_pos h1]; exact hj)
      · exact List.mem_of_getElem? (i := j - 1) (by rw [List.getElem?_eraseIdx, if_neg (by omega), show j - 1 + 1 = j by omega]; exact hj)
theorem wl_appendG {P : Program} {Q : Exit → Act → World → Prop} {w0 : World} {ops : Array Oper} {n : Nat} {rest : List Oper} {l : Env} {bs : List Blk} {d : Tmp} {ty : TypeId} {pos : String} {af : Array Edge}
    (hk : ∀ r, (enc r).length = K) (hK : 0 < K) {t by_ : Nat} {z : List Value} {x y : Operand} {B : Option Addr} {b' o' c' : Nat} (ys : List α) (i : Nat) (he : elSz P t = some (e, K)) (hz : zcs P e = some z) (hzl : z.length = K) (hby : elBytes P e = by_)
    (hx : Look l n true x (.slice A xs.length c)) (hR : RowG enc K e xs A c g T cs) (hi : bs[i]? = some ⟨g, true, T, cs⟩)
    (hy : Look l n true y (.slice B ys.length c')) (hm : 0 < ys.length) (hs : ∀ w, HP w0 bs w → Sl w B b' o' (flat enc ys)) (hb : (xs.length + ys.length) * by_ ≤ 140737488355328) (h63 : xs.length + ys.length ≤ 9223372036854775807) (hd : Nat.blt d n = true)
    (kk : ∀ g cap2 sp2, (flat enc (xs ++ ys) ++ sp2).length = cap2 * K → cap2 ≤ 9223372036854775807 → WL P ops w0 n rest ((d, (true, .slice (some ⟨g, 0, none⟩) (xs ++ ys).length cap2)) :: l) (⟨g, true, e, flat enc (xs ++ ys) ++ sp2⟩ :: bs.eraseIdx i) Q) :
    WL P ops w0 n (⟨some d, .call ⟨.builtin .append, #[x, y], #[t, t]⟩, ty, pos, af, none⟩ :: rest) l bs Q := by
  rcases hR with ⟨rfl, rfl, sp, rfl, hl, hc⟩ | ⟨rfl, rfl, rfl⟩
  · exact wl_appendR hk hK xs ys i he hz hzl hby hx hi hl hc hy hs hb h63 hd kk
  · refine wl_append0R hk hK ys he hz hzl hby hx hy hm hs (by simpa using hb) (by simpa using h63) hd fun g' cap2 sp2 h1 h2 => ?_
    have := kk g' cap2 sp2 h1 h2
    exact fun a w ha hw => this a w ha (hw.erase hi rfl)
end

section
variable {P : Program} {ops : Array Oper} {w0 : World} {n : Nat} {l : Env} {bs : List Blk} {C : Nat → World → Prop} {R : Act → World → Prop}
theorem wa_one' {fuel : Nat} {listed : Array Bool} {o : Oper} (i : Nat) (hi : ops[i]? = some o) (h : WL P ops w0 n [o] l bs (QN (C i) (wpAnyN P ops C R fuel (listed.setIfInBounds i true)))) {a : Act} {w : World} (ha : EnvOK l n a) (hw : HP w0 bs w) :
    wpOp P ops NoExit i (fun a' w' => C i w' ∧ wpAnyN P ops C R fuel (listed.setIfInBounds i true) a' w') a w := by
  have h1 := h a w ha hw
  unfold wpOp
  simp only [hi]
  unfold wpList at h1
  split
  · rename_i hw1
    simp only [hw1, if_true] at h1
    rcases h1 with h1 | ⟨_, h1⟩
    · exact .inl (qn_no h1)
    · obtain ⟨_, _, hq⟩ := h1
      exact hq.elim
  · rename_i hw1
    simp only [hw1] at h1
    exact h1
/-- three operations are ready -/
theorem wa_three {fuel : Nat} {listed : Array Bool} {o1 o2 o3 : Oper} (i1 i2 i3 : Nat) (hr : Region.ready .any ops listed = [i1, i2, i3]) (hi1 : ops[i1]? = some o1) (hi2 : ops[i2]? = some o2) (hi3 : ops[i3]? = some o3)
    (h1 : WL P ops w0 n [o1] l bs (QN (C i1) (wpAnyN P ops C R fuel (listed.setIfInBounds i1 true)))) (h2 : WL P ops w0 n [o2] l bs (QN (C i2) (wpAnyN P ops C R fuel (listed.setIfInBounds i2 true)))) (h3 : WL P ops w0 n [o3] l bs (QN (C i3) (wpAnyN P ops C R fuel (listed.setIfInBounds i3 true)))) :
    WA P ops w0 n C (fuel + 1) listed l bs R := fun a w ha hw => by
  refine ⟨fun h0 => (by rw [hr] at h0; cases h0), fun j hj => ?_⟩
  rw [hr] at hj
  rcases List.mem_cons.1 hj with rfl | hj
  · exact wa_one' _ hi1 h1 ha hw
  · rcases List.mem_cons.1 hj with rfl | hj
    · exact wa_one' _ hi2 h2 ha hw
    · have : j = i3 := by simpa using hj
      subst this
      exact wa_one' _ hi3 h3 ha hw
end

section
variable {P : Program} {ops : Array Oper} {w0 : World} {n : Nat} {l : Env} {bs : List Blk} {d : Tmp} {ty : TypeId} {pos : String} {af : Array Edge} {op : Op} {rest : List Oper} {Q : Exit → Act → World → Prop} {Qa : Act → Prop}
/-- a number whose reckoning is kept out of sight -/
theorem wl_vg {k : IntKind} {i : Int} (hd : Nat.blt d n = true) (hv : Val P w0 n l bs true ⟨some d, op, ty, pos, af, none⟩ (.int k i)) (h : ∀ r : Int, r = i → WL P ops w0 n rest ((d, (true, .int k r)) :: l) bs Q) :
    WL P ops w0 n (⟨some d, op, ty, pos, af, none⟩ :: rest) l bs Q := wl_v hd hv (h i rfl)
theorem wq_vg {k : IntKind} {i : Int} (hd : Nat.blt d n = true) (hv : Val P w0 n l bs true ⟨some d, op, ty, pos, af, none⟩ (.int k i)) (h : ∀ r : Int, r = i → WQ P ops w0 n bs rest ((d, (true, .int k r)) :: l) Qa) :
    WQ P ops w0 n bs (⟨some d, op, ty, pos, af, none⟩ :: rest) l Qa := wq_v hd hv (h i rfl)
end

/-! regions in which calls write a block that was there before: its cells are any of a family -/
section
variable {P : Program} {ops : Array Oper} {w0 : World} {n : Nat} {l : Env} {bs : List Blk} {R : Act → World → Prop} {Q : Exit → Act → World → Prop} {Y : Type} {bsF : Y → List Blk}
def CF (L : Nat) (w0 : World) {Y : Type} (bsF : Y → List Blk) (i : Nat) (w : World) : Prop := i = L ∨ ∃ y, HP w0 (bsF y) w
theorem wc_region_aF {id : Nat} {ops : List Oper} (L k : Nat) (blk : Y → Blk) (mk : List Bool) (m : Nat) (hm : P.follows .mixedOrders = true) (hsz : ops.length = m)
    (h : WA P ops.toArray w0 n (CF L w0 fun y => maskB mk (bs.set k (blk y))) m (Array.replicate m false) l bs (Q .normal)) : WC P w0 n (.region id ops.toArray true) l bs Q := fun a w ha hw =>
  wp_region_any hm (by
    have := wpAny_of_N (Q := Q) (fun _ _ h => h) _ _ _ _ (h a { w with drawn := w.drawn + 1 } ha hw.drew')
    simpa [hsz] using this)
theorem wa_takeF {fuel L : Nat} {listed : Array Bool} {G : Bool} {d : Tmp} {op : Op} {ty : TypeId} {pos : String} {af : Array Edge} {gd : Option (Nat × Bool)} {v : Value} (i : Nat) (hi : ops[i]? = some ⟨some d, op, ty, pos, af, gd⟩)
    (hL : lastOK ops L i = true) (hs : Region.noSelect ops = true) (hf : Region.free .any ops listed i = true) (hr : (Region.ready .any ops listed).contains i = true) (hb : ∀ w, HP w0 bs w → ∃ y, HP w0 (bsF y) w)
    (hg : GD ops l n ⟨some d, op, ty, pos, af, gd⟩ G) (hd : Nat.blt d n = true) (hv : ∀ y, Val P w0 n l (bsF y) G ⟨some d, op, ty, pos, af, gd⟩ v)
    (k : WA P ops w0 n (CF L w0 bsF) fuel (listed.setIfInBounds i true) ((d, (G, v)) :: l) bs R) : WA P ops w0 n (CF L w0 bsF) (fuel + 1) listed l bs R := fun a w ha hw => by
  have hCD : ∀ j oj w, j ≠ i → ops[j]? = some oj → (∀ e ∈ oj.after, Region.binds .any e = true → e.on ≠ i) → CF L w0 bsF j w → ∃ y, HP w0 (bsF y) w := fun j oj w _ ho hn hc => by
    rcases hc with rfl | h
    · exact absurd hn ((lastOK_spec hL).2 oj ho)
    · exact h
  cases G with
  | false =>
    exact wpAnyN_first (D := fun w => ∃ y, HP w0 (bsF y) w) hi (Region.noSelect_spec hs) (fun _ h => .inr h) hCD fuel listed a w (hb w hw) (Region.free_spec hi hf) (by simpa using hr) (.inr ⟨hg a ha, rfl⟩) (k _ w (ha.put (blt_lt hd) false v undef rfl) hw)
  | true =>
    exact wpAnyN_first (D := fun w => ∃ y, HP w0 (bsF y) w) hi (Region.noSelect_spec hs) (fun _ h => .inr h) hCD fuel listed a w (hb w hw) (Region.free_spec hi hf) (by simpa using hr) (.inl ⟨hg a ha, fun w' ⟨y, hw'⟩ => hv y a w' ha hw' rfl⟩) (k _ w (ha.put (blt_lt hd) true v v rfl) hw)
theorem px_qnF {fuel L i : Nat} {listed : Array Bool} (hb : ∀ w, HP w0 bs w → ∃ y, HP w0 (bsF y) w) (h : WA P ops w0 n (CF L w0 bsF) fuel listed l bs R) : PX w0 n (QN (CF L w0 bsF i) (wpAnyN P ops (CF L w0 bsF) R fuel listed)) .normal l bs := fun a w ha hw => ⟨.inr (hb w hw), h a w ha hw⟩
theorem px_qlF {fuel L : Nat} {listed : Array Bool} (h : WA P ops w0 n (CF L w0 bsF) fuel listed l bs R) : PX w0 n (QN (CF L w0 bsF L) (wpAnyN P ops (CF L w0 bsF) R fuel listed)) .normal l bs := fun a w ha hw => ⟨.inl rfl, h a w ha hw⟩
end

theorem fin3 {P : Program} {w0 : World} {n : Nat} {l : Env} {bs : List Blk} {fn : Func} {R : Ending → World → Prop} {r s t : ResultVar} {v u z : Value} (hr : fn.results = #[r, s, t]) (h : ResOK P l bs r v) (h' : ResOK P l bs s u) (h3 : ResOK P l bs t z) (k : ∀ w, HP w0 bs w → R (.returned (.tuple #[v, u, z])) w) : PX w0 n (bodyPost P fn R) .ret l bs :=
  fun a w ha hw => ⟨ha.1, .tuple #[v, u, z], by
    have h1 := h.run ha hw
    have h2 := h'.run ha hw
    have h4 := h3.run ha hw
    have e : results fn a.tmps = (do let vs ← #[r, s, t].mapM (resRun a); pure (if h : vs.size = 1 then vs[0] else .tuple vs)) := by
      unfold results
      rw [hr]
      rfl
    rw [e]
    simp [Array.mapM_eq_mapM_toList, h1, h2, h4], k w hw⟩
end Go.Proofs.YtlejciainnlfeaaDoor
