/- A small logic of frames and own blocks: the rules for single operations. Generic in the program; no statement is proved here. -/
import Derived.Test.YtlejciainnlfeaaDoorSxA
namespace Go.Proofs.YtlejciainnlfeaaDoor
open Go.RowKit

/-! closed facts on types, as functions that the kernel reckons -/
def fOff (P : Program) (s f : Nat) : Option Nat :=
  match P.underlying s with
  | some (.struct fields) => match fields[f]? with
    | some fd => match P.info? fd.type with
      | some i => if i.size = 0 then none else some fd.offset
      | none => none
    | none => none
  | _ => none
def elSz (P : Program) (t : Nat) : Option (Nat × Nat) :=
  match P.underlying t with
  | some (.slice e) => match P.info? e with
    | some i => some (e, i.size)
    | none => none
  | _ => none
def isTy1 (P : Program) (t : Nat) : Bool :=
  match P.underlying t with
  | some (.struct _) => false
  | some (.array _ _) => false
  | some _ => match P.info? t with
    | some i => i.size == 1
    | none => false
  | none => false
def zcs (P : Program) (t : Nat) : Option (List Value) :=
  match P.info? t with
  | some i => match i.zero with
    | some z => some z.cells.toList
    | none => none
  | none => none
def elBytes (P : Program) (e : Nat) : Nat :=
  match P.info? e with
  | some i => i.bytes
  | none => 0
/-- the call of function f enters it -/
def CI (P : Program) (f : FuncId) : Prop := ∀ args w, (callFunc f args).run P w = .ok (.enter f args) w

section
variable {P : Program} {w0 : World} {n : Nat} {l : Env} {bs : List Blk} {G : Bool} {d : Option Tmp} {ty : TypeId} {pos : String} {af : Array Edge} {gd : Option (Nat × Bool)}

/-- the operation yields v and leaves the world alone, whenever G -/
def Val (P : Program) (w0 : World) (n : Nat) (l : Env) (bs : List Blk) (G : Bool) (o : Oper) (v : Value) : Prop :=
  ∀ a w, EnvOK l n a → HP w0 bs w → G = true → (execOp a.eval o).run P w = .ok (.value v) w

theorem Val.eq {o : Oper} {v u : Value} (h : Val P w0 n l bs G o v) (e : v = u) : Val P w0 n l bs G o u := e ▸ h

theorem val_move {x : Operand} {v : Value} (h : Look l n G x v) : Val P w0 n l bs G ⟨d, .move x, ty, pos, af, gd⟩ v := fun a w ha _ hG => by
  simp [execOp, h a ha hG]
theorem val_assign {x : Operand} {v : Value} (h : Look l n G x v) : Val P w0 n l bs G ⟨d, .assign x, ty, pos, af, gd⟩ v := fun a w ha _ hG => by
  simp [execOp, h a ha hG]

/-- a cell -/
def CellIs (w0 : World) (bs : List Blk) (G : Bool) (b o : Nat) (v : Value) : Prop := ∀ w, HP w0 bs w → G = true → w.cell? ⟨b, o, none⟩ = some v
theorem cell_own {b o : Nat} {nw : Bool} {t : TypeId} {cs : List Value} {v : Value} (hm : (⟨b, nw, t, cs⟩ : Blk) ∈ bs) (hv : G = true → cs[o]? = some v) : CellIs w0 bs G b o v :=
  fun _ hw hG => (hw.cell hm).trans (hv hG)
theorem cell_old {b o : Nat} {v : Value} (hb : bs.all (·.new) = true) (hv : G = true → w0.cell? ⟨b, o, none⟩ = some v) : CellIs w0 bs G b o v :=
  fun w hw hG => by
    have h1 := hv hG
    have hlt : b < w0.heap.size := World.block_lt_of_cell? w0 _ h1
    rw [World.cell?_of_block (w := w0) (w' := w) (a := ⟨b, o, none⟩) (hw.old hb hlt)]
    exact h1

theorem run_isAgg1 {t : TypeId} (h : isTy1 P t = true) (w : World) : (isAgg t).run P w = .ok false w ∧ (P.info? t).map (·.size) = some 1 := by
  unfold isTy1 at h
  cases hu : P.underlying t with
  | none => simp [hu] at h
  | some dd =>
    have hi : ∃ i, P.info? t = some i ∧ i.size = 1 := by
      cases hi : P.info? t with
      | none => cases dd <;> simp [hu, hi] at h
      | some i => refine ⟨i, rfl, ?_⟩; cases dd <;> simp [hu, hi] at h <;> exact h
    obtain ⟨i, hi, hs⟩ := hi
    refine ⟨?_, by simp [hi, hs]⟩
    unfold isAgg
    rw [Sem.run_bind, run_underlying hu w]
    cases dd <;> simp [hu] at h <;> rfl

theorem val_load1 {t : TypeId} {x : Operand} {b o : Nat} {v : Value} (ht : isTy1 P t = true) (hx : Look l n G x (.pointer (some ⟨b, o, none⟩))) (hc : CellIs w0 bs G b o v) :
    Val P w0 n l bs G ⟨d, .load t x, ty, pos, af, gd⟩ v := fun a w ha hw hG => by
  have h1 := (run_isAgg1 ht w).1
  simp [execOp, hx a ha hG, Instr.loadAt, Instr.sureAddr, loadVar, Sem.run_bind, h1, hc w hw hG]

theorem run_loadAgg {t : TypeId} {k b o : Nat} {w : World} (ht : aggSz P t = some k) (vs : List Value) (hl : vs.length = k) (hc : ∀ j u, vs[j]? = some u → w.cell? ⟨b, o + j, none⟩ = some u) :
    (loadVar t ⟨b, o, none⟩).run P w = .ok (.agg vs.toArray) w := by
  obtain ⟨dd, hu, hd, hi⟩ := aggTy_of ht
  have hll := run_loadCells_list (P := P) w ⟨b, o, none⟩ vs (fun j v hv => by rw [Addr.add_lit]; exact hc j v hv)
  have hagg : (isAgg t).run P w = .ok true w := by
    unfold isAgg
    rw [Sem.run_bind, run_underlying hu w]
    cases dd <;> simp_all
  cases hq : P.info? t with
  | none => simp [hq] at hi
  | some i =>
    have hs : i.size = vs.length := by simp [hq] at hi; omega
    simp [loadVar, Sem.run_bind, hagg, sizeOf, typeInfo, hq, hs, hll]

/-- a whole block that is a struct -/
theorem val_loadB {t : TypeId} {x : Operand} {b : Nat} {nw : Bool} {u : TypeId} {cs : List Value} (hm : (⟨b, nw, u, cs⟩ : Blk) ∈ bs) (hx : Look l n G x (.pointer (some ⟨b, 0, none⟩))) (ht : aggSz P t = some cs.length) :
    Val P w0 n l bs G ⟨d, .load t x, ty, pos, af, gd⟩ (.agg cs.toArray) := fun a w ha hw hG => by
  have h1 := run_loadAgg (P := P) (w := w) (b := b) (o := 0) ht cs rfl (fun j u hu => by rw [Nat.zero_add, hw.cell hm]; exact hu)
  simp [execOp, hx a ha hG, Instr.loadAt, Instr.sureAddr, h1]
/-- a struct inside a block -/
theorem val_loadN {t : TypeId} {x : Operand} {b o k : Nat} {vs : List Value} (ht : aggSz P t = some k) (hx : Look l n G x (.pointer (some ⟨b, o, none⟩))) (hl : vs.length = k)
    (hc : ∀ j u, vs[j]? = some u → CellIs w0 bs G b (o + j) u) :
    Val P w0 n l bs G ⟨d, .load t x, ty, pos, af, gd⟩ (.agg vs.toArray) := fun a w ha hw hG => by
  have h1 := run_loadAgg (P := P) (w := w) (b := b) (o := o) ht vs hl (fun j u hu => hc j u hu w hw hG)
  simp [execOp, hx a ha hG, Instr.loadAt, Instr.sureAddr, h1]

theorem val_field {s : TypeId} {x : Operand} {f b o k : Nat} (hf : fOff P s f = some k) (hx : Look l n G x (.pointer (some ⟨b, o, none⟩))) :
    Val P w0 n l bs G ⟨d, .fieldAddr s x f, ty, pos, af, gd⟩ (.pointer (some ⟨b, o + k, none⟩)) := fun a w ha _ hG => by
  unfold fOff at hf
  split at hf
  · rename_i fields hu
    split at hf
    · rename_i fd hfd
      split at hf
      · rename_i i hi
        split at hf
        · cases hf
        · rename_i hs
          injection hf with hf
          subst hf
          simp [execOp, hx a ha hG, Instr.fieldAt, run_underlying hu, hfd, Instr.sureAddr, fieldPlace, sizeOf, typeInfo, hi, hs, Addr.add_lit]
      · cases hf
    · cases hf
  · cases hf

theorem elSz_of {t e sz : Nat} (h : elSz P t = some (e, sz)) : P.underlying t = some (.slice e) ∧ ∃ i, P.info? e = some i ∧ i.size = sz := by
  unfold elSz at h
  split at h
  · rename_i e' hu
    split at h
    · rename_i i hi
      injection h with h
      injection h with h1 h2
      subst h1
      exact ⟨hu, i, hi, h2⟩
    · cases h
  · cases h

theorem val_index {t e sz : TypeId} {x ix : Operand} {A : Option Addr} {len cap b o j : Nat} {k : IntKind} (he : elSz P t = some (e, sz)) (hx : Look l n G x (.slice A len cap)) (hi : Look l n G ix (.int k (j : Nat)))
    (hA : G = true → A = some ⟨b, o, none⟩) (hj : G = true → j < len) :
    Val P w0 n l bs G ⟨d, .indexAddr t x ix, ty, pos, af, gd⟩ (.pointer (some ⟨b, o + j * sz, none⟩)) := fun a w ha _ hG => by
  obtain ⟨hu, i, hii, rfl⟩ := elSz_of he
  have h1 := hA hG
  have h2 := hj hG
  subst h1
  have h3 : (j : Int) < len := by omega
  simp [execOp, hx a ha hG, hi a ha hG, Instr.indexAt, run_underlying hu, asIntOf, sizeOf, typeInfo, hii, h2, Addr.add_lit]

theorem val_indexI {t e sz : TypeId} {x ix : Operand} {A : Option Addr} {len cap b o : Nat} {j : Int} {k : IntKind} (he : elSz P t = some (e, sz)) (hx : Look l n G x (.slice A len cap)) (hi : Look l n G ix (.int k j))
    (hA : G = true → A = some ⟨b, o, none⟩) (hj : G = true → 0 ≤ j ∧ j < len) :
    Val P w0 n l bs G ⟨d, .indexAddr t x ix, ty, pos, af, gd⟩ (.pointer (some ⟨b, o + j.toNat * sz, none⟩)) := fun a w ha hw hG => by
  have h2 := hj hG
  have hi' : Look l n G ix (.int k (j.toNat : Nat)) := hi.eq (by rw [Int.toNat_of_nonneg h2.1])
  exact val_index (d := d) (ty := ty) (pos := pos) (af := af) (gd := gd) he hx hi' hA (fun _ => by omega) a w ha hw hG

theorem val_bin {op : BinOp} {t y : TypeId} {x z : Operand} {k : IntKind} {i j : Int} {v : Value} (hx : Look l n G x (.int k i)) (hz : Look l n G z (.int k j)) (hr : ∀ w, (binOp op t (.int k i) (.int k j)).run P w = .ok v w) :
    Val P w0 n l bs G ⟨d, .binOp op t x z y, ty, pos, af, gd⟩ v := fun a w ha _ hG => by
  simp [execOp, hx a ha hG, hz a ha hG, eqGuard_at_int, hr w]

theorem val_lss {t y : TypeId} {x z : Operand} {k : IntKind} {i j : Int} (hx : Look l n G x (.int k i)) (hz : Look l n G z (.int k j)) : Val P w0 n l bs G ⟨d, .binOp .lss t x z y, ty, pos, af, gd⟩ (.bool (decide (i < j))) := val_bin hx hz fun w => by simp [binOp_lss]
theorem val_leq {t y : TypeId} {x z : Operand} {k : IntKind} {i j : Int} (hx : Look l n G x (.int k i)) (hz : Look l n G z (.int k j)) : Val P w0 n l bs G ⟨d, .binOp .leq t x z y, ty, pos, af, gd⟩ (.bool (decide (i ≤ j))) := val_bin hx hz fun w => by simp [binOp_leq]
theorem val_gtr {t y : TypeId} {x z : Operand} {k : IntKind} {i j : Int} (hx : Look l n G x (.int k i)) (hz : Look l n G z (.int k j)) : Val P w0 n l bs G ⟨d, .binOp .gtr t x z y, ty, pos, af, gd⟩ (.bool (decide (j < i))) := val_bin hx hz fun w => by simp [binOp_gtr]
theorem val_geq {t y : TypeId} {x z : Operand} {k : IntKind} {i j : Int} (hx : Look l n G x (.int k i)) (hz : Look l n G z (.int k j)) : Val P w0 n l bs G ⟨d, .binOp .geq t x z y, ty, pos, af, gd⟩ (.bool (decide (j ≤ i))) := val_bin hx hz fun w => by simp [binOp_geq]
theorem val_eql {t y : TypeId} {x z : Operand} {k : IntKind} {i j : Int} (hx : Look l n G x (.int k i)) (hz : Look l n G z (.int k j)) : Val P w0 n l bs G ⟨d, .binOp .eql t x z y, ty, pos, af, gd⟩ (.bool (i == j)) := val_bin hx hz fun w => by simp [binOp_eql]
theorem val_neq {t y : TypeId} {x z : Operand} {k : IntKind} {i j : Int} (hx : Look l n G x (.int k i)) (hz : Look l n G z (.int k j)) : Val P w0 n l bs G ⟨d, .binOp .neq t x z y, ty, pos, af, gd⟩ (.bool (i != j)) := val_bin hx hz fun w => by simp [binOp_neq]
theorem val_add {t y : TypeId} {x z : Operand} {k : IntKind} {i j : Int} (hx : Look l n G x (.int k i)) (hz : Look l n G z (.int k j)) : Val P w0 n l bs G ⟨d, .binOp .add t x z y, ty, pos, af, gd⟩ (.int k (k.wrap (i + j))) := val_bin hx hz fun w => by simp [binOp_add, Op.intArith]
theorem val_sub {t y : TypeId} {x z : Operand} {k : IntKind} {i j : Int} (hx : Look l n G x (.int k i)) (hz : Look l n G z (.int k j)) : Val P w0 n l bs G ⟨d, .binOp .sub t x z y, ty, pos, af, gd⟩ (.int k (k.wrap (i - j))) := val_bin hx hz fun w => by simp [binOp_sub, Op.intArith]
theorem val_mul {t y : TypeId} {x z : Operand} {k : IntKind} {i j : Int} (hx : Look l n G x (.int k i)) (hz : Look l n G z (.int k j)) : Val P w0 n l bs G ⟨d, .binOp .mul t x z y, ty, pos, af, gd⟩ (.int k (k.wrap (i * j))) := val_bin hx hz fun w => by simp [binOp_mul, Op.intArith]
theorem wrap64_in' {i : Int} (h : -9223372036854775808 ≤ i ∧ i ≤ 9223372036854775807) : IntKind.i64.wrap i = i := by rw [IntKind.wrap_i64]; omega
/-- i + 1, .. for numbers that are known to be small and not below 0 -/
theorem val_addN {t y : TypeId} {x z : Operand} {i j : Nat} (hx : Look l n G x (.int .i64 (i : Nat))) (hz : Look l n G z (.int .i64 (j : Nat))) (h : i + j ≤ 9223372036854775807) : Val P w0 n l bs G ⟨d, .binOp .add t x z y, ty, pos, af, gd⟩ (.int .i64 ((i + j : Nat) : Int)) :=
  (val_add hx hz).eq (by rw [wrap64_in' (by omega)]; simp)
theorem val_inc {t y : TypeId} {x : Operand} {i : Nat} (hx : Look l n G x (.int .i64 (i : Nat))) (h : i + 1 ≤ 9223372036854775807) : Val P w0 n l bs G ⟨d, .binOp .add t x (.const (.int .i64 1)) y, ty, pos, af, gd⟩ (.int .i64 ((i + 1 : Nat) : Int)) :=
  (val_add hx lkc).eq (by rw [wrap64_in' (by omega)]; simp)
theorem val_dec {t y : TypeId} {x : Operand} {i : Nat} (hx : Look l n G x (.int .i64 (i : Nat))) (h : G = true → 1 ≤ i ∧ i ≤ 9223372036854775807) : Val P w0 n l bs G ⟨d, .binOp .sub t x (.const (.int .i64 1)) y, ty, pos, af, gd⟩ (.int .i64 ((i - 1 : Nat) : Int)) := fun a w ha hw hG => by
  have h1 := h hG
  exact ((val_sub (d := d) (ty := ty) (pos := pos) (af := af) (gd := gd) (t := t) (y := y) hx lkc).eq (by rw [wrap64_in' (by omega)]; congr 1; omega)) a w ha hw hG
theorem val_eqlB {t y : TypeId} {x z : Operand} {i j : Bool} (hb : P.underlying t = some .bool) (hx : Look l n G x (.bool i)) (hz : Look l n G z (.bool j)) : Val P w0 n l bs G ⟨d, .binOp .eql t x z y, ty, pos, af, gd⟩ (.bool (i == j)) := fun a w ha _ hG => by
  simp [execOp, hx a ha hG, hz a ha hG, eqGuard_at_bool, run_eql_bool w t i j hb]
theorem val_neqB {t y : TypeId} {x z : Operand} {i j : Bool} (hb : P.underlying t = some .bool) (hx : Look l n G x (.bool i)) (hz : Look l n G z (.bool j)) : Val P w0 n l bs G ⟨d, .binOp .neq t x z y, ty, pos, af, gd⟩ (.bool (i != j)) := fun a w ha _ hG => by
  have h : (binOp .neq t (.bool i) (.bool j)).run P w = .ok (.bool (i != j)) w := by
    simp only [binOp]
    simp [run_equal_bool w t i j hb]
    cases i <;> cases j <;> rfl
  simp [execOp, hx a ha hG, hz a ha hG, eqGuard_at_bool, h]

theorem val_not {t : TypeId} {x : Operand} {b : Bool} (hx : Look l n G x (.bool b)) : Val P w0 n l bs G ⟨d, .unOp .not t x, ty, pos, af, gd⟩ (.bool (!b)) := fun a w ha _ hG => by
  simp [execOp, hx a ha hG, Op.unary]

theorem val_and {c y : Operand} {b v : Bool} (hc : Look l n G c (.bool b)) (hy : Look l n (G && b) y (.bool v)) : Val P w0 n l bs G ⟨d, .pick c y (.const (.bool false)), ty, pos, af, gd⟩ (.bool (b && v)) := fun a w ha _ hG => by
  have e : a.eval (.const (.bool false)) = .bool false := rfl
  cases b
  · simp [execOp, hc a ha hG, asBool, e]
  · simp [execOp, hc a ha hG, asBool, hy a ha (by simp [hG])]
theorem val_or {c y : Operand} {b v : Bool} (hc : Look l n G c (.bool b)) (hy : Look l n (G && !b) y (.bool v)) : Val P w0 n l bs G ⟨d, .pick c (.const (.bool true)) y, ty, pos, af, gd⟩ (.bool (b || v)) := fun a w ha _ hG => by
  have e : a.eval (.const (.bool true)) = .bool true := rfl
  cases b
  · simp [execOp, hc a ha hG, asBool, hy a ha (by simp [hG])]
  · simp [execOp, hc a ha hG, asBool, e]

theorem val_len {t e sz : TypeId} {x : Operand} {A : Option Addr} {len cap : Nat} (he : elSz P t = some (e, sz)) (hx : Look l n G x (.slice A len cap)) :
    Val P w0 n l bs G ⟨d, .call ⟨.builtin .len, #[x], #[t]⟩, ty, pos, af, gd⟩ (.int .i64 (len : Nat)) := fun a w ha _ hG => by
  obtain ⟨hu, _⟩ := elSz_of he
  simp [execOp, resolve, invoke, builtin, hx a ha hG, Builtin.len_, run_underlying hu, goInt]

theorem val_extract {x : Operand} {vs : Array Value} {i : Nat} {v : Value} (hx : Look l n G x (.tuple vs)) (hv : vs[i]? = some v) : Val P w0 n l bs G ⟨d, .extract x i, ty, pos, af, gd⟩ v := fun a w ha _ hG => by
  simp [execOp, hx a ha hG, Instr.extract, hv]

theorem val_conv {s t : TypeId} {x : Operand} {k k' : IntKind} {i : Int} (hs : (P.underlying s).isSome = true) (ht : P.underlying t = some (.int k')) (hx : Look l n G x (.int k i)) :
    Val P w0 n l bs G ⟨d, .convert s t x, ty, pos, af, gd⟩ (.int k' (k'.wrap i)) := fun a w ha _ hG => by
  obtain ⟨dd, hd⟩ := Option.isSome_iff_exists.mp hs
  simp [execOp, hx a ha hG, convert, run_underlying ht, run_underlying hd, Conv.intToInt]

theorem val_build {t : TypeId} {parts : Array (Nat × Operand)} {ps : List (Nat × Value)} {cells : Array Value} (hp : G = true → ∀ a, EnvOK l n a → (parts.map fun (i, x) => (i, a.eval x)).toList = ps) (hb : P.built t ps = some cells) :
    Val P w0 n l bs G ⟨d, .build t parts, ty, pos, af, gd⟩ (.agg cells) := fun a w ha _ hG => by
  have h1 := run_build (P := P) w t (parts.map fun (i, x) => (i, a.eval x)) cells (by rw [hp hG a ha]; exact hb)
  simp [execOp, h1]

/-! slices of slices -/
theorem val_slice_all {t e sz : TypeId} {x : Operand} {A : Option Addr} {len cap : Nat} (he : elSz P t = some (e, sz)) (hx : Look l n G x (.slice A len cap)) (lo hi : Option Operand) (i j : Nat)
    (hlo : match lo with | none => i = 0 | some y => ∃ k, Look l n G y (.int k (i : Nat))) (hhi : match hi with | none => j = len | some y => ∃ k, Look l n G y (.int k (j : Nat)))
    (hij : G = true → i ≤ j) (hjc : G = true → j ≤ cap) :
    Val P w0 n l bs G ⟨d, .slice t x lo hi none, ty, pos, af, gd⟩ (.slice (if cap = i then A else A.map (·.add (i * sz))) (j - i) (cap - i)) := fun a w ha _ hG => by
  obtain ⟨hu, ii, hii, rfl⟩ := elSz_of he
  have h1 := hij hG
  have h2 := hjc hG
  cases lo with
  | none =>
    simp only at hlo; subst hlo
    cases hi with
    | none => simp only at hhi; subst hhi; simp [execOp, hx a ha hG, Instr.sliceAt, Instr.slice, Instr.sliceBounds, run_underlying hu, sizeOf, typeInfo, hii]
    | some y => obtain ⟨k, hy⟩ := hhi; simp [execOp, hx a ha hG, hy a ha hG, Instr.sliceAt, Instr.slice, Instr.sliceBounds, Instr.sliceBound, asIntOf, run_underlying hu, sizeOf, typeInfo, hii, h2]
  | some z =>
    obtain ⟨k', hz⟩ := hlo
    cases hi with
    | none => simp only at hhi; subst hhi; simp [execOp, hx a ha hG, hz a ha hG, Instr.sliceAt, Instr.slice, Instr.sliceBounds, Instr.sliceBound, asIntOf, run_underlying hu, sizeOf, typeInfo, hii, h1]
    | some y => obtain ⟨k, hy⟩ := hhi; simp [execOp, hx a ha hG, hy a ha hG, hz a ha hG, Instr.sliceAt, Instr.slice, Instr.sliceBounds, Instr.sliceBound, asIntOf, run_underlying hu, sizeOf, typeInfo, hii, h2, h1]

/-! equality of structs of one-cell fields that are integers -/
theorem val_eqlS {t y : TypeId} {x z : Operand} {xs ys : Array Value} {r : Bool} (hx : Look l n G x (.agg xs)) (hz : Look l n G z (.agg ys)) (hr : ∀ w, (binOp .eql t (.agg xs) (.agg ys)).run P w = .ok (.bool r) w) (hg : ∀ w, (eqGuard .eql t x z (.agg xs) (.agg ys)).run P w = .ok () w) :
    Val P w0 n l bs G ⟨d, .binOp .eql t x z y, ty, pos, af, gd⟩ (.bool r) := fun a w ha _ hG => by
  simp [execOp, hx a ha hG, hz a ha hG, hr w, hg w]
theorem val_neqS {t y : TypeId} {x z : Operand} {xs ys : Array Value} {r : Bool} (hx : Look l n G x (.agg xs)) (hz : Look l n G z (.agg ys)) (hr : ∀ w, (binOp .neq t (.agg xs) (.agg ys)).run P w = .ok (.bool r) w) (hg : ∀ w, (eqGuard .neq t x z (.agg xs) (.agg ys)).run P w = .ok () w) :
    Val P w0 n l bs G ⟨d, .binOp .neq t x z y, ty, pos, af, gd⟩ (.bool r) := fun a w ha _ hG => by
  simp [execOp, hx a ha hG, hz a ha hG, hr w, hg w]
end

section
variable {P : Program} {ops : Array Oper} {w0 : World} {n : Nat} {l : Env} {bs : List Blk} {G : Bool} {d : Tmp} {ty : TypeId} {pos : String} {af : Array Edge} {gd : Option (Nat × Bool)} {op : Op} {rest : List Oper}
  {Q : Exit → Act → World → Prop}

theorem blt_lt {a b : Nat} (h : Nat.blt a b = true) : a < b := by simpa [Nat.blt_eq] using h

theorem wl_val {v : Value} (hg : GD ops l n ⟨some d, op, ty, pos, af, gd⟩ G) (hd : Nat.blt d n = true) (hv : Val P w0 n l bs G ⟨some d, op, ty, pos, af, gd⟩ v) (k : WL P ops w0 n rest ((d, (G, v)) :: l) bs Q) :
    WL P ops w0 n (⟨some d, op, ty, pos, af, gd⟩ :: rest) l bs Q := fun a w ha hw => by
  refine wpList_step fun K hK => ?_
  rw [hg a ha]
  cases G with
  | false => simp only [Bool.false_eq_true, if_false]; exact hK _ _ (k _ w (ha.put (blt_lt hd) false v undef rfl) hw)
  | true =>
    simp only [if_true]
    unfold Oper.wp
    rw [hv a w ha hw rfl]
    exact hK _ _ (k _ w (ha.put (blt_lt hd) true v v rfl) hw)
/-- no guard -/
theorem wl_v {v : Value} (hd : Nat.blt d n = true) (hv : Val P w0 n l bs true ⟨some d, op, ty, pos, af, none⟩ v) (k : WL P ops w0 n rest ((d, (true, v)) :: l) bs Q) :
    WL P ops w0 n (⟨some d, op, ty, pos, af, none⟩ :: rest) l bs Q := wl_val gd_none hd hv k
theorem wl_nil (h : PX w0 n Q .normal l bs) : WL P ops w0 n [] l bs Q := fun a w ha hw => wpList_nil (h a w ha hw)
theorem wl_weak {l' : Env} {bs' : List Blk} (h : WL P ops w0 n rest l' bs' Q) (hl : SubE l l') (hb : ∀ w, HP w0 bs w → HP w0 bs' w) : WL P ops w0 n rest l bs Q :=
  fun a w ha hw => h a w (ha.sub hl) (hb w hw)

/-! calls -/
theorem run_call {f : FuncId} {args : Array Operand} {atys : Array TypeId} {vals : Array Value} {dd : Option Tmp} (hci : CI P f) (a : Act) (hv : args.map a.eval = vals) (w : World) :
    (execOp a.eval ⟨dd, .call ⟨.value (.func f), args, atys⟩, ty, pos, af, gd⟩).run P w = .ok (.enter f vals) w := by
  have e : a.eval (.func f) = .func (.func f) #[] #[] := rfl
  simp [execOp, resolve, e, Deferred.ofValue, invoke, hv, hci vals w]

/-- the arguments of a call -/
def Args (l : Env) (n : Nat) (G : Bool) : List Operand → List Value → Prop
  | [], [] => True
  | x :: xs, v :: vs => Look l n G x v ∧ Args l n G xs vs
  | _, _ => False
theorem Args.map : ∀ {xs : List Operand} {vs : List Value}, Args l n G xs vs → ∀ a, EnvOK l n a → G = true → xs.map a.eval = vs
  | [], [], _, _, _, _ => rfl
  | x :: xs, v :: vs, h, a, ha, hG => by simp only [List.map_cons, h.1 a ha hG, Args.map h.2 a ha hG]
  | [], _ :: _, h, _, _, _ => h.elim
  | _ :: _, [], h, _, _, _ => h.elim
theorem args1 {x : Operand} {v : Value} (h : Look l n G x v) : Args l n G [x] [v] := ⟨h, trivial⟩
theorem args2 {x y : Operand} {v u : Value} (h : Look l n G x v) (h' : Look l n G y u) : Args l n G [x, y] [v, u] := ⟨h, h', trivial⟩
theorem args3 {x y z : Operand} {v u t : Value} (h : Look l n G x v) (h' : Look l n G y u) (h'' : Look l n G z t) : Args l n G [x, y, z] [v, u, t] := ⟨h, h', h'', trivial⟩
theorem args4 {x y z s : Operand} {v u t r : Value} (h : Look l n G x v) (h' : Look l n G y u) (h'' : Look l n G z t) (h3 : Look l n G s r) : Args l n G [x, y, z, s] [v, u, t, r] := ⟨h, h', h'', h3, trivial⟩

/-- a call that hands back one value, and leaves our memory alone -/
theorem wl_call {f : FuncId} {args : List Operand} {atys : Array TypeId} {vals : List Value} {v : Value} (hg : GD ops l n ⟨some d, .call ⟨.value (.func f), args.toArray, atys⟩, ty, pos, af, gd⟩ G) (hd : Nat.blt d n = true) (hci : CI P f)
    (ha : Args l n G args vals) (hc : G = true → ∀ w, HP w0 bs w → Calls P f vals.toArray w fun e w' => e = .returned v ∧ HP w [] w')
    (k : WL P ops w0 n rest ((d, (G, v)) :: l) bs Q) : WL P ops w0 n (⟨some d, .call ⟨.value (.func f), args.toArray, atys⟩, ty, pos, af, gd⟩ :: rest) l bs Q := fun a w hea hw => by
  refine wpList_step fun K hK => ?_
  rw [hg a hea]
  cases G with
  | false => simp only [Bool.false_eq_true, if_false]; exact hK _ _ (k _ w (hea.put (blt_lt hd) false v undef rfl) hw)
  | true =>
    simp only [if_true]
    unfold Oper.wp
    rw [run_call (vals := vals.toArray) hci a (by simp [ha.map a hea rfl]) w]
    refine (hc rfl w hw).mono fun e w' ⟨he, hh⟩ => ?_
    subst he
    exact hK _ _ (k _ w' (hea.put (blt_lt hd) true v v rfl) (hw.comp0 hh))
/-- a call whose result, and what it makes, hang on x -/
theorem wl_callx {X : Type} {good : X → Prop} {val : X → Value} {nb : X → List Blk} {f : FuncId} {args : List Operand} {atys : Array TypeId} {vals : List Value} (hd : Nat.blt d n = true) (hci : CI P f)
    (ha : Args l n true args vals) (hc : ∀ w, HP w0 bs w → Calls P f vals.toArray w fun e w' => ∃ x, good x ∧ e = .returned (val x) ∧ HP w (nb x) w') (hn : ∀ x, (nb x).all (·.new) = true)
    (k : ∀ x, good x → WL P ops w0 n rest ((d, (true, val x)) :: l) (nb x ++ bs) Q) : WL P ops w0 n (⟨some d, .call ⟨.value (.func f), args.toArray, atys⟩, ty, pos, af, none⟩ :: rest) l bs Q := fun a w hea hw => by
  refine wpList_step fun K hK => ?_
  rw [gd_none (ops := ops) (l := l) (n := n) a hea]
  simp only [if_true]
  unfold Oper.wp
  rw [run_call (vals := vals.toArray) hci a (by simp [ha.map a hea rfl]) w]
  refine (hc w hw).mono fun e w' ⟨x, hx, he, hh⟩ => ?_
  subst he
  exact hK _ _ (k x hx _ w' (hea.put (blt_lt hd) true _ _ rfl) (hw.comp hh (hn x)))
/-- a call that also writes our block number i over -/
theorem wl_callw {X : Type} {good : X → Prop} {val : X → Value} {nb : X → List Blk} {cs' : X → List Value} {f : FuncId} {args : List Operand} {atys : Array TypeId} {vals : List Value} {b : Nat} {nw : Bool} {t : TypeId} {cs : List Value} (i : Nat) (hd : Nat.blt d n = true) (hci : CI P f)
    (ha : Args l n true args vals) (hi : bs[i]? = some ⟨b, nw, t, cs⟩)
    (hc : ∀ w, HP w0 bs w → Calls P f vals.toArray w fun e w' => ∃ x, good x ∧ e = .returned (val x) ∧ HP w (⟨b, false, t, cs' x⟩ :: nb x) w') (hn : ∀ x, (nb x).all (·.new) = true)
    (k : ∀ x, good x → WL P ops w0 n rest ((d, (true, val x)) :: l) (nb x ++ bs.set i ⟨b, nw, t, cs' x⟩) Q) : WL P ops w0 n (⟨some d, .call ⟨.value (.func f), args.toArray, atys⟩, ty, pos, af, none⟩ :: rest) l bs Q := fun a w hea hw => by
  refine wpList_step fun K hK => ?_
  rw [gd_none (ops := ops) (l := l) (n := n) a hea]
  simp only [if_true]
  unfold Oper.wp
  rw [run_call (vals := vals.toArray) hci a (by simp [ha.map a hea rfl]) w]
  refine (hc w hw).mono fun e w' ⟨x, hx, he, hh⟩ => ?_
  subst he
  exact hK _ _ (k x hx _ w' (hea.put (blt_lt hd) true _ _ rfl) (hw.compw hi hh (hn x)))

/-! memory that is made -/
theorem wl_alloc {t : TypeId} {z : List Value} (hz : zcs P t = some z) (hd : Nat.blt d n = true) (k : ∀ b, WL P ops w0 n rest ((d, (true, .pointer (some ⟨b, 0, none⟩))) :: l) (⟨b, true, t, z⟩ :: bs) Q) :
    WL P ops w0 n (⟨some d, .alloc t, ty, pos, af, none⟩ :: rest) l bs Q := fun a w hea hw => by
  refine wpList_plain rfl fun K hK => ?_
  have hz' : ∃ i v, P.info? t = some i ∧ i.zero = some v ∧ v.cells.toList = z := by
    unfold zcs at hz
    split at hz
    · rename_i i hi
      split at hz
      · rename_i v hv; injection hz with hz; exact ⟨i, v, hi, hv, hz⟩
      · cases hz
    · cases hz
  obtain ⟨i, v, hi, hv, rfl⟩ := hz'
  have hr : (Instr.alloc t true (.tuple #[])).run P w = .ok (.pointer (some ⟨w.heap.size, 0, none⟩)) (w.alloc (.cells v.cells t)) := by
    simp [Instr.alloc, zeroValue, typeInfo, hi, hv, newVar, newRow]
  unfold Oper.wp
  simp only [execOp, Sem.run_bind, hr, Result.andThen_ok, Sem.run_pure, Oper.upon_value]
  exact hK _ _ (k _ _ _ (hea.put (blt_lt hd) true _ _ rfl) (hw.alloc t v.cells))
theorem wl_box {t : TypeId} {x : Operand} {v : Value} (hx : Look l n true x v) (hd : Nat.blt d n = true) (k : ∀ b, WL P ops w0 n rest ((d, (true, .pointer (some ⟨b, 0, none⟩))) :: l) (⟨b, true, t, v.cells.toList⟩ :: bs) Q) :
    WL P ops w0 n (⟨some d, .box t x, ty, pos, af, none⟩ :: rest) l bs Q := fun a w hea hw => by
  refine wpList_plain rfl fun K hK => ?_
  have hr : (Instr.box t (a.eval x)).run P w = .ok (.pointer (some ⟨w.heap.size, 0, none⟩)) (w.alloc (.cells v.cells t)) := by
    simp [Instr.box, newVar, newRow, hx a hea rfl]
  unfold Oper.wp
  simp only [execOp, Sem.run_bind, hr, Result.andThen_ok, Sem.run_pure, Oper.upon_value]
  exact hK _ _ (k _ _ _ (hea.put (blt_lt hd) true _ _ rfl) (hw.alloc t v.cells))
theorem wl_make {t e sz : TypeId} {x y : Operand} {z : List Value} {len : Nat} (he : elSz P t = some (e, sz)) (hz : zcs P e = some z) {by_ : Nat} (hby : elBytes P e = by_) (hb : by_ * len ≤ 281474976710656) (hl : len ≤ 9223372036854775807)
    (hx : Look l n true x (.int .i64 (len : Nat))) (hy : Look l n true y (.int .i64 (len : Nat))) (hd : Nat.blt d n = true)
    (k : ∀ b cs, cs.length = len * sz → WL P ops w0 n rest ((d, (true, .slice (some ⟨b, 0, none⟩) len len)) :: l) (⟨b, true, e, cs⟩ :: bs) Q) :
    WL P ops w0 n (⟨some d, .makeSlice t x y, ty, pos, af, none⟩ :: rest) l bs Q := fun a w hea hw => by
  refine wpList_plain rfl fun K hK => ?_
  obtain ⟨hu, i, hi, rfl⟩ := elSz_of he
  have hv : ∃ v, i.zero = some v := by
    unfold zcs at hz
    rw [hi] at hz
    simp only at hz
    split at hz
    · rename_i v hv; exact ⟨v, hv⟩
    · cases hz
  obtain ⟨v, hv⟩ := hv
  have hb2 : i.bytes = by_ := by rw [← hby]; simp [elBytes, hi]
  have hb3 : (i.bytes : Int) * (len : Int) ≤ 281474976710656 := by
    have h : ((i.bytes * len : Nat) : Int) ≤ 281474976710656 := by rw [hb2]; omega
    rwa [Int.natCast_mul] at h
  have hr := run_make (P := P) w t e i v hu hi hv .i64 .i64 len len (by omega) (Int.le_refl _) hb3 (by omega)
  simp only [Int.toNat_natCast] at hr
  unfold Oper.wp
  simp only [execOp, Sem.run_bind, hx a hea rfl, hy a hea rfl, hr, Result.andThen_ok, Sem.run_pure, Oper.upon_value]
  exact hK _ _ (k _ _ (by simp [madeCells]) _ _ (hea.put (blt_lt hd) true _ _ rfl) (hw.alloc e _))

/-! stores into our own blocks -/
theorem set_row {w : World} {b o : Nat} {v : Value} {cur : Array Value} {t : TypeId} (h : w.heap[b]? = some (.cells cur t (0, 0))) : w.setCell ⟨b, o, none⟩ v = w.setRow b (cur.setIfInBounds o v) :=
  setCell_eq_setRow w b o cur t (0, 0) v h

theorem ty1_size {t : TypeId} (h : isTy1 P t = true) : ∃ i, P.info? t = some i ∧ i.size = 1 := by
  have := (run_isAgg1 h default).2
  cases hi : P.info? t with
  | none => simp [hi] at this
  | some i => exact ⟨i, rfl, by simpa [hi] using this⟩

theorem wl_store1 {t : TypeId} {x y : Operand} {b o : Nat} {v : Value} {nw : Bool} {u : TypeId} {cs : List Value} (i : Nat) (hi : bs[i]? = some ⟨b, nw, u, cs⟩) (hx : Look l n true x (.pointer (some ⟨b, o, none⟩))) (hy : Look l n true y v) (ht : isTy1 P t = true) (h1 : v.oneCell' = true)
    (ho' : Nat.blt o cs.length = true) (k : WL P ops w0 n rest l (bs.set i ⟨b, nw, u, cs.set o v⟩) Q) :
    WL P ops w0 n (⟨none, .store t x y, ty, pos, af, none⟩ :: rest) l bs Q := fun a w hea hw => by
  refine wpList_plain rfl fun K hK => ?_
  have ho : o < cs.length := blt_lt ho'
  obtain ⟨ii, hii, hs⟩ := ty1_size ht
  have hm : (⟨b, nw, u, cs⟩ : Blk) ∈ bs := List.mem_of_getElem? hi
  have hown := hw.own _ hm
  have hc : v.cells = #[v] := by cases v <;> first | rfl | (simp [Value.oneCell'] at h1)
  have hcell : w.cell? ⟨b, o, none⟩ = some cs[o] := by rw [hw.cell hm, List.getElem?_eq_getElem ho]
  have hfr : w.frozen? ⟨b, o, none⟩ = false := by simp only at hown; simp [World.frozen?, hown]
  have hr : (storeVar t ⟨b, o, none⟩ v).run P w = .ok () (w.setCell ⟨b, o, none⟩ v) := by
    simp [storeVar, sizeOf, typeInfo, hii, hs, hc, storeCells, Addr.add_zero', run_store P w _ v _ h1, hcell, hfr]
  unfold Oper.wp
  simp only [execOp, Instr.storeAt, Sem.run_bind, hx a hea rfl, hy a hea rfl, Instr.sureAddr, Sem.run_pure, Result.andThen_ok, hr, Oper.upon_skip]
  refine hK _ _ (k _ _ hea ?_)
  have := hw.set hi (cs.toArray.setIfInBounds o v) (set_row hown)
  simpa using this

theorem storeVar_run {t : TypeId} {m b o : Nat} {w : World} {vs cs : List Value} {u : TypeId} (ht : aggSz P t = some m) (hl : vs.length = m) (h1 : vs.all (·.oneCell') = true) (hown : w.heap[b]? = some (.cells cs.toArray u (0, 0))) (ho : o + m ≤ cs.length) :
    (storeVar t ⟨b, o, none⟩ (.agg vs.toArray)).run P w = .ok () (w.setRow b (cs.take o ++ vs ++ cs.drop (o + m)).toArray) := by
  obtain ⟨dd, hu, hd, hi⟩ := aggTy_of ht
  cases hq : P.info? t with
  | none => simp [hq] at hi
  | some i =>
    have hs : i.size = m := by simpa [hq] using hi
    have hst := run_storeCells_at P b o u vs 0 cs.toArray w hown (by simp; omega) (fun v hv => (List.all_eq_true.1 h1) v hv)
    simp only [Nat.add_zero] at hst
    simp [storeVar, sizeOf, typeInfo, hq, hs, hl, Value.cells, hst]

/-- a struct into a block: its cells from o on -/
theorem wl_storeN {t : TypeId} {x y : Operand} {m b o : Nat} {vs : List Value} {nw : Bool} {u : TypeId} {cs : List Value} (i : Nat) (ht : aggSz P t = some m) (hx : Look l n true x (.pointer (some ⟨b, o, none⟩))) (hy : Look l n true y (.agg vs.toArray)) (hl : vs.length = m) (h1 : vs.all (·.oneCell') = true)
    (hi : bs[i]? = some ⟨b, nw, u, cs⟩) (ho : o + m ≤ cs.length) (k : WL P ops w0 n rest l (bs.set i ⟨b, nw, u, cs.take o ++ vs ++ cs.drop (o + m)⟩) Q) :
    WL P ops w0 n (⟨none, .store t x y, ty, pos, af, none⟩ :: rest) l bs Q := fun a w hea hw => by
  refine wpList_plain rfl fun K hK => ?_
  have hm : (⟨b, nw, u, cs⟩ : Blk) ∈ bs := List.mem_of_getElem? hi
  have hr := storeVar_run (P := P) (w := w) (o := o) ht hl h1 (hw.own _ hm) ho
  unfold Oper.wp
  simp only [execOp, Instr.storeAt, Sem.run_bind, hx a hea rfl, hy a hea rfl, Instr.sureAddr, Sem.run_pure, Result.andThen_ok, hr, Oper.upon_skip]
  refine hK _ _ (k _ _ hea ?_)
  have := hw.set hi (cs.take o ++ vs ++ cs.drop (o + m)).toArray rfl
  simpa using this
/-- a struct over a whole block -/
theorem wl_storeB {t : TypeId} {x y : Operand} {b : Nat} {vs : List Value} {nw : Bool} {u : TypeId} {cs : List Value} (i : Nat) (hi : bs[i]? = some ⟨b, nw, u, cs⟩) (hx : Look l n true x (.pointer (some ⟨b, 0, none⟩))) (hy : Look l n true y (.agg vs.toArray)) (ht : aggSz P t = some vs.length) (h1 : vs.all (·.oneCell') = true)
    (ho : cs.length = vs.length) (k : WL P ops w0 n rest l (bs.set i ⟨b, nw, u, vs⟩) Q) :
    WL P ops w0 n (⟨none, .store t x y, ty, pos, af, none⟩ :: rest) l bs Q :=
  wl_storeN i ht hx hy rfl h1 hi (by omega) (by
    have e : cs.take 0 ++ vs ++ cs.drop (0 + vs.length) = vs := by simp [List.drop_of_length_le (Nat.le_of_eq ho)]
    rw [e]; exact k)
end
end Go.Proofs.YtlejciainnlfeaaDoor
