/- A small logic of frames and own blocks over the model's regions: definitions and the rules for code. Generic in the program; no statement is proved here. -/
import Derived.WalkKit
import Derived.WalkSpells
import Derived.Deep.Quiet
import Derived.Laws.MakeOwn
import Derived.Laws.Tables
import Derived.Laws.StructEq
import Derived.Laws.AppendOwn
import Derived.LoopN
namespace Go.Proofs.YtlejciainnlfeaaDoor
open Go.RowKit

abbrev Env := List (Nat × (Bool × Value))

def look : Env → Nat → Option (Bool × Value)
  | [], _ => none
  | (d, e) :: r, t => bif Nat.beq d t then some e else look r t

def EnvOK (l : Env) (n : Nat) (a : Act) : Prop :=
  a.defers = [] ∧ n ≤ a.tmps.size ∧ ∀ t g v, look l t = some (g, v) → a.tmps.getD t undef = if g then v else undef

structure Blk where
  b : Nat
  new : Bool
  t : TypeId
  cs : List Value

structure HP (w0 : World) (bs : List Blk) (w : World) : Prop where
  os : w.os = w0.os
  tape : w.tape = w0.tape
  output : w.output = w0.output
  size : w0.heap.size ≤ w.heap.size
  keep : ∀ k, k < w0.heap.size → (∀ e ∈ bs, e.b ≠ k) → w.heap[k]? = w0.heap[k]?
  own : ∀ e ∈ bs, w.heap[e.b]? = some (.cells e.cs.toArray e.t (0, 0))
  fresh : ∀ e ∈ bs, e.new = true → w0.heap.size ≤ e.b
  nodup : (bs.map (·.b)).Nodup

def WC (P : Program) (w0 : World) (n : Nat) (c : Code) (l : Env) (bs : List Blk) (Q : Exit → Act → World → Prop) : Prop :=
  ∀ a w, EnvOK l n a → HP w0 bs w → c.wp P Q a w
def PX (w0 : World) (n : Nat) (Q : Exit → Act → World → Prop) (e : Exit) (l : Env) (bs : List Blk) : Prop :=
  ∀ a w, EnvOK l n a → HP w0 bs w → Q e a w
def WL (P : Program) (ops : Array Oper) (w0 : World) (n : Nat) (rest : List Oper) (l : Env) (bs : List Blk) (Q : Exit → Act → World → Prop) : Prop :=
  ∀ a w, EnvOK l n a → HP w0 bs w → wpList P ops Q rest a w

section env
variable {l : Env} {n : Nat} {a : Act}

theorem EnvOK.put (h : EnvOK l n a) {d : Nat} (hd : d < n) (g : Bool) (v u : Value) (hu : u = if g then v else undef) : EnvOK ((d, (g, v)) :: l) n (a.put (some d) u) := by
  obtain ⟨h1, h2, h3⟩ := h
  subst hu
  refine ⟨h1, by simpa [Act.put] using h2, fun t g' v' hl => ?_⟩
  simp only [look] at hl
  by_cases e : d = t
  · subst e
    simp [Nat.beq_refl] at hl
    obtain ⟨rfl, rfl⟩ := hl
    have : d < a.tmps.size := by omega
    simp [Act.put, this]
  · have hb : Nat.beq d t = false := by
      cases hbb : Nat.beq d t with
      | false => rfl
      | true => exact absurd (Nat.eq_of_beq_eq_true hbb) e
    rw [hb] at hl
    have := h3 t g' v' hl
    rw [← this]
    simp [Act.put, Array.getElem?_setIfInBounds_ne e]

theorem EnvOK.noput (h : EnvOK l n a) (u : Value) : EnvOK l n (a.put none u) := h

theorem EnvOK.eval (h : EnvOK l n a) {t : Nat} {v : Value} (hl : look l t = some (true, v)) : a.eval (.tmp t) = v := by
  have := h.2.2 t true v hl
  simpa [Act.eval] using this

/-- operand x holds v whenever G -/
def Look (l : Env) (n : Nat) (G : Bool) (x : Operand) (v : Value) : Prop := ∀ a, EnvOK l n a → G = true → a.eval x = v

theorem lk {G : Bool} {t : Nat} {v : Value} (h : look l t = some (true, v)) : Look l n G (.tmp t) v := fun _ ha _ => ha.eval h
theorem lkg {G : Bool} {t : Nat} {v : Value} (h : look l t = some (G, v)) : Look l n G (.tmp t) v := fun a ha hG => by
  subst hG; exact ha.eval h
theorem lkx {G g : Bool} {t : Nat} {v : Value} (h : look l t = some (g, v)) (hi : G = true → g = true) : Look l n G (.tmp t) v := fun a ha hG => by
  have hg := hi hG
  subst hg; exact ha.eval h
theorem lkc {G : Bool} {v : Value} : Look l n G (.const v) v := fun _ _ _ => rfl
theorem Look.eq {G : Bool} {x : Operand} {v u : Value} (h : Look l n G x v) (e : v = u) : Look l n G x u := e ▸ h

/-- the guard of an operation is G -/
def GD (ops : Array Oper) (l : Env) (n : Nat) (o : Oper) (G : Bool) : Prop := ∀ a, EnvOK l n a → Region.wanted o (yielded ops a.tmps) = G

theorem yielded_of {ops : Array Oper} {j t : Nat} {g c : Bool} (hj : (ops[j]?).bind (·.dst) = some t) (hl : look l t = some (g, .bool c)) (ha : EnvOK l n a) (htn : t < n) :
    yielded ops a.tmps j = if g then some c else none := by
  have h3 := ha.2.2 t g _ hl
  have hsz : t < a.tmps.size := by have := ha.2.1; omega
  have h4 : a.tmps[t]? = some (if g then .bool c else undef) := by
    simp only [Array.getD, hsz, dif_pos] at h3
    rw [Array.getElem?_eq_getElem hsz]; exact congrArg some h3
  unfold yielded
  rw [hj]
  simp only [Option.bind_some, h4]
  cases g <;> simp [undef]

theorem gd_none {ops : Array Oper} {d op ty pos af} : GD ops l n ⟨d, op, ty, pos, af, none⟩ true := fun _ _ => rfl
theorem gd_t {ops : Array Oper} {d op ty pos af} {j t : Nat} {c : Bool} (hj : (ops[j]?).bind (·.dst) = some t) (hl : look l t = some (true, .bool c)) (htn : Nat.blt t n = true) :
    GD ops l n ⟨d, op, ty, pos, af, some (j, true)⟩ c := fun a ha => by
  simp only [Region.wanted, yielded_of hj hl ha (by simpa [Nat.blt_eq] using htn)]
  cases c <;> rfl
theorem gd_f {ops : Array Oper} {d op ty pos af} {j t : Nat} {c : Bool} (hj : (ops[j]?).bind (·.dst) = some t) (hl : look l t = some (true, .bool c)) (htn : Nat.blt t n = true) :
    GD ops l n ⟨d, op, ty, pos, af, some (j, false)⟩ (!c) := fun a ha => by
  simp only [Region.wanted, yielded_of hj hl ha (by simpa [Nat.blt_eq] using htn)]
  cases c <;> rfl
theorem gd_gt {ops : Array Oper} {d op ty pos af} {j t : Nat} {g c : Bool} (hj : (ops[j]?).bind (·.dst) = some t) (hl : look l t = some (g, .bool c)) (htn : Nat.blt t n = true) :
    GD ops l n ⟨d, op, ty, pos, af, some (j, true)⟩ (g && c) := fun a ha => by
  simp only [Region.wanted, yielded_of hj hl ha (by simpa [Nat.blt_eq] using htn)]
  cases g <;> cases c <;> rfl
theorem gd_gf {ops : Array Oper} {d op ty pos af} {j t : Nat} {g c : Bool} (hj : (ops[j]?).bind (·.dst) = some t) (hl : look l t = some (g, .bool c)) (htn : Nat.blt t n = true) :
    GD ops l n ⟨d, op, ty, pos, af, some (j, false)⟩ (g && !c) := fun a ha => by
  simp only [Region.wanted, yielded_of hj hl ha (by simpa [Nat.blt_eq] using htn)]
  cases g <;> cases c <;> rfl

/-- every slot of l' reads in l as it does in l' -/
def SubK (l l' : Env) : Env → Prop
  | [] => True
  | (d, _) :: r => look l d = look l' d ∧ SubK l l' r
def SubE (l l' : Env) : Prop := SubK l l' l'

theorem subK_look {l l' : Env} : ∀ {m : Env}, SubK l l' m → ∀ {t e}, look m t = some e → look l t = look l' t
  | [], _, t, e, hl => by simp [look] at hl
  | (d, e0) :: r, h, t, e, hl => by
    simp only [look] at hl
    cases hb : Nat.beq d t with
    | true =>
      have hdt := Nat.eq_of_beq_eq_true hb
      subst hdt
      exact h.1
    | false =>
      rw [hb] at hl
      exact subK_look h.2 hl

def SubT (l : Env) : Env → Prop
  | [] => True
  | (d, e) :: r => look l d = some e ∧ SubT l r
theorem subT_look {l : Env} : ∀ {m : Env}, SubT l m → ∀ {t e}, look m t = some e → look l t = some e
  | [], _, t, e, hl => by simp [look] at hl
  | (d, e0) :: r, h, t, e, hl => by
    simp only [look] at hl
    cases hb : Nat.beq d t with
    | true =>
      have hdt := Nat.eq_of_beq_eq_true hb
      subst hdt
      rw [hb] at hl
      exact h.1.trans hl
    | false =>
      rw [hb] at hl
      exact subT_look h.2 hl

theorem EnvOK.subT {l l' : Env} (h : EnvOK l n a) (hs : SubT l l') : EnvOK l' n a :=
  ⟨h.1, h.2.1, fun t g v hl => h.2.2 t g v (subT_look hs hl)⟩
theorem EnvOK.sub {l l' : Env} (h : EnvOK l n a) (hs : SubE l l') : EnvOK l' n a :=
  ⟨h.1, h.2.1, fun t g v hl => h.2.2 t g v (by rw [subK_look hs hl]; exact hl)⟩
end env

section heap
variable {w0 w w' : World} {bs : List Blk}

theorem HP.refl (w : World) : HP w [] w := ⟨rfl, rfl, rfl, Nat.le_refl _, fun _ _ _ => rfl, fun _ h => absurd h (by simp), fun _ h => absurd h (by simp), by simp⟩

theorem HP.lt (h : HP w0 bs w) {e : Blk} (he : e ∈ bs) : e.b < w.heap.size := by
  rcases Nat.lt_or_ge e.b w.heap.size with h' | h'
  · exact h'
  · have := h.own e he; rw [Array.getElem?_eq_none h'] at this; cases this

theorem HP.cell (h : HP w0 bs w) {b o : Nat} {nw : Bool} {t : TypeId} {cs : List Value} (he : (⟨b, nw, t, cs⟩ : Blk) ∈ bs) : w.cell? ⟨b, o, none⟩ = cs[o]? := by
  have := h.own _ he
  simp only at this
  simp [World.cell?, this]

theorem HP.old (h : HP w0 bs w) (hb : bs.all (·.new) = true) {k : Nat} (hk : k < w0.heap.size) : w.heap[k]? = w0.heap[k]? :=
  h.keep k hk fun e he hek => by
    have h1 := h.fresh e he (by simpa using (List.all_eq_true.1 hb) e he)
    omega

theorem HP.below (h : HP w0 bs w) (hb : bs.all (·.new) = true) : Below w0.heap.size w0 w :=
  ⟨h.os, h.tape, h.output, h.size, fun _ hk => h.old hb hk⟩

/-- forget new blocks -/
theorem HP.drop (h : HP w0 bs w) (hb : bs.all (·.new) = true) : HP w0 [] w :=
  ⟨h.os, h.tape, h.output, h.size, fun _ hk _ => h.old hb hk, fun _ h => absurd h (by simp), fun _ h => absurd h (by simp), by simp⟩

/-- keep some of the blocks: all that go are new -/
theorem HP.part {bs' : List Blk} (h : HP w0 bs w) (hs : ∀ e ∈ bs', e ∈ bs) (hn : ∀ e ∈ bs, e.new = true ∨ e ∈ bs') (hd : (bs'.map (·.b)).Nodup) : HP w0 bs' w :=
  ⟨h.os, h.tape, h.output, h.size, fun k hk hne => h.keep k hk fun e he hek => by
      rcases hn e he with h1 | h1
      · have := h.fresh e he h1; omega
      · exact hne e h1 hek,
    fun e he => h.own e (hs e he), fun e he => h.fresh e (hs e he), hd⟩

/-- forget the first k blocks -/
theorem HP.dropN (h : HP w0 bs w) (k : Nat) (hk : (bs.take k).all (·.new) = true) : HP w0 (bs.drop k) w :=
  h.part (fun _ he => List.mem_of_mem_drop he) (fun e he => by
    rw [← List.take_append_drop k bs] at he
    rcases List.mem_append.1 he with h1 | h1
    · exact .inl (by simpa using (List.all_eq_true.1 hk) e h1)
    · exact .inr h1) (((List.drop_sublist k bs).map (·.b)).nodup h.nodup)

theorem HP.tail {e : Blk} (h : HP w0 (e :: bs) w) (hn : e.new = true) : HP w0 bs w :=
  h.part (fun _ hx => List.mem_cons_of_mem _ hx) (fun x hx => by
    rcases List.mem_cons.1 hx with rfl | h1
    · exact .inl hn
    · exact .inr h1) (List.nodup_cons.1 h.nodup).2

/-- forget the second block of two -/
theorem HP.skip {e f : Blk} (h : HP w0 (e :: f :: bs) w) (hn : f.new = true) : HP w0 (e :: bs) w :=
  h.part (fun x hx => by
      rcases List.mem_cons.1 hx with rfl | h1
      · exact List.mem_cons_self
      · exact List.mem_cons_of_mem _ (List.mem_cons_of_mem _ h1))
    (fun x hx => by
      rcases List.mem_cons.1 hx with rfl | h1
      · exact .inr List.mem_cons_self
      · rcases List.mem_cons.1 h1 with rfl | h2
        · exact .inl hn
        · exact .inr (List.mem_cons_of_mem _ h2))
    (by have := h.nodup; simp only [List.map_cons, List.nodup_cons, List.mem_cons] at this ⊢; exact ⟨fun hx => this.1 (.inr hx), this.2.2⟩)

theorem HP.alloc (h : HP w0 bs w) (t : TypeId) (cs : Array Value) : HP w0 (⟨w.heap.size, true, t, cs.toList⟩ :: bs) (w.alloc (.cells cs t)) := by
  refine ⟨h.os, h.tape, h.output, by simp; have := h.size; omega, fun k hk hne => ?_, fun e he => ?_, fun e he hn => ?_, ?_⟩
  · rw [Below.heap_alloc _ _ _ (by have := h.size; omega)]
    exact h.keep k hk fun e he => hne e (List.mem_cons_of_mem _ he)
  · rcases List.mem_cons.1 he with rfl | h1
    · simpa using heap_alloc_new w (.cells cs t)
    · rw [Below.heap_alloc _ _ _ (h.lt h1)]; exact h.own e h1
  · rcases List.mem_cons.1 he with rfl | h1
    · exact h.size
    · exact h.fresh e h1 hn
  · simp only [List.map_cons, List.nodup_cons]
    refine ⟨fun hm => ?_, h.nodup⟩
    obtain ⟨e, he, heb⟩ := List.mem_map.1 hm
    have := h.lt he
    omega

theorem HP.drew (h : HP w0 bs w) : HP w0 bs w.drew := ⟨h.os, h.tape, h.output, h.size, h.keep, h.own, h.fresh, h.nodup⟩
theorem HP.drew' (h : HP w0 bs w) : HP w0 bs { w with drawn := w.drawn + 1 } := ⟨h.os, h.tape, h.output, h.size, h.keep, h.own, h.fresh, h.nodup⟩

/-- block number i of the list is written over -/
theorem HP.set (h : HP w0 bs w) {i b : Nat} {nw : Bool} {t : TypeId} {cs : List Value} (he : bs[i]? = some ⟨b, nw, t, cs⟩) (cs' : Array Value) {w' : World}
    (hw : w' = w.setRow b cs') : HP w0 (bs.set i ⟨b, nw, t, cs'.toList⟩) w' := by
  subst hw
  have hmem : (⟨b, nw, t, cs⟩ : Blk) ∈ bs := List.mem_of_getElem? he
  have hi : i < bs.length := (List.getElem?_eq_some_iff.1 he).1
  have hmap : (bs.set i ⟨b, nw, t, cs'.toList⟩).map (·.b) = bs.map (·.b) := by
    rw [List.map_set]
    apply List.ext_getElem?
    intro j
    by_cases hj : i = j
    · subst hj; simp [hi]
      have := (List.getElem?_eq_some_iff.1 he).2; rw [this]
    · simp [List.getElem?_set_ne hj]
  have hown : ∀ e ∈ bs.set i ⟨b, nw, t, cs'.toList⟩, (e = ⟨b, nw, t, cs'.toList⟩) ∨ (e ∈ bs ∧ e.b ≠ b) := by
    intro e hme
    obtain ⟨j, hj⟩ := List.getElem?_of_mem hme
    by_cases hij : i = j
    · subst hij
      rw [List.getElem?_set_self hi] at hj
      exact .inl (by injection hj with hj; exact hj.symm)
    · rw [List.getElem?_set_ne hij] at hj
      refine .inr ⟨List.mem_of_getElem? hj, fun heb => ?_⟩
      have hp := h.nodup
      unfold List.Nodup at hp
      rw [List.pairwise_iff_getElem] at hp
      obtain ⟨hjl, hje⟩ := List.getElem?_eq_some_iff.1 hj
      have hie := (List.getElem?_eq_some_iff.1 he).2
      rcases Nat.lt_or_gt_of_ne hij with h1 | h1
      · exact hp i j (by simpa using hi) (by simpa using hjl) h1 (by simp [hie, hje, heb])
      · exact hp j i (by simpa using hjl) (by simpa using hi) h1 (by simp [hie, hje, heb])
  have hset : ∀ k, k ≠ b → (w.setRow b cs').heap[k]? = w.heap[k]? := fun k hk => setRow_other w b k cs' hk
  refine ⟨h.os, h.tape, h.output, by simpa [World.setRow] using h.size, fun k hk hne => ?_, fun e hme => ?_, fun e hme hn => ?_, by rw [hmap]; exact h.nodup⟩
  · have hb : k ≠ b := fun e => hne ⟨b, nw, t, cs'.toList⟩ (List.mem_of_getElem? (List.getElem?_set_self hi)) (by simp [e])
    rw [hset k hb]
    exact h.keep k hk fun e he2 hek => by
      obtain ⟨j, hj⟩ := List.getElem?_of_mem he2
      by_cases hij : i = j
      · subst hij; rw [he] at hj; injection hj with hj; subst hj; exact hb hek.symm
      · exact hne e (List.mem_of_getElem? (by rw [List.getElem?_set_ne hij]; exact hj)) hek
  · rcases hown e hme with rfl | ⟨h1, h2⟩
    · have := h.own _ hmem
      have hr := setRow_heap w b cs.toArray cs' t (0, 0) this
      simpa using hr
    · rw [hset e.b h2]; exact h.own e h1
  · rcases hown e hme with rfl | ⟨h1, _⟩
    · exact h.fresh ⟨b, nw, t, cs⟩ hmem hn
    · exact h.fresh e h1 hn

/-- a call that made the new blocks nb -/
theorem HP.comp {nb : List Blk} (h : HP w0 bs w) (k : HP w nb w') (hn : nb.all (·.new) = true) : HP w0 (nb ++ bs) w' := by
  have hnew : ∀ e ∈ nb, w.heap.size ≤ e.b := fun e he => k.fresh e he (by simpa using (List.all_eq_true.1 hn) e he)
  refine ⟨k.os.trans h.os, k.tape.trans h.tape, k.output.trans h.output, Nat.le_trans h.size k.size, fun j hj hne => ?_, fun e he => ?_, fun e he hen => ?_, ?_⟩
  · rw [k.old hn (by have := h.size; omega)]
    exact h.keep j hj fun e he => hne e (List.mem_append_right _ he)
  · rcases List.mem_append.1 he with h1 | h1
    · exact k.own e h1
    · rw [k.old hn (h.lt h1)]; exact h.own e h1
  · rcases List.mem_append.1 he with h1 | h1
    · have := hnew e h1; have := h.size; omega
    · exact h.fresh e h1 hen
  · rw [List.map_append, List.nodup_append]
    refine ⟨k.nodup, h.nodup, fun x hx y hy hxy => ?_⟩
    obtain ⟨e, he, rfl⟩ := List.mem_map.1 hx
    obtain ⟨f, hf, rfl⟩ := List.mem_map.1 hy
    have := hnew e he
    have := h.lt hf
    omega

theorem HP.comp0 (h : HP w0 bs w) (k : HP w [] w') : HP w0 bs w' := by
  have := h.comp k (by rfl)
  simpa using this

/-- a call that wrote one block b of ours over, and made the new blocks nb -/
theorem HP.compw {nb : List Blk} {i b : Nat} {nw : Bool} {t : TypeId} {cs cs' : List Value} (h : HP w0 bs w) (he : bs[i]? = some ⟨b, nw, t, cs⟩) (k : HP w (⟨b, false, t, cs'⟩ :: nb) w') (hn : nb.all (·.new) = true) :
    HP w0 (nb ++ bs.set i ⟨b, nw, t, cs'⟩) w' := by
  have hb := h.set he cs'.toArray rfl
  have hbl : b < w.heap.size := h.lt (List.mem_of_getElem? he)
  have hnew : ∀ e ∈ nb, w.heap.size ≤ e.b := fun e he => k.fresh e (List.mem_cons_of_mem _ he) (by simpa using (List.all_eq_true.1 hn) e he)
  have hrow : ∀ j, j < w.heap.size → w'.heap[j]? = (w.setRow b cs'.toArray).heap[j]? := fun j hj => by
    by_cases hjb : j = b
    · subst hjb
      have h1 := k.own _ (List.mem_cons_self)
      have h2 := setRow_heap w j cs.toArray cs'.toArray t (0, 0) (h.own _ (List.mem_of_getElem? he))
      simp only at h1
      rw [h1, h2]
    · rw [setRow_other w b j cs'.toArray hjb]
      exact k.keep j hj fun e hme hej => by
        rcases List.mem_cons.1 hme with rfl | h1
        · exact hjb hej.symm
        · have := hnew e h1; omega
  have hsz : (w.setRow b cs'.toArray).heap.size = w.heap.size := by simp [World.setRow]
  simp only at hb
  have k' : HP (w.setRow b cs'.toArray) nb w' :=
    ⟨k.os, k.tape, k.output, by rw [hsz]; exact k.size, fun j hj _ => hrow j (by rw [hsz] at hj; exact hj),
      fun e hme => k.own e (List.mem_cons_of_mem _ hme), fun e hme _ => by rw [hsz]; exact hnew e hme, by have := k.nodup; simp only [List.map_cons, List.nodup_cons] at this; exact this.2⟩
  exact hb.comp k' hn
end heap

section code
variable {P : Program} {w0 : World} {n : Nat} {l : Env} {bs : List Blk} {Q : Exit → Act → World → Prop}

theorem calls_entry {f : FuncId} {fn : Func} {c : Code} {args : Array Value} {w : World} {R : Ending → World → Prop} (bs : List Blk) (l : Env)
    (hf : P.funcs[f]? = some fn) (hb : fn.body = some c) (hn : fn.ntmps = n) (hh : HP w bs w) (hl : ∀ a : Act, a.defers = [] → a.tmps = args ++ Array.replicate (n - args.size) undef → EnvOK l n a)
    (h : WC P w n c l bs (bodyPost P fn R)) : Calls P f args w R := by
  subst hn
  exact calls_of_wp hf hb (h _ _ (hl _ rfl rfl) hh)

theorem env1 {v : Value} (hn : Nat.blt 0 n = true) (a : Act) (h1 : a.defers = []) (h2 : a.tmps = #[v] ++ Array.replicate (n - 1) undef) : EnvOK [(0, (true, v))] n a := by
  have hn' : 0 < n := by simpa [Nat.blt_eq] using hn
  refine ⟨h1, by rw [h2]; simp; omega, fun t g u hl => ?_⟩
  simp only [look] at hl
  cases hb : Nat.beq 0 t with
  | true => have := Nat.eq_of_beq_eq_true hb; subst this; rw [hb] at hl; simp at hl; obtain ⟨rfl, rfl⟩ := hl; rw [h2]; simp [Array.getElem?_append]
  | false => rw [hb] at hl; simp at hl
theorem env2 {v0 v1 : Value} (hn : Nat.blt 1 n = true) (a : Act) (h1 : a.defers = []) (h2 : a.tmps = #[v0, v1] ++ Array.replicate (n - 2) undef) : EnvOK [(0, (true, v0)), (1, (true, v1))] n a := by
  have hn' : 1 < n := by simpa [Nat.blt_eq] using hn
  refine ⟨h1, by rw [h2]; simp; omega, fun t g u hl => ?_⟩
  simp only [look] at hl
  match t, hl with
  | 0, hl => simp at hl; obtain ⟨rfl, rfl⟩ := hl; rw [h2]; simp [Array.getElem?_append]
  | 1, hl => simp at hl; obtain ⟨rfl, rfl⟩ := hl; rw [h2]; simp [Array.getElem?_append]
  | t + 2, hl => simp [Nat.beq] at hl
theorem env3 {v0 v1 v2 : Value} (hn : Nat.blt 2 n = true) (a : Act) (h1 : a.defers = []) (h2 : a.tmps = #[v0, v1, v2] ++ Array.replicate (n - 3) undef) : EnvOK [(0, (true, v0)), (1, (true, v1)), (2, (true, v2))] n a := by
  have hn' : 2 < n := by simpa [Nat.blt_eq] using hn
  refine ⟨h1, by rw [h2]; simp; omega, fun t g u hl => ?_⟩
  simp only [look] at hl
  match t, hl with
  | 0, hl => simp at hl; obtain ⟨rfl, rfl⟩ := hl; rw [h2]; simp [Array.getElem?_append]
  | 1, hl => simp at hl; obtain ⟨rfl, rfl⟩ := hl; rw [h2]; simp [Array.getElem?_append]
  | 2, hl => simp at hl; obtain ⟨rfl, rfl⟩ := hl; rw [h2]; simp [Array.getElem?_append]
  | t + 3, hl => simp [Nat.beq] at hl
theorem env4 {v0 v1 v2 v3 : Value} (hn : Nat.blt 3 n = true) (a : Act) (h1 : a.defers = []) (h2 : a.tmps = #[v0, v1, v2, v3] ++ Array.replicate (n - 4) undef) :
    EnvOK [(0, (true, v0)), (1, (true, v1)), (2, (true, v2)), (3, (true, v3))] n a := by
  have hn' : 3 < n := by simpa [Nat.blt_eq] using hn
  refine ⟨h1, by rw [h2]; simp; omega, fun t g u hl => ?_⟩
  simp only [look] at hl
  match t, hl with
  | 0, hl => simp at hl; obtain ⟨rfl, rfl⟩ := hl; rw [h2]; simp [Array.getElem?_append]
  | 1, hl => simp at hl; obtain ⟨rfl, rfl⟩ := hl; rw [h2]; simp [Array.getElem?_append]
  | 2, hl => simp at hl; obtain ⟨rfl, rfl⟩ := hl; rw [h2]; simp [Array.getElem?_append]
  | 3, hl => simp at hl; obtain ⟨rfl, rfl⟩ := hl; rw [h2]; simp [Array.getElem?_append]
  | t + 4, hl => simp [Nat.beq] at hl

theorem wc_seq {x y : Code} (h : WC P w0 n x l bs (Exit.then (y.wp P Q) Q)) : WC P w0 n (.seq x y) l bs Q := fun a w ha hw => wp_seq (h a w ha hw)
theorem wc_skip (h : PX w0 n Q .normal l bs) : WC P w0 n .skip l bs Q := fun a w ha hw => wp_skip (h a w ha hw)
theorem wc_ret (h : PX w0 n Q .ret l bs) : WC P w0 n .ret l bs Q := fun a w ha hw => wp_ret (h a w ha hw)
theorem wc_exit {id : Nat} (h : PX w0 n Q (.exit id) l bs) : WC P w0 n (.exit id) l bs Q := fun a w ha hw => wp_exit (h a w ha hw)
theorem wc_block {id : Nat} {c : Code} (h : WC P w0 n c l bs (Exit.inBlock id Q)) : WC P w0 n (.block id c) l bs Q := fun a w ha hw => wp_block (h a w ha hw)
theorem wc_cond {x : Operand} {c d : Code} {b : Bool} (hx : Look l n true x (.bool b)) (h1 : b = true → WC P w0 n c l bs Q) (h2 : b = false → WC P w0 n d l bs Q) : WC P w0 n (.cond x c d) l bs Q :=
  fun a w ha hw => wp_cond_split (hx a ha rfl) (fun e => h1 e a w ha hw) (fun e => h2 e a w ha hw)
theorem wc_region {id : Nat} {ops : List Oper} (h : WL P ops.toArray w0 n ops l bs Q) : WC P w0 n (.region id ops.toArray false) l bs Q :=
  fun a w ha hw => wp_region_lit (h a w ha hw)

theorem px_then {y : Code} (h : WC P w0 n y l bs Q) : PX w0 n (Exit.then (y.wp P Q) Q) .normal l bs := h
theorem px_then_k {K : Act → World → Prop} (h : ∀ a w, EnvOK l n a → HP w0 bs w → K a w) : PX w0 n (Exit.then K Q) .normal l bs := h
theorem px_then_ret {K : Act → World → Prop} (h : PX w0 n Q .ret l bs) : PX w0 n (Exit.then K Q) .ret l bs := h
theorem px_then_exit {K : Act → World → Prop} {id : Nat} (h : PX w0 n Q (.exit id) l bs) : PX w0 n (Exit.then K Q) (.exit id) l bs := h
theorem px_block {id : Nat} (h : PX w0 n Q .normal l bs) : PX w0 n (Exit.inBlock id Q) .normal l bs := h
theorem px_block_ret {id : Nat} (h : PX w0 n Q .ret l bs) : PX w0 n (Exit.inBlock id Q) .ret l bs := h
theorem px_block_exit {id : Nat} (h : PX w0 n Q .normal l bs) : PX w0 n (Exit.inBlock id Q) (.exit id) l bs := fun a w ha hw => by
  simp only [Exit.inBlock, if_true]; exact h a w ha hw
theorem px_block_exit' {id id' : Nat} (hne : Nat.beq id' id = false) (h : PX w0 n Q (.exit id') l bs) : PX w0 n (Exit.inBlock id Q) (.exit id') l bs := fun a w ha hw => by
  have : id' ≠ id := fun e => by subst e; simp [Nat.beq_refl] at hne
  simp only [Exit.inBlock, if_neg this]; exact h a w ha hw

/-- forget slots and blocks -/
theorem WC.weak {c : Code} {l' : Env} {bs' : List Blk} (h : WC P w0 n c l' bs' Q) (hl : SubE l l') (hb : ∀ w, HP w0 bs w → HP w0 bs' w) : WC P w0 n c l bs Q :=
  fun a w ha hw => h a w (ha.sub hl) (hb w hw)
theorem PX.weak {e : Exit} {l' : Env} {bs' : List Blk} (h : PX w0 n Q e l' bs') (hl : SubE l l') (hb : ∀ w, HP w0 bs w → HP w0 bs' w) : PX w0 n Q e l bs :=
  fun a w ha hw => h a w (ha.sub hl) (hb w hw)

theorem wc_trim {c : Code} {l' : Env} (hl : SubT l l') (h : WC P w0 n c l' bs Q) : WC P w0 n c l bs Q := fun a w ha hw => h a w (ha.subT hl) hw
theorem wc_weak {c : Code} {l' : Env} {bs' : List Blk} (hl : SubE l l') (hb : ∀ w, HP w0 bs w → HP w0 bs' w) (h : WC P w0 n c l' bs' Q) : WC P w0 n c l bs Q := h.weak hl hb

/-- a loop: states x of a type X of one's own, slots lx x, blocks bx x, a measure -/
theorem wc_loop {X : Type} (good : X → Prop) (lx : X → Env) (bx : X → List Blk) (mu : X → Nat) {c : Code} (x0 : X) (h0 : good x0) (hl : SubE l (lx x0)) (hb : ∀ w, HP w0 bs w → HP w0 (bx x0) w)
    (round : ∀ x, good x → WC P w0 n c (lx x) (bx x) (Exit.then (fun a w => ∃ x', (good x' ∧ mu x' < mu x) ∧ EnvOK (lx x') n a ∧ HP w0 (bx x') w) Q)) : WC P w0 n (.loop c) l bs Q := by
  have key : ∀ k x, mu x < k → good x → ∀ a w, EnvOK (lx x) n a → HP w0 (bx x) w → Code.rounds P c Q k a w := by
    intro k
    induction k with
    | zero => intro x hx; omega
    | succ k ih =>
      intro x hx hg a w ha hw
      rw [rounds_succ]
      refine wp_mono (round x hg a w ha hw) fun e a' w' hq => ?_
      cases e <;> try exact hq
      obtain ⟨x', ⟨hg', hm⟩, ha', hw'⟩ := hq
      exact ih x' (by omega) hg' a' w' ha' hw'
  intro a w ha hw
  exact wp_loop_rounds (mu x0 + 1) (key _ x0 (Nat.lt_succ_self _) h0 a w (ha.sub hl) (hb w hw))

/-- a loop that turns the slots mods x alone -/
theorem wc_loopl {X : Type} (good : X → Prop) (mods : X → Env) (bx : X → List Blk) (mu : X → Nat) {c : Code} (x0 : X) (h0 : good x0) (hl : SubE l (mods x0 ++ l)) (hb : ∀ w, HP w0 bs w → HP w0 (bx x0) w)
    (round : ∀ x, good x → WC P w0 n c (mods x ++ l) (bx x) (Exit.then (fun a w => ∃ x', (good x' ∧ mu x' < mu x) ∧ EnvOK (mods x' ++ l) n a ∧ HP w0 (bx x') w) Q)) : WC P w0 n (.loop c) l bs Q :=
  wc_loop good (fun x => mods x ++ l) bx mu x0 h0 hl hb round
/-- .. and no block that is there at its head -/
theorem wc_loop0 {X : Type} (good : X → Prop) (mods : X → Env) (mu : X → Nat) {c : Code} (x0 : X) (h0 : good x0) (hl : SubE l (mods x0 ++ l))
    (round : ∀ x, good x → WC P w0 n c (mods x ++ l) bs (Exit.then (fun a w => ∃ x', (good x' ∧ mu x' < mu x) ∧ EnvOK (mods x' ++ l) n a ∧ HP w0 bs w) Q)) : WC P w0 n (.loop c) l bs Q :=
  wc_loop good (fun x => mods x ++ l) (fun _ => bs) mu x0 h0 hl (fun _ h => h) round

theorem px_round0 {X : Type} {good : X → Prop} {lx : X → Env} {m : Nat} {mu : X → Nat} {bs0 : List Blk} (x' : X) (hg : good x') (hm : mu x' < m) (hl : SubE l (lx x')) (hb : ∀ w, HP w0 bs w → HP w0 bs0 w) :
    PX w0 n (Exit.then (fun a w => ∃ x', (good x' ∧ mu x' < m) ∧ EnvOK (lx x') n a ∧ HP w0 bs0 w) Q) .normal l bs :=
  fun _ w ha hw => ⟨x', ⟨hg, hm⟩, ha.sub hl, hb w hw⟩
theorem px_round {X : Type} {good : X → Prop} {lx : X → Env} {bx : X → List Blk} {m : Nat} {mu : X → Nat} (x' : X) (hg : good x') (hm : mu x' < m) (hl : SubE l (lx x')) (hb : ∀ w, HP w0 bs w → HP w0 (bx x') w) :
    PX w0 n (Exit.then (fun a w => ∃ x', (good x' ∧ mu x' < m) ∧ EnvOK (lx x') n a ∧ HP w0 (bx x') w) Q) .normal l bs :=
  fun _ w ha hw => ⟨x', ⟨hg, hm⟩, ha.sub hl, hb w hw⟩

/-! the end of a body -/
def aggSz (P : Program) (t : Nat) : Option Nat :=
  match P.underlying t with
  | some (.struct _) => match P.info? t with
    | some i => some i.size
    | none => none
  | _ => none
theorem aggTy_of {ty : TypeId} {k : Nat} (h : aggSz P ty = some k) : ∃ d, P.underlying ty = some d ∧ (match d with | .struct _ | .array _ _ => true | _ => false) = true ∧ (P.info? ty).map (·.size) = some k := by
  unfold aggSz at h
  split at h
  · rename_i fs hu
    split at h
    · rename_i i hi
      exact ⟨_, hu, rfl, by rw [hi]; exact h⟩
    · cases h
  · cases h

def ResOK (P : Program) (l : Env) (bs : List Blk) : ResultVar → Value → Prop
  | .tmp t, v => look l t = some (true, v)
  | .cell p ty, v => ∃ b nw t cs, look l p = some (true, .pointer (some ⟨b, 0, none⟩)) ∧ (⟨b, nw, t, cs⟩ : Blk) ∈ bs ∧ aggSz P ty = some cs.length ∧ v = .agg cs.toArray

theorem res_tmp {t : Nat} {v : Value} (h : look l t = some (true, v)) : ResOK P l bs (.tmp t) v := h
theorem res_cell {p ty b : Nat} {nw : Bool} {t : TypeId} {cs : List Value} (h : look l p = some (true, .pointer (some ⟨b, 0, none⟩))) (hm : (⟨b, nw, t, cs⟩ : Blk) ∈ bs) (ht : aggSz P ty = some cs.length) :
    ResOK P l bs (.cell p ty) (.agg cs.toArray) := ⟨b, nw, t, cs, h, hm, ht, rfl⟩

def resRun (a : Act) : ResultVar → Sem Value
  | .tmp t => pure (a.tmps.getD t undef)
  | .cell p t => do loadVar t (← asAddr (a.tmps.getD p undef))

theorem ResOK.run {r : ResultVar} {v : Value} (h : ResOK P l bs r v) {a : Act} {w : World} (ha : EnvOK l n a) (hw : HP w0 bs w) : (resRun a r).run P w = .ok v w := by
  cases r with
  | tmp t => have := ha.2.2 t true v h; simp only [resRun, this]; rfl
  | cell p ty =>
    obtain ⟨b, nw, t, cs, h1, h2, ht, rfl⟩ := h
    obtain ⟨d, hu, hd, hi⟩ := aggTy_of ht
    have := ha.2.2 p true _ h1
    simp only [resRun, this]
    have hr := run_loadVar_row (P := P) w b t ty cs.toArray (0, 0) d (hw.own _ h2) hu (by cases d <;> first | rfl | (simp at hd)) (by simpa using hi)
    simp [asAddr, hr]

theorem fin1 {fn : Func} {R : Ending → World → Prop} {r : ResultVar} {v : Value} (hr : fn.results = #[r]) (h : ResOK P l bs r v) (k : ∀ w, HP w0 bs w → R (.returned v) w) : PX w0 n (bodyPost P fn R) .ret l bs :=
  fun a w ha hw => ⟨ha.1, v, by
    have h1 := h.run ha hw
    have e : results fn a.tmps = (do let vs ← #[r].mapM (resRun a); pure (if h : vs.size = 1 then vs[0] else .tuple vs)) := by
      unfold results
      rw [hr]
      rfl
    rw [e]
    simp [Array.mapM_eq_mapM_toList, h1], k w hw⟩
theorem fin2 {fn : Func} {R : Ending → World → Prop} {r s : ResultVar} {v u : Value} (hr : fn.results = #[r, s]) (h : ResOK P l bs r v) (h' : ResOK P l bs s u) (k : ∀ w, HP w0 bs w → R (.returned (.tuple #[v, u])) w) : PX w0 n (bodyPost P fn R) .ret l bs :=
  fun a w ha hw => ⟨ha.1, .tuple #[v, u], by
    have h1 := h.run ha hw
    have h2 := h'.run ha hw
    have e : results fn a.tmps = (do let vs ← #[r, s].mapM (resRun a); pure (if h : vs.size = 1 then vs[0] else .tuple vs)) := by
      unfold results
      rw [hr]
      rfl
    rw [e]
    simp [Array.mapM_eq_mapM_toList, h1, h2], k w hw⟩
end code
end Go.Proofs.YtlejciainnlfeaaDoor
