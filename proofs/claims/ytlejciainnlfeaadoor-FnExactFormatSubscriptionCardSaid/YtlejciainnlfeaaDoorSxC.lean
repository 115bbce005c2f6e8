/- A small logic of frames and own blocks: regions whose order of evaluation is open. Generic in the program; no statement is proved here. -/
import Derived.Test.YtlejciainnlfeaaDoorSxB
namespace Go.Proofs.YtlejciainnlfeaaDoor
open Go.RowKit

section quiet
variable {P : Program} {ops : Array Oper} {w0 : World} {n : Nat} {l : Env} {bs : List Blk} {G : Bool} {d : Tmp} {ty : TypeId} {pos : String} {af : Array Edge} {gd : Option (Nat × Bool)} {op : Op} {rest : List Oper}
  {Q : Exit → Act → World → Prop}

/-- all operations read, or call what leaves our memory alone: one walk in the order of the text -/
def WQ (P : Program) (ops : Array Oper) (w0 : World) (n : Nat) (bs : List Blk) (rest : List Oper) (l : Env) (Qa : Act → Prop) : Prop := ∀ a, EnvOK l n a → wpQuiet P ops (HP w0 bs) Qa rest a

theorem wc_region_q {id : Nat} {ops : List Oper} (hm : P.follows .mixedOrders = true) (hB : Region.lexB .any ops.toArray = true)
    (h : WQ P ops.toArray w0 n bs ops l (fun a' => ∀ w', HP w0 bs w' → Q .normal a' w')) : WC P w0 n (.region id ops.toArray true) l bs Q := fun a _ ha hw =>
  wp_region_quiet (C := HP w0 bs) hm hB hw.drew' (by simpa using h a ha)

variable {Qa : Act → Prop}
theorem wq_val {v : Value} (hg : GD ops l n ⟨some d, op, ty, pos, af, gd⟩ G) (hd : Nat.blt d n = true) (hv : Val P w0 n l bs G ⟨some d, op, ty, pos, af, gd⟩ v) (k : WQ P ops w0 n bs rest ((d, (G, v)) :: l) Qa) :
    WQ P ops w0 n bs (⟨some d, op, ty, pos, af, gd⟩ :: rest) l Qa := fun a ha => by
  refine wpQuiet_step fun K hK => ?_
  rw [hg a ha]
  cases G with
  | false => simp only [Bool.false_eq_true, if_false]; exact hK _ (k _ (ha.put (blt_lt hd) false v undef rfl))
  | true =>
    simp only [if_true]
    refine ⟨v, fun w hw => ?_, hK _ (k _ (ha.put (blt_lt hd) true v v rfl))⟩
    unfold Oper.quietAt
    rw [hv a w ha hw rfl]
    exact ⟨rfl, rfl⟩
theorem wq_v {v : Value} (hd : Nat.blt d n = true) (hv : Val P w0 n l bs true ⟨some d, op, ty, pos, af, none⟩ v) (k : WQ P ops w0 n bs rest ((d, (true, v)) :: l) Qa) :
    WQ P ops w0 n bs (⟨some d, op, ty, pos, af, none⟩ :: rest) l Qa := wq_val gd_none hd hv k
theorem wq_call {f : FuncId} {args : List Operand} {atys : Array TypeId} {vals : List Value} {v : Value} (hg : GD ops l n ⟨some d, .call ⟨.value (.func f), args.toArray, atys⟩, ty, pos, af, gd⟩ G) (hd : Nat.blt d n = true) (hci : CI P f)
    (ha : Args l n G args vals) (hc : G = true → ∀ w, HP w0 bs w → Calls P f vals.toArray w fun e w' => e = .returned v ∧ HP w [] w')
    (k : WQ P ops w0 n bs rest ((d, (G, v)) :: l) Qa) : WQ P ops w0 n bs (⟨some d, .call ⟨.value (.func f), args.toArray, atys⟩, ty, pos, af, gd⟩ :: rest) l Qa := fun a hea => by
  refine wpQuiet_step fun K hK => ?_
  rw [hg a hea]
  cases G with
  | false => simp only [Bool.false_eq_true, if_false]; exact hK _ (k _ (hea.put (blt_lt hd) false v undef rfl))
  | true =>
    simp only [if_true]
    refine ⟨v, fun w hw => ?_, hK _ (k _ (hea.put (blt_lt hd) true v v rfl))⟩
    unfold Oper.quietAt
    rw [run_call (vals := vals.toArray) hci a (by simp [ha.map a hea rfl]) w]
    exact ⟨rfl, (hc rfl w hw).mono fun e w' ⟨he, hh⟩ => ⟨he, hw.comp0 hh⟩⟩
theorem wq_nil (h : PX w0 n Q .normal l bs) : WQ P ops w0 n bs [] l (fun a' => ∀ w', HP w0 bs w' → Q .normal a' w') := fun a ha => wpQuiet_nil fun w hw => h a w ha hw
end quiet

section any
variable {P : Program} {ops : Array Oper} {C : Nat → World → Prop} {D : World → Prop} {R : Act → World → Prop}

def NoExit : Exit → Act → World → Prop := fun _ _ _ => False

/-- whatever order is picked; nothing panics; every world on the way is of class C -/
def wpAnyN (P : Program) (ops : Array Oper) (C : Nat → World → Prop) (R : Act → World → Prop) : Nat → Array Bool → Act → World → Prop
  | 0, listed, a, w => Region.ready .any ops listed = [] ∧ R a w
  | fuel + 1, listed, a, w =>
    (Region.ready .any ops listed = [] → R a w) ∧
    ∀ i ∈ Region.ready .any ops listed, wpOp P ops NoExit i (fun a' w' => C i w' ∧ wpAnyN P ops C R fuel (listed.setIfInBounds i true) a' w') a w

theorem letsOut_no : ¬ LetsOut NoExit := fun ⟨_, _, h⟩ => h

theorem wp_no {o : Oper} {a : Act} {w : World} {K K' : Act → World → Prop} {Q : Exit → Act → World → Prop} (h : o.wp P a w K NoExit) (hK : ∀ a w, K a w → K' a w) : o.wp P a w K' Q := by
  unfold Oper.wp at *
  generalize (execOp a.eval o).run P w = r at *
  cases r with
  | ok x w' =>
    cases x <;> simp only [Oper.upon] at h ⊢
    case value u => exact hK _ _ h
    case skip => exact hK _ _ h
    case defer d => exact hK _ _ h
    case enter f args =>
      refine Calls.mono h fun e w'' he => ?_
      cases e with
      | returned u => exact hK _ _ he
      | panicked c => exact he.elim
      | outgrown => exact (letsOut_no he).elim
    case row row args => exact Rows.mono h fun _ _ he => hK _ _ he
  | halt x w' =>
    cases x <;> simp only [Oper.upon] at h ⊢
    case panic u => exact h.elim

theorem wpOp_no {i : Nat} {a : Act} {w : World} {K K' : Act → World → Prop} {Q : Exit → Act → World → Prop} (h : wpOp P ops NoExit i K a w) (hK : ∀ a w, K a w → K' a w) : wpOp P ops Q i K' a w := by
  unfold wpOp at *
  split
  · exact hK _ _ (by simpa [*] using h)
  · rename_i o ho
    simp only [ho] at h
    split
    · rename_i hw
      simp only [hw, if_true] at h
      rcases h with h | ⟨_, h⟩
      · exact .inl (wp_no h hK)
      · exact (letsOut_no h).elim
    · rename_i hw
      simp only [hw] at h
      exact hK _ _ h

theorem wpAny_of_N {Q : Exit → Act → World → Prop} (hQ : ∀ a w, R a w → Q .normal a w) : ∀ (fuel : Nat) (listed : Array Bool) (a : Act) (w : World), wpAnyN P ops C R fuel listed a w → wpAny P .any ops Q fuel listed a w
  | 0, _, _, _, h => ⟨h.1, hQ _ _ h.2⟩
  | fuel + 1, _, _, _, h => ⟨fun h0 => hQ _ _ (h.1 h0), fun i hi => wpOp_no (h.2 i hi) fun a' w' h' => wpAny_of_N hQ fuel _ a' w' h'.2⟩

/-- in state a, in every world of the class, operation o yields v and leaves the world alone; or its guard says no -/
def YieldsC (P : Program) (ops : Array Oper) (D : World → Prop) (o : Oper) (v : Value) (a : Act) : Prop :=
  (Region.wanted o (yielded ops a.tmps) = true ∧ ∀ w, D w → (execOp a.eval o).run P w = .ok (.value v) w) ∨
  (Region.wanted o (yielded ops a.tmps) = false ∧ v = undef)

theorem YieldsC.of_same {o : Oper} {v : Value} {a a' : Act} (hy : YieldsC P ops D o v a) (he : execOp a'.eval o = execOp a.eval o)
    (hw : Region.wanted o (yielded ops a'.tmps) = Region.wanted o (yielded ops a.tmps)) : YieldsC P ops D o v a' := by
  unfold YieldsC at *
  rw [he, hw]
  exact hy

theorem YieldsC.wpOp {i : Nat} {o : Oper} {v : Value} {a : Act} (hi : ops[i]? = some o) (hy : YieldsC P ops D o v a) {K : Act → World → Prop} {w : World} (hC : D w) (h : K (a.put o.dst v) w) : wpOp P ops NoExit i K a w := by
  unfold Go.wpOp
  simp only [hi]
  rcases hy with ⟨hw, hv⟩ | ⟨hw, rfl⟩
  · simp only [hw, if_true, Oper.wp, hv w hC, Oper.upon]; exact .inl h
  · simp only [hw, Bool.false_eq_true, if_false]; exact h

theorem wpOpN_put {j : Nat} {oi oj : Oper} {v : Value} (hj : ops[j]? = some oj) (hap : oi.apart ops oj = true)
    (hsi : ∀ cs b, oi.op ≠ .select cs b) (hsj : ∀ cs b, oj.op ≠ .select cs b) {K : Act → World → Prop} {a : Act} {w : World}
    (hy : YieldsC P ops D oi v a) (h : wpOp P ops NoExit j K (a.put oi.dst v) w) :
    wpOp P ops NoExit j (fun a' w' => YieldsC P ops D oi v a' ∧ K (a'.put oi.dst v) w') a w := by
  obtain ⟨h1, h2, h3⟩ := Oper.apart_spec hap
  have keep : ∀ (a : Act), YieldsC P ops D oi v a → ∀ u, YieldsC P ops D oi v (a.put oj.dst u) := fun a hy u =>
    hy.of_same (execOp_put oi hsi a oj.dst u h3) (wanted_put oi a oj.dst u h3)
  have keepD : ∀ d, YieldsC P ops D oi v { a with defers := d :: a.defers } := fun d => hy.of_same rfl rfl
  unfold wpOp at *
  simp only [hj] at *
  rw [wanted_put oj a oi.dst v h1] at h
  split
  · rename_i hw
    simp only [hw, if_true] at h
    rcases h with h | ⟨_, hlets⟩
    case inr => exact (letsOut_no hlets).elim
    refine .inl ?_
    unfold Oper.wp at *
    rw [execOp_put oj hsj a oi.dst v h1] at h
    generalize (execOp a.eval oj).run P w = r at *
    cases r with
    | ok x w' =>
      cases x <;> simp only [Oper.upon] at h ⊢
      case value u => exact ⟨keep a hy u, by rw [← Act.put_comm a v u h2]; exact h⟩
      case skip => exact ⟨keep a hy _, by rw [← Act.put_comm a v undef h2]; exact h⟩
      case defer d =>
        refine ⟨keep _ (keepD d) _, ?_⟩
        rw [← Act.put_comm _ v undef h2, ← Act.put_defers]
        exact h
      case enter f args =>
        refine Calls.mono h fun e w'' he => ?_
        cases e with
        | returned u => exact ⟨keep a hy u, by rw [← Act.put_comm a v u h2]; exact he⟩
        | panicked c => exact he.elim
        | outgrown => exact he
      case row row args => exact Rows.mono h fun u w'' he => ⟨keep a hy u, by rw [← Act.put_comm a v u h2]; exact he⟩
    | halt x w' =>
      cases x <;> simp only [Oper.upon] at h ⊢
      case panic u => exact h.elim
  · rename_i hw
    simp only [hw] at h
    exact ⟨keep a hy _, by rw [← Act.put_comm a v undef h2]; exact h⟩

theorem wpAnyN_first {i : Nat} {oi : Oper} {v : Value} (hi : ops[i]? = some oi) (hsel : ∀ (j : Nat) (o : Oper) cs b, ops[j]? = some o → o.op ≠ .select cs b)
    (hDC : ∀ w, D w → C i w) (hCD : ∀ j oj w, j ≠ i → ops[j]? = some oj → (∀ e ∈ oj.after, Region.binds .any e = true → e.on ≠ i) → C j w → D w) :
    ∀ (fuel : Nat) (listed : Array Bool) (a : Act) (w : World), D w →
      (∀ j oj, ops[j]? = some oj → j ≠ i → listed.getD j true = false → (∀ e ∈ oj.after, Region.binds .any e = true → e.on ≠ i) → oi.apart ops oj = true) →
      i ∈ Region.ready .any ops listed → YieldsC P ops D oi v a →
      wpAnyN P ops C R fuel (listed.setIfInBounds i true) (a.put oi.dst v) w → wpAnyN P ops C R (fuel + 1) listed a w := by
  intro fuel
  induction fuel with
  | zero =>
    intro listed a w hC _ hr hy H
    refine ⟨fun h => (by rw [h] at hr; cases hr), fun j hj => ?_⟩
    by_cases hji : j = i
    · subst hji; exact hy.wpOp hi hC ⟨hDC _ hC, H⟩
    · have := ready_mono hj hji
      rw [H.1] at this
      cases this
  | succ fuel ih =>
    intro listed a w hC hfree hr hy H
    refine ⟨fun h => (by rw [h] at hr; cases hr), fun j hj => ?_⟩
    by_cases hji : j = i
    · subst hji; exact hy.wpOp hi hC ⟨hDC _ hC, H⟩
    · have h1 := H.2 j (ready_mono hj hji)
      obtain ⟨hjun, oj, hoj, hall⟩ := mem_ready.1 hj
      have hnot : ∀ e ∈ oj.after, Region.binds .any e = true → e.on ≠ i := fun e he hb heq => by
        have h1 := hall e he hb
        have h0 := (mem_ready.1 hr).1
        rw [heq] at h1
        rcases Nat.lt_or_ge i listed.size with h' | h'
        · simp [h'] at h0 h1; rw [h0] at h1; cases h1
        · simp [Array.getElem?_eq_none h'] at h1
      have h2 := wpOpN_put hoj (hfree j oj hoj hji hjun hnot) (fun cs b => hsel i oi cs b hi) (fun cs b => hsel j oj cs b hoj) hy h1
      have hfree' : ∀ k ok, ops[k]? = some ok → k ≠ i → (listed.setIfInBounds j true).getD k true = false →
          (∀ e ∈ ok.after, Region.binds .any e = true → e.on ≠ i) → oi.apart ops ok = true := fun k ok hk hki hun hno => by
        refine hfree k ok hk hki ?_ hno
        by_cases hjk : j = k
        · subst hjk; exact hjun
        · rw [getD_set_ne true hjk] at hun; exact hun
      refine wpOp_mono (fun a' w' h3 => ⟨h3.2.1, ih (listed.setIfInBounds j true) a' w' (hCD j oj w' hji hoj hnot h3.2.1) hfree' (ready_mono hr (Ne.symm hji)) h3.1 ?_⟩) h2
      rw [Array.setIfInBounds_comm _ _ hji]
      exact h3.2.2

variable {w0 : World} {n : Nat} {l : Env} {bs bsC : List Blk} {Q : Exit → Act → World → Prop}

/-- the class of worlds on the way: what has been known, until operation L (the last one) is done -/
def CL (L : Nat) (w0 : World) (bs : List Blk) (i : Nat) (w : World) : Prop := i = L ∨ HP w0 bs w
/-- operation L waits for operation i -/
def lastOK (ops : Array Oper) (L i : Nat) : Bool := (i != L) && match ops[L]? with
  | none => true
  | some o => o.after.any fun e => Region.binds .any e && e.on == i
theorem lastOK_spec {L i : Nat} (h : lastOK ops L i = true) : i ≠ L ∧ ∀ oj : Oper, ops[L]? = some oj → ¬ ∀ e ∈ oj.after, Region.binds .any e = true → e.on ≠ i := by
  unfold lastOK at h
  rw [Bool.and_eq_true] at h
  refine ⟨by simpa using h.1, fun oj ho hh => ?_⟩
  have h2 := h.2
  rw [ho] at h2
  obtain ⟨e, he, h3⟩ := Array.any_eq_true'.1 h2
  rw [Bool.and_eq_true] at h3
  exact hh e he h3.1 (by simpa using h3.2)
def WA (P : Program) (ops : Array Oper) (w0 : World) (n : Nat) (C : Nat → World → Prop) (fuel : Nat) (listed : Array Bool) (l : Env) (bs : List Blk) (R : Act → World → Prop) : Prop :=
  ∀ a w, EnvOK l n a → HP w0 bs w → wpAnyN P ops C R fuel listed a w

theorem wc_region_a {id : Nat} {ops : List Oper} (L : Nat) (bsC : List Blk) (m : Nat) (hm : P.follows .mixedOrders = true) (hsz : ops.length = m)
    (h : WA P ops.toArray w0 n (CL L w0 bsC) m (Array.replicate m false) l bs (Q .normal)) : WC P w0 n (.region id ops.toArray true) l bs Q := fun a w ha hw =>
  wp_region_any hm (by
    have := wpAny_of_N (Q := Q) (fun _ _ h => h) _ _ _ _ (h a { w with drawn := w.drawn + 1 } ha hw.drew')
    simpa [hsz] using this)

theorem wc_region_a0 {id : Nat} {ops : List Oper} (m : Nat) (hm : P.follows .mixedOrders = true) (hsz : ops.length = m)
    (h : WA P ops.toArray w0 n (CL 1000000 w0 bs) m (Array.replicate m false) l bs (Q .normal)) : WC P w0 n (.region id ops.toArray true) l bs Q := wc_region_a 1000000 bs m hm hsz h
theorem wc_region_aL {id : Nat} {ops : List Oper} (L : Nat) (m : Nat) (hm : P.follows .mixedOrders = true) (hsz : ops.length = m)
    (h : WA P ops.toArray w0 n (CL L w0 bs) m (Array.replicate m false) l bs (Q .normal)) : WC P w0 n (.region id ops.toArray true) l bs Q := wc_region_a L bs m hm hsz h

/-- an operation that only reads what class C knows is taken first -/
theorem wa_take {fuel L : Nat} {listed : Array Bool} {G : Bool} {d : Tmp} {op : Op} {ty : TypeId} {pos : String} {af : Array Edge} {gd : Option (Nat × Bool)} {v : Value} (i : Nat) (hi : ops[i]? = some ⟨some d, op, ty, pos, af, gd⟩)
    (hL : lastOK ops L i = true) (hs : Region.noSelect ops = true) (hf : Region.free .any ops listed i = true) (hr : (Region.ready .any ops listed).contains i = true) (hb : ∀ w, HP w0 bs w → HP w0 bsC w)
    (hg : GD ops l n ⟨some d, op, ty, pos, af, gd⟩ G) (hd : Nat.blt d n = true) (hv : Val P w0 n l bsC G ⟨some d, op, ty, pos, af, gd⟩ v)
    (k : WA P ops w0 n (CL L w0 bsC) fuel (listed.setIfInBounds i true) ((d, (G, v)) :: l) bs R) : WA P ops w0 n (CL L w0 bsC) (fuel + 1) listed l bs R := fun a w ha hw => by
  have hCD : ∀ j oj w, j ≠ i → ops[j]? = some oj → (∀ e ∈ oj.after, Region.binds .any e = true → e.on ≠ i) → CL L w0 bsC j w → HP w0 bsC w := fun j oj w _ ho hn hc => by
    rcases hc with rfl | h
    · exact absurd hn ((lastOK_spec hL).2 oj ho)
    · exact h
  cases G with
  | false =>
    exact wpAnyN_first (D := HP w0 bsC) hi (Region.noSelect_spec hs) (fun _ h => .inr h) hCD fuel listed a w (hb w hw) (Region.free_spec hi hf) (by simpa using hr) (.inr ⟨hg a ha, rfl⟩) (k _ w (ha.put (blt_lt hd) false v undef rfl) hw)
  | true =>
    exact wpAnyN_first (D := HP w0 bsC) hi (Region.noSelect_spec hs) (fun _ h => .inr h) hCD fuel listed a w (hb w hw) (Region.free_spec hi hf) (by simpa using hr) (.inl ⟨hg a ha, fun w' hw' => hv a w' ha hw' rfl⟩) (k _ w (ha.put (blt_lt hd) true v v rfl) hw)

def QN (C : World → Prop) (K : Act → World → Prop) : Exit → Act → World → Prop
  | .normal, a, w => C w ∧ K a w
  | _, _, _ => False

theorem qn_no {C' : World → Prop} {K : Act → World → Prop} {o : Oper} {a : Act} {w : World} {K' : Act → World → Prop} (h : o.wp P a w K' (QN C' K)) : o.wp P a w K' NoExit := by
  unfold Oper.wp at *
  generalize (execOp a.eval o).run P w = r at *
  cases r with
  | ok x w' =>
    cases x <;> simp only [Oper.upon] at h ⊢
    case value u => exact h
    case skip => exact h
    case defer d => exact h
    case enter f args =>
      refine Calls.mono h fun e w'' he => ?_
      cases e with
      | returned u => exact he
      | panicked c => exact he.elim
      | outgrown => obtain ⟨_, _, hq⟩ := he; exact hq.elim
    case row row args => exact h
  | halt x w' =>
    cases x <;> simp only [Oper.upon] at h ⊢
    case panic u => exact h.elim

/-- one operation alone may come up -/
theorem wa_only {fuel : Nat} {listed : Array Bool} {o : Oper} (i : Nat) (hr : Region.ready .any ops listed = [i]) (hi : ops[i]? = some o)
    (h : WL P ops w0 n [o] l bs (QN (C i) (wpAnyN P ops C R fuel (listed.setIfInBounds i true)))) : WA P ops w0 n C (fuel + 1) listed l bs R := fun a w ha hw => by
  refine ⟨fun h0 => (by rw [hr] at h0; cases h0), fun j hj => ?_⟩
  rw [hr] at hj
  have hji : j = i := by simpa using hj
  subst hji
  have h1 := h a w ha hw
  unfold wpOp
  simp only [hi]
  unfold wpList at h1
  split
  · rename_i hw1
    simp only [hw1, if_true] at h1
    rcases h1 with h1 | ⟨_, h1⟩
    · exact .inl (qn_no h1)
    · obtain ⟨_, _, hq⟩ := h1
      exact hq.elim
  · rename_i hw1
    simp only [hw1] at h1
    exact h1

theorem px_qn {fuel L i : Nat} {listed : Array Bool} (hb : ∀ w, HP w0 bs w → HP w0 bsC w) (h : WA P ops w0 n (CL L w0 bsC) fuel listed l bs R) : PX w0 n (QN (CL L w0 bsC i) (wpAnyN P ops (CL L w0 bsC) R fuel listed)) .normal l bs := fun a w ha hw => ⟨.inr (hb w hw), h a w ha hw⟩
theorem px_ql {fuel L : Nat} {listed : Array Bool} (h : WA P ops w0 n (CL L w0 bsC) fuel listed l bs R) : PX w0 n (QN (CL L w0 bsC L) (wpAnyN P ops (CL L w0 bsC) R fuel listed)) .normal l bs := fun a w ha hw => ⟨.inl rfl, h a w ha hw⟩

theorem wa_done {fuel : Nat} {listed : Array Bool} (hr : Region.ready .any ops listed = []) (h : PX w0 n Q .normal l bs) : WA P ops w0 n C fuel listed l bs (Q .normal) := fun a w ha hw => by
  cases fuel with
  | zero => exact ⟨hr, h a w ha hw⟩
  | succ fuel => exact ⟨fun _ => h a w ha hw, fun i hi => by rw [hr] at hi; cases hi⟩

/-- forget new blocks by a mask -/
def maskB : List Bool → List Blk → List Blk
  | true :: m, b :: bs => b :: maskB m bs
  | false :: m, _ :: bs => maskB m bs
  | _, _ => []
def maskOK : List Bool → List Blk → Bool
  | true :: m, _ :: bs => maskOK m bs
  | false :: m, b :: bs => b.new && maskOK m bs
  | [], bs => bs.all (·.new)
  | _ :: _, [] => true

theorem maskB_sub : ∀ (m : List Bool) (bs : List Blk), (maskB m bs).Sublist bs
  | [], _ => by simp [maskB]
  | true :: m, b :: bs => by simpa [maskB] using maskB_sub m bs
  | false :: m, b :: bs => by simp only [maskB]; exact (maskB_sub m bs).cons b
  | true :: _, [] => by simp [maskB]
  | false :: _, [] => by simp [maskB]
theorem maskOK_mem : ∀ (m : List Bool) (bs : List Blk), maskOK m bs = true → ∀ e ∈ bs, e.new = true ∨ e ∈ maskB m bs
  | [], bs, h, e, he => .inl (by simp only [maskOK] at h; simpa using (List.all_eq_true.1 h) e he)
  | true :: m, b :: bs, h, e, he => by
    rcases List.mem_cons.1 he with rfl | h1
    · exact .inr (by simp [maskB])
    · rcases maskOK_mem m bs (by simpa [maskOK] using h) e h1 with h2 | h2
      · exact .inl h2
      · exact .inr (by simp [maskB, h2])
  | false :: m, b :: bs, h, e, he => by
    simp only [maskOK, Bool.and_eq_true] at h
    rcases List.mem_cons.1 he with rfl | h1
    · exact .inl h.1
    · exact maskOK_mem m bs h.2 e h1
  | true :: _, [], _, e, he => absurd he (by simp)
  | false :: _, [], _, e, he => absurd he (by simp)

theorem wc_region_am {P : Program} {w0 : World} {n : Nat} {l : Env} {bs : List Blk} {Q : Exit → Act → World → Prop} {id : Nat} {ops : List Oper} (mk : List Bool) (m : Nat) (hm : P.follows .mixedOrders = true) (hsz : ops.length = m)
    (h : WA P ops.toArray w0 n (CL 1000000 w0 (maskB mk bs)) m (Array.replicate m false) l bs (Q .normal)) : WC P w0 n (.region id ops.toArray true) l bs Q := wc_region_a 1000000 (maskB mk bs) m hm hsz h

theorem HP.mask {w : World} (h : HP w0 bs w) (m : List Bool) (hm : maskOK m bs = true) : HP w0 (maskB m bs) w :=
  h.part (fun _ he => (maskB_sub m bs).subset he) (maskOK_mem m bs hm) (((maskB_sub m bs).map (·.b)).nodup h.nodup)
end any
end Go.Proofs.YtlejciainnlfeaaDoor
