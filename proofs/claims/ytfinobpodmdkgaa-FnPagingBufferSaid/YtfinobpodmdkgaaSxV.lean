/- Lists of payloads: what is owned, what can be read; rules for calls that make or write them. -/
import Derived.Test.YtfinobpodmdkgaaSxT
namespace Go.Proofs.Ytfinobpodmdkgaa
open Go.RowKit


abbrev PS := List (List Int)
/-- a payload's bytes in a block of their own: block, capacity, bytes, spare cells -/
structure Inn where
  d : Nat
  c : Nat
  xs : List Int
  sp : List Value
def Inn.cell (i : Inn) : Value := .slice (some ⟨i.d, 0, none⟩) i.xs.length i.c
def Inn.blk (i : Inn) : Blk := ⟨i.d, true, 5, bv i.xs ++ i.sp⟩
def inB (ds : List Inn) : List Blk := ds.map Inn.blk
def inC (ds : List Inn) : List Value := ds.map Inn.cell
def pays (ds : List Inn) : PS := ds.map (·.xs)
def inT : List (List Inn) → List Blk
  | [] => []
  | ds :: r => inB ds ++ inT r
def oldB (bs : List Blk) : List Blk := bs.map fun e => ⟨e.b, false, e.t, e.cs⟩
theorem oldB_old (bs : List Blk) : oldB (oldB bs) = oldB bs := by simp [oldB]
theorem inB_new (ds : List Inn) : (inB ds).all (·.new) = true := by simp [inB, Inn.blk]
theorem inT_new : ∀ Ds : List (List Inn), (inT Ds).all (·.new) = true
  | [] => rfl
  | ds :: r => by rw [inT, List.all_append, inB_new, inT_new r]; rfl
theorem inT_append : ∀ Ds Es : List (List Inn), inT (Ds ++ Es) = inT Ds ++ inT Es
  | [], _ => rfl
  | ds :: r, Es => by rw [List.cons_append, inT, inT, inT_append r, List.append_assoc]
theorem inT_mem : ∀ {Ds : List (List Inn)} {j : Nat} {ds : List Inn} {e : Blk}, Ds[j]? = some ds → e ∈ inB ds → e ∈ inT Ds
  | x :: r, 0, ds, e, hj, he => by
    have : x = ds := by simpa using hj
    subst this
    exact List.mem_append_left _ he
  | x :: r, j + 1, ds, e, hj, he => List.mem_append_right _ (inT_mem (by simpa using hj) he)
  | [], _, _, _, hj, _ => by simp at hj
theorem inT_sub : ∀ gs : List (Bool × List Inn), (inT ((gs.filter (·.1)).map (·.2))).Sublist (inT (gs.map (·.2)))
  | [] => List.Sublist.refl _
  | (true, ds) :: r => by simpa [inT] using (inT_sub r)
  | (false, ds) :: r => by simpa [inT] using (inT_sub r).trans (List.sublist_append_right _ _)
theorem pays_len (ds : List Inn) : (pays ds).length = ds.length := by simp [pays]
theorem inC_len (ds : List Inn) : (inC ds).length = ds.length := by simp [inC]
theorem maskB_take : ∀ (m : List Bool) (bs : List Blk), maskB m bs = maskB m (bs.take m.length)
  | [], _ => rfl
  | true :: m, b :: bs => by simp [maskB, maskB_take m bs]
  | false :: m, b :: bs => by simp [maskB, maskB_take m bs]
  | true :: _, [] => rfl
  | false :: _, [] => rfl
section
variable {w0 w w' : World} {bs : List Blk}
/-- forget some of our blocks, and some of the groups behind them -/
theorem HP.maskG (h : HP w0 bs w) (m : List Bool) (gs : List (Bool × List Inn)) (hbs : bs.drop m.length = inT (gs.map (·.2))) (hm : maskOK m (bs.take m.length) = true) : HP w0 (maskB m bs ++ inT ((gs.filter (·.1)).map (·.2))) w := by
  have hsub : (maskB m bs ++ inT ((gs.filter (·.1)).map (·.2))).Sublist bs := by
    rw [maskB_take]
    conv => rhs; rw [← List.take_append_drop m.length bs]
    rw [hbs]
    exact (maskB_sub m _).append (inT_sub gs)
  refine h.part (fun e he => hsub.subset he) (fun e he => ?_) ((hsub.map (·.b)).nodup h.nodup)
  rw [← List.take_append_drop m.length bs, hbs] at he
  rcases List.mem_append.1 he with h1 | h1
  · rcases maskOK_mem m _ hm e h1 with h2 | h2
    · exact .inl h2
    · exact .inr (List.mem_append_left _ (by rw [maskB_take]; exact h2))
  · exact .inl (by simpa using (List.all_eq_true.1 (inT_new _)) e h1)
theorem drop_new {m : Nat} {Ds : List (List Inn)} (hbs : bs.drop m = inT Ds) (hc : (bs.take m).all (·.new) = true) : bs.all (·.new) = true := by
  rw [← List.take_append_drop m bs, hbs, List.all_append, hc, inT_new]
  rfl
theorem drop_mem {m j : Nat} {Ds : List (List Inn)} {ds : List Inn} (hbs : bs.drop m = inT Ds) (hj : Ds[j]? = some ds) : ∀ e ∈ inB ds, e ∈ bs := fun e he => by
  refine List.mem_of_mem_drop (i := m) ?_
  rw [hbs]
  exact inT_mem hj he
/-- a list of payloads that can be read -/
structure Pay (w : World) (A : Option Addr) (b o : Nat) (ps : PS) : Prop where
  head : 0 < ps.length → A = some ⟨b, o, none⟩
  cell : ∀ k, k < ps.length → ∃ (B : Option Addr) (b' o' c' : Nat), w.cell? ⟨b, o + k * 1, none⟩ = some (.slice B (nth [] ps k).length c') ∧ Sl w B b' o' (bv (nth [] ps k))
theorem Pay.nil {A : Option Addr} {b o : Nat} : Pay w A b o [] := ⟨fun h => absurd h (by simp), fun k hk => absurd hk (by simp)⟩
theorem Pay.hp {A : Option Addr} {b o : Nat} {ps : PS} (h : Pay w0 A b o ps) (hw : HP w0 bs w) (hb : bs.all (·.new) = true) : Pay w A b o ps :=
  ⟨h.head, fun k hk => by
    obtain ⟨B, b', o', c', h1, h2⟩ := h.cell k hk
    exact ⟨B, b', o', c', cell_old (G := true) hb (fun _ => h1) w hw rfl, h2.hp hw hb⟩⟩
theorem Pay.hpT {A : Option Addr} {b o m : Nat} {ps : PS} {Ds : List (List Inn)} (h : Pay w0 A b o ps) (hw : HP w0 bs w) (hbs : bs.drop m = inT Ds) (hc : (bs.take m).all (·.new) = true) : Pay w A b o ps := h.hp hw (drop_new hbs hc)
theorem Pay.own {g j m : Nat} {nw : Bool} {t : TypeId} {ps : PS} {ds d0 : List Inn} {sp : List Value} {Ds : List (List Inn)} (hw : HP w0 bs w) (hm : (⟨g, nw, t, inC d0 ++ sp⟩ : Blk) ∈ bs) (he : inC ds = inC d0) (hbs : bs.drop m = inT Ds) (hj : Ds[j]? = some ds) (hp : pays ds = ps) : Pay w (some ⟨g, 0, none⟩) g 0 ps := by
  subst hp
  rw [← he] at hm
  refine ⟨fun _ => rfl, fun k hk => ?_⟩
  have hk2 : k < ds.length := by rwa [pays_len] at hk
  have e1 : nth [] (pays ds) k = (ds[k]).xs := by rw [nth_eq hk]; simp [pays]
  refine ⟨some ⟨(ds[k]).d, 0, none⟩, (ds[k]).d, 0, (ds[k]).c, ?_, ?_⟩
  · rw [hw.cell hm, Nat.zero_add, Nat.mul_one, List.getElem?_append_left (by rw [inC_len]; exact hk2), e1]
    simp [inC, hk2, Inn.cell]
  · rw [e1]
    exact Sl.own (nw := true) (t := 5) (sp := (ds[k]).sp) hw (drop_mem hbs hj _ (List.mem_map.2 ⟨ds[k], List.getElem_mem _, rfl⟩))
theorem Pay.drop {A : Option Addr} {b o i : Nat} {ps : PS} (h : Pay w A b o ps) {C : Option Addr} (hC : i < ps.length → C = A.map (·.add (i * 1))) : Pay w C b (o + i * 1) (ps.drop i) := by
  refine ⟨fun hp => ?_, fun k hk => ?_⟩
  · simp only [List.length_drop] at hp
    rw [hC (by omega), h.head (by omega)]
    simp [Addr.add_lit]
  · simp only [List.length_drop] at hk
    obtain ⟨B, b', o', c', h1, h2⟩ := h.cell (i + k) (by omega)
    have e : nth [] (ps.drop i) k = nth [] ps (i + k) := by simp [nth, List.getD]
    rw [e, show o + i * 1 + k * 1 = o + (i + k) * 1 by omega]
    exact ⟨B, b', o', c', h1, h2⟩
theorem Pay.take {A : Option Addr} {b o : Nat} {ps : PS} (h : Pay w A b o ps) (i : Nat) : Pay w A b o (ps.take i) := by
  refine ⟨fun hp => h.head (by simp only [List.length_take] at hp; omega), fun k hk => ?_⟩
  simp only [List.length_take] at hk
  obtain ⟨B, b', o', c', h1, h2⟩ := h.cell k (by omega)
  have e : nth [] (ps.take i) k = nth [] ps k := by simp [nth, List.getD, List.getElem?_take_of_lt (show k < i by omega)]
  rw [e]
  exact ⟨B, b', o', c', h1, h2⟩
/-- other numbers, the same blocks: part of ours is written over by a call -/
theorem HP.over {bs' B B' C : List Blk} (h : HP w0 bs w) (p : bs.Perm (B ++ C)) (k : HP w (oldB B') w') (hn : B'.map (fun e => (e.b, e.new)) = B.map fun e => (e.b, e.new)) (p' : (B' ++ C).Perm bs') : HP w0 bs' w' := by
  have h1 := h.perm p
  have hb : B'.map (·.b) = B.map (·.b) := by
    have := congrArg (List.map Prod.fst) hn
    simpa [Function.comp_def] using this
  have hmem : ∀ e ∈ B', ∃ f ∈ B, f.b = e.b ∧ f.new = e.new := fun e he => by
    have : (e.b, e.new) ∈ B.map fun e => (e.b, e.new) := hn ▸ List.mem_map.2 ⟨e, he, rfl⟩
    obtain ⟨f, hf, hfe⟩ := List.mem_map.1 this
    exact ⟨f, hf, by simpa using congrArg Prod.fst hfe, by simpa using congrArg Prod.snd hfe⟩
  have hmem' : ∀ e ∈ B, ∃ f ∈ B', f.b = e.b := fun e he => by
    have : e.b ∈ B'.map (·.b) := hb ▸ List.mem_map.2 ⟨e, he, rfl⟩
    obtain ⟨f, hf, hfe⟩ := List.mem_map.1 this
    exact ⟨f, hf, hfe⟩
  have hnd := h1.nodup
  rw [List.map_append, List.nodup_append] at hnd
  have hC : ∀ e ∈ C, ∀ f ∈ B', f.b ≠ e.b := fun e he f hf hfe => by
    obtain ⟨q, hq, hqf, _⟩ := hmem f hf
    exact hnd.2.2 _ (List.mem_map.2 ⟨q, hq, rfl⟩) _ (List.mem_map.2 ⟨e, he, rfl⟩) (hqf.trans hfe)
  have hk : ∀ j, j < w.heap.size → (∀ e ∈ B', e.b ≠ j) → w'.heap[j]? = w.heap[j]? := fun j hj hne => k.keep j hj fun e he => by
    obtain ⟨f, hf, rfl⟩ := List.mem_map.1 he
    exact hne f hf
  refine HP.perm ⟨k.os.trans h1.os, k.tape.trans h1.tape, k.output.trans h1.output, Nat.le_trans h1.size k.size, fun j hj hne => ?_, fun e he => ?_, fun e he hen => ?_, ?_⟩ p'
  · rw [hk j (by have := h1.size; omega) fun e he => hne e (List.mem_append_left _ he)]
    refine h1.keep j hj fun e he => ?_
    rcases List.mem_append.1 he with h2 | h2
    · obtain ⟨f, hf, hfe⟩ := hmem' e h2
      rw [← hfe]
      exact hne f (List.mem_append_left _ hf)
    · exact hne e (List.mem_append_right _ h2)
  · rcases List.mem_append.1 he with h2 | h2
    · exact k.own ⟨e.b, false, e.t, e.cs⟩ (List.mem_map.2 ⟨e, h2, rfl⟩)
    · rw [hk e.b (h1.lt (List.mem_append_right _ h2)) fun f hf => hC e h2 f hf]
      exact h1.own e (List.mem_append_right _ h2)
  · rcases List.mem_append.1 he with h2 | h2
    · obtain ⟨f, hf, hfe, hfn⟩ := hmem e h2
      rw [← hfe]
      exact h1.fresh f (List.mem_append_left _ hf) (hfn.trans hen)
    · exact h1.fresh e (List.mem_append_right _ h2) hen
  · rw [List.map_append, hb, ← List.map_append]
    exact h1.nodup
theorem inT_set : ∀ {Ds : List (List Inn)} {j : Nat} {ds : List Inn} (ds' : List Inn), Ds[j]? = some ds → ∃ R, (inT Ds).Perm (inB ds ++ R) ∧ (inB ds' ++ R).Perm (inT (Ds.set j ds'))
  | x :: r, 0, ds, ds', hj => by
    have : x = ds := by simpa using hj
    subst this
    exact ⟨inT r, List.Perm.refl _, List.Perm.refl _⟩
  | x :: r, j + 1, ds, ds', hj => by
    obtain ⟨R, h1, h2⟩ := inT_set (Ds := r) (j := j) (ds := ds) ds' (by simpa using hj)
    refine ⟨inB x ++ R, ?_, ?_⟩
    · rw [inT]
      exact (h1.append_left _).trans (List.perm_append_comm_assoc _ _ _)
    · rw [List.set_cons_succ, inT]
      exact (List.perm_append_comm_assoc _ _ _).trans (h2.append_left _)
  | [], _, _, _, hj => by simp at hj
end
section
variable {P : Program} {ops : Array Oper} {w0 : World} {n : Nat} {l : Env} {bs : List Blk} {d : Tmp} {ty : TypeId} {pos : String} {af : Array Edge} {rest : List Oper} {Q : Exit → Act → World → Prop}
/-- a call that makes lists of payloads: the outer blocks come in front, the inner ones behind -/
theorem wl_callU {X : Type} {good : X → Prop} {val : X → Value} {out : X → List Blk} {dss : X → List (List Inn)} {f : FuncId} {args : List Operand} {atys : Array TypeId} {vals : List Value} {Ds : List (List Inn)} (m : Nat) (hd : Nat.blt d n = true) (hci : CI P f)
    (ha : Args l n true args vals) (hbs : bs.drop m = inT Ds) (hc : ∀ w, HP w0 bs w → Calls P f vals.toArray w fun e w' => ∃ x, good x ∧ e = .returned (val x) ∧ HP w (out x ++ inT (dss x)) w') (hn : ∀ x, (out x).all (·.new) = true)
    (k : ∀ x, good x → WL P ops w0 n rest ((d, (true, val x)) :: l) (out x ++ (bs.take m ++ inT (dss x ++ Ds))) Q) : WL P ops w0 n (⟨some d, .call ⟨.value (.func f), args.toArray, atys⟩, ty, pos, af, none⟩ :: rest) l bs Q := by
  refine wl_callx hd hci ha hc (fun x => by rw [List.all_append, hn, inT_new]; rfl) fun x hx a w hea hw => k x hx a w hea (hw.perm ?_)
  rw [List.append_assoc, inT_append]
  refine List.Perm.append_left _ ?_
  conv => lhs; rw [← List.take_append_drop m bs]
  rw [hbs]
  exact List.perm_append_comm_assoc _ _ _
/-- a call that writes the inner blocks of one group over -/
theorem wl_callM {X : Type} {good : X → Prop} {val : X → Value} {nd : X → List Inn} {f : FuncId} {args : List Operand} {atys : Array TypeId} {vals : List Value} {ds : List Inn} {Ds : List (List Inn)} (m j : Nat) (hd : Nat.blt d n = true) (hci : CI P f)
    (ha : Args l n true args vals) (hbs : bs.drop m = inT Ds) (hj : Ds[j]? = some ds) (hN : ∀ x, good x → (inB (nd x)).map (fun e => (e.b, e.new)) = (inB ds).map fun e => (e.b, e.new))
    (hc : ∀ w, HP w0 bs w → Calls P f vals.toArray w fun e w' => ∃ x, good x ∧ e = .returned (val x) ∧ HP w (oldB (inB (nd x))) w')
    (k : ∀ x, good x → WL P ops w0 n rest ((d, (true, val x)) :: l) (bs.take m ++ inT (Ds.set j (nd x))) Q) : WL P ops w0 n (⟨some d, .call ⟨.value (.func f), args.toArray, atys⟩, ty, pos, af, none⟩ :: rest) l bs Q := fun a w hea hw => by
  refine wpList_step fun K hK => ?_
  rw [gd_none (ops := ops) (l := l) (n := n) a hea]
  simp only [if_true]
  unfold Oper.wp
  rw [run_call (vals := vals.toArray) hci a (by simp [ha.map a hea rfl]) w]
  refine (hc w hw).mono fun e w' ⟨x, hx, he, hh⟩ => ?_
  subst he
  refine hK _ _ (k x hx _ w' (hea.put (blt_lt hd) true _ _ rfl) ?_)
  obtain ⟨R, p1, p2⟩ := inT_set (nd x) hj
  refine hw.over (C := bs.take m ++ R) ?_ hh (hN x hx) ?_
  · conv => lhs; rw [← List.take_append_drop m bs]
    rw [hbs]
    exact (p1.append_left _).trans (List.perm_append_comm_assoc _ _ _)
  · exact (List.perm_append_comm_assoc _ _ _).trans (p2.append_left _)
/-- .. some of our blocks, wherever they are -/
theorem wl_callV {X : Type} {good : X → Prop} {val : X → Value} {B C : List Blk} {B' : X → List Blk} {f : FuncId} {args : List Operand} {atys : Array TypeId} {vals : List Value} (hd : Nat.blt d n = true) (hci : CI P f)
    (ha : Args l n true args vals) (p : bs.Perm (B ++ C)) (hN : ∀ x, good x → (B' x).map (fun e => (e.b, e.new)) = B.map fun e => (e.b, e.new))
    (hc : ∀ w, HP w0 bs w → Calls P f vals.toArray w fun e w' => ∃ x, good x ∧ e = .returned (val x) ∧ HP w (oldB (B' x)) w')
    (k : ∀ x, good x → WL P ops w0 n rest ((d, (true, val x)) :: l) (B' x ++ C) Q) : WL P ops w0 n (⟨some d, .call ⟨.value (.func f), args.toArray, atys⟩, ty, pos, af, none⟩ :: rest) l bs Q := fun a w hea hw => by
  refine wpList_step fun K hK => ?_
  rw [gd_none (ops := ops) (l := l) (n := n) a hea]
  simp only [if_true]
  unfold Oper.wp
  rw [run_call (vals := vals.toArray) hci a (by simp [ha.map a hea rfl]) w]
  refine (hc w hw).mono fun e w' ⟨x, hx, he, hh⟩ => ?_
  subst he
  exact hK _ _ (k x hx _ w' (hea.put (blt_lt hd) true _ _ rfl) (hw.over p hh (hN x hx) (List.Perm.refl _)))
/-- append to an empty slice that has a block -/
theorem wl_appendE {t e sz by_ : Nat} {z : List Value} {x y : Operand} {b cap : Nat} {sp ys : List Value} {A : Option Addr} {b' o' m c : Nat} (i : Nat) (he : elSz P t = some (e, sz)) (hz : zcs P e = some z) (hzl : z.length = sz) (hsz : 0 < sz) (hby : elBytes P e = by_)
    (hx : Look l n true x (.slice (some ⟨b, 0, none⟩) 0 cap)) (hi : bs[i]? = some ⟨b, true, e, sp⟩) (hcl : sp.length = cap * sz) (hcm : cap ≤ 9223372036854775807)
    (hy : Look l n true y (.slice A m c)) (hs : ∀ w, HP w0 bs w → Sl w A b' o' ys) (hyl : ys.length = m * sz) (h1 : ∀ u ∈ ys, u.oneCell' = true) (hb : m * by_ ≤ 140737488355328) (h63 : m ≤ 9223372036854775807) (hd : Nat.blt d n = true)
    (kk : ∀ g cap2 sp2, (ys ++ sp2).length = cap2 * sz → cap2 ≤ 9223372036854775807 → WL P ops w0 n rest ((d, (true, .slice (some ⟨g, 0, none⟩) m cap2)) :: l) (⟨g, true, e, ys ++ sp2⟩ :: bs.eraseIdx i) Q) :
    WL P ops w0 n (⟨some d, .call ⟨.builtin .append, #[x, y], #[t, t]⟩, ty, pos, af, none⟩ :: rest) l bs Q :=
  wl_append (xs := []) i he hz hzl hsz hby hx (by simpa using hi) (by simp) (by simpa using hcl) hcm hy hs hyl h1 (by simpa using hb) (by simpa using h63) hd fun g cap2 sp2 h1 h2 _ => by
    have := kk g cap2 sp2 (by simpa using h1) h2
    simpa using this
theorem wc_region_amG {w0 : World} {n : Nat} {l : Env} {bs : List Blk} {Q : Exit → Act → World → Prop} {id : Nat} {ops : List Oper} (L : Nat) (mk : List Bool) (gs : List (List Inn)) (m : Nat) (hm : P.follows .mixedOrders = true) (hsz : ops.length = m)
    (h : WA P ops.toArray w0 n (CL L w0 (maskB mk bs ++ inT gs)) m (Array.replicate m false) l bs (Q .normal)) : WC P w0 n (.region id ops.toArray true) l bs Q := wc_region_a L (maskB mk bs ++ inT gs) m hm hsz h
end

end Go.Proofs.Ytfinobpodmdkgaa
