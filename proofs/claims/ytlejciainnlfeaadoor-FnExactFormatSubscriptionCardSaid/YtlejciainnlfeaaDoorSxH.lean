/- Operations that may come up in any order, each making only new memory: one canonical order serves. Generic; no statement is proved here. -/
import Derived.Test.YtlejciainnlfeaaDoorSxG
import Derived.Test.YtlejciainnlfeaaDoorSxC
namespace Go.Proofs.YtlejciainnlfeaaDoor
open Go.RowKit

structure Item where
  i : Nat
  d : Nat
  S : Value → List Blk → Prop
  c : Option (Value × List Blk)
def itE : List Item → Env → Env
  | [], l => l
  | it :: r, l => match it.c with
    | none => itE r l
    | some p => (it.d, (true, p.1)) :: itE r l
def itB : List Item → List Blk → List Blk
  | [], bs => bs
  | it :: r, bs => match it.c with
    | none => itB r bs
    | some p => p.2 ++ itB r bs
def Item.fill (it : Item) (v : Value) (nb : List Blk) : Item := ⟨it.i, it.d, it.S, some (v, nb)⟩

theorem itE_fill (l : Env) : ∀ (its : List Item) (k : Nat) (it : Item) (v : Value) (nb : List Blk), its[k]? = some it → it.c = none → (its.map (·.d)).Nodup → ∀ t, look (itE (its.set k (it.fill v nb)) l) t = look ((it.d, (true, v)) :: itE its l) t
  | [], _, _, _, _, h, _, _, _ => by simp at h
  | x :: r, 0, it, v, nb, h, hc, _, t => by
    have : x = it := by simpa using h
    subst this
    simp [itE, Item.fill, hc]
  | x :: r, k + 1, it, v, nb, h, hc, hn, t => by
    have h' : r[k]? = some it := by simpa using h
    have hn' := List.nodup_cons.1 (by simpa using hn : (x.d :: r.map (·.d)).Nodup)
    have ih := itE_fill l r k it v nb h' hc hn'.2 t
    simp only [List.set_cons_succ, itE]
    cases hx : x.c with
    | none => simpa [hx] using ih
    | some p =>
      have hne : it.d ≠ x.d := fun e => hn'.1 (by rw [← e]; exact List.mem_map_of_mem (List.mem_of_getElem? h'))
      simp only [look] at ih ⊢
      rw [ih]
      by_cases h1 : it.d = t
      · subst h1
        have : Nat.beq x.d it.d = false := by
          cases hb : Nat.beq x.d it.d with
          | false => rfl
          | true => exact absurd (Nat.eq_of_beq_eq_true hb).symm hne
        simp [this]
      · have : Nat.beq it.d t = false := by
          cases hb : Nat.beq it.d t with
          | false => rfl
          | true => exact absurd (Nat.eq_of_beq_eq_true hb) h1
        simp [this]
theorem itB_fill (bs : List Blk) : ∀ (its : List Item) (k : Nat) (it : Item) (v : Value) (nb : List Blk), its[k]? = some it → it.c = none → (nb ++ itB its bs).Perm (itB (its.set k (it.fill v nb)) bs)
  | [], _, _, _, _, h, _ => by simp at h
  | x :: r, 0, it, v, nb, h, hc => by
    have : x = it := by simpa using h
    subst this
    simp [itB, Item.fill, hc]
  | x :: r, k + 1, it, v, nb, h, hc => by
    have h' : r[k]? = some it := by simpa using h
    have ih := itB_fill bs r k it v nb h' hc
    simp only [List.set_cons_succ, itB]
    cases hx : x.c with
    | none => simpa using ih
    | some p => exact (List.perm_append_comm_assoc nb p.2 _).trans (ih.append_left p.2)
theorem HP.perm {w0 w : World} {bs bs' : List Blk} (h : HP w0 bs w) (p : bs.Perm bs') : HP w0 bs' w :=
  h.part (fun _ he => p.mem_iff.2 he) (fun _ he => .inr (p.mem_iff.1 he)) ((p.map (·.b)).nodup_iff.1 h.nodup)
theorem HP.front {w0 w : World} {nb bs : List Blk} (h : HP w0 (nb ++ bs) w) (hn : nb.all (·.new) = true) : HP w0 bs w := by
  have := h.dropN nb.length (by rw [List.take_left]; exact hn)
  rwa [List.drop_left] at this
theorem itB_drop {w0 w : World} {bs : List Blk} : ∀ {its : List Item}, (∀ it ∈ its, ∀ p, it.c = some p → p.2.all (·.new) = true) → HP w0 (itB its bs) w → HP w0 bs w
  | [], _, h => h
  | x :: r, hn, h => by
    simp only [itB] at h
    cases hx : x.c with
    | none => rw [hx] at h; exact itB_drop (fun it hi => hn it (List.mem_cons_of_mem _ hi)) h
    | some p =>
      rw [hx] at h
      exact itB_drop (fun it hi => hn it (List.mem_cons_of_mem _ hi)) (h.front (hn x List.mem_cons_self p hx))
theorem itE_base {l : Env} {n : Nat} {a : Act} : ∀ {its : List Item}, (∀ it ∈ its, look l it.d = none) → EnvOK (itE its l) n a → EnvOK l n a := by
  intro its hf h
  have key : ∀ (its : List Item), (∀ it ∈ its, look l it.d = none) → ∀ t e, look l t = some e → look (itE its l) t = some e := by
    intro its
    induction its with
    | nil => intro _ t e h; exact h
    | cons x r ih =>
      intro hf t e he
      have h2 := ih (fun it hi => hf it (List.mem_cons_of_mem _ hi)) t e he
      simp only [itE]
      cases x.c with
      | none => exact h2
      | some p =>
        simp only [look]
        cases hb : Nat.beq x.d t with
        | false => simpa using h2
        | true =>
          have := hf x List.mem_cons_self
          rw [Nat.eq_of_beq_eq_true hb, he] at this
          cases this
  exact ⟨h.1, h.2.1, fun t g v hl => h.2.2 t g v (key its hf t _ hl)⟩

theorem set_same {α : Type _} : ∀ {l : List α} {i : Nat} {a : α}, l[i]? = some a → l.set i a = l
  | [], _, _, _ => rfl
  | x :: r, 0, a, h => by
    have : x = a := by simpa using h
    simp [this]
  | x :: r, i + 1, a, h => by
    have : r[i]? = some a := by simpa using h
    simp [set_same this]
section
variable {P : Program} {ops : Array Oper} {w0 : World} {n : Nat} {l : Env} {bs bsC : List Blk} {L : Nat} {R : Act → World → Prop}
/-- what an operation of a group does, whatever of the group has come before it -/
def OpS (P : Program) (ops : Array Oper) (w0 : World) (n : Nat) (l : Env) (bs : List Blk) (i d : Nat) (S : Value → List Blk → Prop) : Prop :=
  ∃ o, ops[i]? = some o ∧ ∀ l' bs', (∀ a, EnvOK l' n a → EnvOK l n a) → (∀ w, HP w0 bs' w → HP w0 bs w) → ∀ Q,
    (∀ v nb, S v nb → nb.all (·.new) = true → PX w0 n Q .normal ((d, (true, v)) :: l') (nb ++ bs')) → WL P ops w0 n [o] l' bs' Q

theorem Args.ext {l l' : Env} {G : Bool} (h : ∀ a, EnvOK l' n a → EnvOK l n a) : ∀ {xs : List Operand} {vs : List Value}, Args l n G xs vs → Args l' n G xs vs
  | [], [], _ => trivial
  | _ :: _, _ :: _, hh => ⟨fun a ha hG => hh.1 a (h a ha) hG, Args.ext h hh.2⟩
  | [], _ :: _, hh => hh.elim
  | _ :: _, [], hh => hh.elim

theorem Parts.ext {l l' : Env} {G : Bool} (h : ∀ a, EnvOK l' n a → EnvOK l n a) : ∀ {xs : List (Nat × Operand)} {vs : List (Nat × Value)}, Parts l n G xs vs → Parts l' n G xs vs
  | [], [], _ => trivial
  | (_, _) :: _, (_, _) :: _, hh => ⟨hh.1, fun a ha hG => hh.2.1 a (h a ha) hG, Parts.ext h hh.2.2⟩
  | [], _ :: _, hh => hh.elim
  | _ :: _, [], hh => hh.elim
theorem ops_callx {X : Type} {good : X → Prop} {val : X → Value} {nb : X → List Blk} {f : FuncId} {args : List Operand} {atys : Array TypeId} {vals : List Value} {i d : Nat} {ty : TypeId} {pos : String} {af : Array Edge}
    (hi : ops[i]? = some ⟨some d, .call ⟨.value (.func f), args.toArray, atys⟩, ty, pos, af, none⟩) (hd : Nat.blt d n = true) (hci : CI P f)
    (ha : Args l n true args vals) (hc : ∀ w, HP w0 bs w → Calls P f vals.toArray w fun e w' => ∃ x, good x ∧ e = .returned (val x) ∧ HP w (nb x) w') (hn : ∀ x, (nb x).all (·.new) = true) :
    OpS P ops w0 n l bs i d (fun v m => ∃ x, good x ∧ v = val x ∧ m = nb x) :=
  ⟨_, hi, fun _ _ hl hb _ k => wl_callx hd hci (ha.ext hl) (fun w hw => hc w (hb w hw)) hn fun x hx => wl_nil (k _ _ ⟨x, hx, rfl, rfl⟩ (hn x))⟩
theorem ops_call {f : FuncId} {args : List Operand} {atys : Array TypeId} {vals : List Value} {v : Value} {i d : Nat} {ty : TypeId} {pos : String} {af : Array Edge}
    (hi : ops[i]? = some ⟨some d, .call ⟨.value (.func f), args.toArray, atys⟩, ty, pos, af, none⟩) (hd : Nat.blt d n = true) (hci : CI P f)
    (ha : Args l n true args vals) (hc : ∀ w, HP w0 bs w → Calls P f vals.toArray w fun e w' => e = .returned v ∧ HP w [] w') :
    OpS P ops w0 n l bs i d (fun u m => u = v ∧ m = []) :=
  ⟨_, hi, fun _ _ hl hb _ k => wl_call gd_none hd hci (ha.ext hl) (fun _ w hw => hc w (hb w hw)) (wl_nil (k _ [] ⟨rfl, rfl⟩ rfl))⟩
theorem ops_bslice {t len : Nat} {parts : List (Nat × Operand)} {ps : List (Nat × Value)} {e : TypeId} {cs : List Value} {i d : Nat} {ty : TypeId} {pos : String} {af : Array Edge}
    (hi : ops[i]? = some ⟨some d, .buildSlice t len parts.toArray, ty, pos, af, none⟩) (hp : Parts l n true parts ps) (hb : bsl P t len ps = some (e, cs)) (hd : Nat.blt d n = true) :
    OpS P ops w0 n l bs i d (fun v m => ∃ b : Nat, v = .slice (some ⟨b, 0, none⟩) len len ∧ m = [⟨b, true, e, cs⟩]) :=
  ⟨_, hi, fun _ _ hl _ _ k => wl_bslice (hp.ext hl) hb hd fun b => wl_nil (k _ [_] ⟨b, rfl, rfl⟩ rfl)⟩

theorem ops_alloc {t : TypeId} {z : List Value} {i d : Nat} {ty : TypeId} {pos : String} {af : Array Edge} (hi : ops[i]? = some ⟨some d, .alloc t, ty, pos, af, none⟩) (hz : zcs P t = some z) (hd : Nat.blt d n = true) :
    OpS P ops w0 n l bs i d (fun v m => ∃ b : Nat, v = .pointer (some ⟨b, 0, none⟩) ∧ m = [⟨b, true, t, z⟩]) :=
  ⟨_, hi, fun _ _ _ _ _ k => wl_alloc hz hd fun b => wl_nil (k _ [_] ⟨b, rfl, rfl⟩ rfl)⟩
/-- all orders of a group end alike -/
def grp (ops : Array Oper) (idx : List Nat) : Nat → List Bool → Array Bool → Array Bool → Bool
  | 0, f, listed, fin => f.all id && (listed.toList == fin.toList)
  | m + 1, f, listed, fin => !(Region.ready .any ops listed).isEmpty && (Region.ready .any ops listed).all fun j => (List.range idx.length).any fun k => idx[k]? == some j && f[k]? == some false && grp ops idx m (f.set k true) (listed.setIfInBounds j true) fin

theorem wa_items {fuel : Nat} {fin : Array Bool} (hC : ∀ w, HP w0 bs w → HP w0 bsC w) : ∀ (m : Nat) (its : List Item) (listed : Array Bool), grp ops (its.map (·.i)) m (its.map (·.c.isSome)) listed fin = true → (its.map (·.d)).Nodup → (∀ it ∈ its, look l it.d = none) →
    (∀ it ∈ its, OpS P ops w0 n l bs it.i it.d it.S) → (∀ it ∈ its, ∀ p, it.c = some p → it.S p.1 p.2 ∧ p.2.all (·.new) = true) →
    (∀ its' : List Item, its'.map (fun it => (it.i, it.d, it.S)) = its.map (fun it => (it.i, it.d, it.S)) → (∀ it ∈ its', ∃ p, it.c = some p ∧ it.S p.1 p.2) → WA P ops w0 n (CL L w0 bsC) fuel fin (itE its' l) (itB its' bs) R) →
    WA P ops w0 n (CL L w0 bsC) (fuel + m) listed (itE its l) (itB its bs) R
  | 0, its, listed, hg, _, _, _, hs, k => by
    simp only [grp, Bool.and_eq_true, beq_iff_eq] at hg
    obtain ⟨h1, h2⟩ := hg
    have : listed = fin := by cases listed; cases fin; simpa using h2
    subst this
    refine k its rfl fun it hi => ?_
    have h3 := List.all_eq_true.1 h1 _ (List.mem_map_of_mem hi)
    obtain ⟨p, hp⟩ := Option.isSome_iff_exists.1 (by simpa using h3)
    exact ⟨p, hp, (hs it hi p hp).1⟩
  | m + 1, its, listed, hg, hn, hf, ho, hs, k => fun a w ha hw => by
    simp only [grp, Bool.and_eq_true, Bool.not_eq_true'] at hg
    obtain ⟨hr, hg⟩ := hg
    refine ⟨fun h0 => by rw [h0] at hr; simp at hr, fun j hj => ?_⟩
    have h1 := List.all_eq_true.1 hg j hj
    obtain ⟨q, _, h2⟩ := List.any_eq_true.1 h1
    simp only [Bool.and_eq_true, beq_iff_eq] at h2
    obtain ⟨⟨hq1, hq2⟩, hq3⟩ := h2
    simp only [List.getElem?_map, Option.map_eq_some_iff] at hq1 hq2
    obtain ⟨it, hit, rfl⟩ := hq1
    obtain ⟨it2, hit2, hc2⟩ := hq2
    have : it2 = it := by rw [hit] at hit2; injection hit2 with h; exact h.symm
    subst this
    have hc : it2.c = none := by simpa using hc2
    have hmem := List.mem_of_getElem? hit
    obtain ⟨o, hoi, hop⟩ := ho it2 hmem
    have hfill : ∀ v nb, it2.S v nb → nb.all (·.new) = true → WA P ops w0 n (CL L w0 bsC) (fuel + m) (listed.setIfInBounds it2.i true) ((it2.d, (true, v)) :: itE its l) (nb ++ itB its bs) R := by
      intro v nb hS hnb a' w' ha' hw'
      have hset : ∀ x ∈ its.set q (it2.fill v nb), x ∈ its ∨ x = it2.fill v nb := fun x hx => List.mem_or_eq_of_mem_set hx
      refine wa_items (fin := fin) hC m (its.set q (it2.fill v nb)) (listed.setIfInBounds it2.i true) ?_ ?_ ?_ ?_ ?_ ?_ a' w' ?_ (hw'.perm (itB_fill bs its q it2 v nb hit hc))
      · rw [List.map_set, List.map_set]
        have e1 : (its.map (·.i)).set q (it2.fill v nb).i = its.map (·.i) := set_same (by simp [hit, Item.fill])
        rw [e1]
        exact hq3
      · rw [List.map_set]
        have e1 : (its.map (·.d)).set q (it2.fill v nb).d = its.map (·.d) := set_same (by simp [hit, Item.fill])
        rw [e1]
        exact hn
      · intro x hx
        rcases hset x hx with h | rfl
        · exact hf x h
        · exact hf it2 hmem
      · intro x hx
        rcases hset x hx with h | rfl
        · exact ho x h
        · exact ho it2 hmem
      · intro x hx p hp
        rcases hset x hx with h | rfl
        · exact hs x h p hp
        · have : p = (v, nb) := by simpa [Item.fill] using hp.symm
          subst this
          exact ⟨hS, hnb⟩
      · intro its' hk hall
        refine k its' (hk.trans ?_) hall
        rw [List.map_set]
        exact set_same (by simp [hit, Item.fill])
      · exact ⟨ha'.1, ha'.2.1, fun t g u hl => ha'.2.2 t g u (by rw [← itE_fill l its q it2 v nb hit hc hn t]; exact hl)⟩
    have h1 := hop (itE its l) (itB its bs) (fun a ha => itE_base hf ha) (fun w hw => itB_drop (fun it hi p hp => (hs it hi p hp).2) hw) (QN (CL L w0 bsC it2.i) (wpAnyN P ops (CL L w0 bsC) R (fuel + m) (listed.setIfInBounds it2.i true)))
      (fun v nb hS hnb => px_qn (fun w hw => hC w (itB_drop (fun it hi p hp => (hs it hi p hp).2) (hw.front hnb))) (hfill v nb hS hnb)) a w ha hw
    unfold wpOp
    simp only [hoi]
    unfold wpList at h1
    split
    · rename_i hw1
      simp only [hw1, if_true] at h1
      rcases h1 with h1 | ⟨_, h1⟩
      · exact .inl (qn_no h1)
      · obtain ⟨_, _, hq⟩ := h1
        exact hq.elim
    · rename_i hw1
      simp only [hw1] at h1
      exact h1

def Kall : List (Nat × Nat × (Value → List Blk → Prop)) → Env → List Blk → (Env → List Blk → Prop) → Prop
  | [], l, bs, G => G l bs
  | (_, d, S) :: r, l, bs, G => Kall r l bs fun l' bs' => ∀ v nb, S v nb → G ((d, (true, v)) :: l') (nb ++ bs')
theorem kall_spec : ∀ (its' : List Item) (G : Env → List Blk → Prop), Kall (its'.map fun it => (it.i, it.d, it.S)) l bs G → (∀ it ∈ its', ∃ p, it.c = some p ∧ it.S p.1 p.2) → G (itE its' l) (itB its' bs)
  | [], _, h, _ => h
  | x :: r, G, h, hs => by
    obtain ⟨p, hp, hS⟩ := hs x List.mem_cons_self
    have := kall_spec r _ h (fun it hi => hs it (List.mem_cons_of_mem _ hi)) p.1 p.2 hS
    simpa only [itE, itB, hp] using this
theorem wa_grp {fuel : Nat} {fin listed : Array Bool} (its : List (Nat × Nat × (Value → List Blk → Prop))) (hC : ∀ w, HP w0 bs w → HP w0 bsC w) (hg : grp ops (its.map (·.1)) its.length (its.map fun _ => false) listed fin = true) (hn : (its.map (·.2.1)).Nodup) (hf : ∀ it ∈ its, look l it.2.1 = none)
    (ho : ∀ it ∈ its, OpS P ops w0 n l bs it.1 it.2.1 it.2.2) (k : Kall its l bs fun l' bs' => WA P ops w0 n (CL L w0 bsC) fuel fin l' bs' R) : WA P ops w0 n (CL L w0 bsC) (fuel + its.length) listed l bs R := by
  have e0 : ∀ (l : Env) (its : List (Nat × Nat × (Value → List Blk → Prop))), itE (its.map fun it => (⟨it.1, it.2.1, it.2.2, none⟩ : Item)) l = l := by
    intro l its; induction its with
    | nil => rfl
    | cons x r ih => simpa [itE] using ih
  have e1 : ∀ (its : List (Nat × Nat × (Value → List Blk → Prop))), itB (its.map fun it => (⟨it.1, it.2.1, it.2.2, none⟩ : Item)) bs = bs := by
    intro its; induction its with
    | nil => rfl
    | cons x r ih => simpa [itB] using ih
  have h := wa_items (P := P) (ops := ops) (w0 := w0) (n := n) (l := l) (bs := bs) (L := L) (bsC := bsC) (R := R) (fuel := fuel) (fin := fin) hC its.length (its.map fun it => (⟨it.1, it.2.1, it.2.2, none⟩ : Item)) listed
    (by simpa [Function.comp_def] using hg) (by simpa [Function.comp_def] using hn)
    (by intro x hx; obtain ⟨y, hy, rfl⟩ := List.mem_map.1 hx; exact hf y hy) (by intro x hx; obtain ⟨y, hy, rfl⟩ := List.mem_map.1 hx; exact ho y hy)
    (by intro x hx p hp; obtain ⟨y, hy, rfl⟩ := List.mem_map.1 hx; cases hp)
    (fun its' hk hs => kall_spec its' _ (by rw [hk]; simpa [Function.comp_def] using k) hs)
  rwa [e0, e1] at h
theorem wa_grp2 {fuel : Nat} {listed : Array Bool} {S1 S2 : Value → List Blk → Prop} (i1 d1 i2 d2 : Nat) (hC : ∀ w, HP w0 bs w → HP w0 bsC w)
    (hg : grp ops [i2, i1] 2 [false, false] listed ((listed.setIfInBounds i1 true).setIfInBounds i2 true) = true) (hn : [d2, d1].Nodup) (hf1 : look l d1 = none) (hf2 : look l d2 = none)
    (o1 : OpS P ops w0 n l bs i1 d1 S1) (o2 : OpS P ops w0 n l bs i2 d2 S2)
    (k : ∀ v1 nb1, S1 v1 nb1 → ∀ v2 nb2, S2 v2 nb2 → WA P ops w0 n (CL L w0 bsC) fuel ((listed.setIfInBounds i1 true).setIfInBounds i2 true) ((d2, (true, v2)) :: (d1, (true, v1)) :: l) (nb2 ++ (nb1 ++ bs)) R) : WA P ops w0 n (CL L w0 bsC) (fuel + 2) listed l bs R :=
  wa_grp [(i2, d2, S2), (i1, d1, S1)] hC hg hn (by simp [hf1, hf2]) (by simp [o1, o2]) k
theorem wa_grp3 {fuel : Nat} {listed : Array Bool} {S1 S2 S3 : Value → List Blk → Prop} (i1 d1 i2 d2 i3 d3 : Nat) (hC : ∀ w, HP w0 bs w → HP w0 bsC w)
    (hg : grp ops [i3, i2, i1] 3 [false, false, false] listed (((listed.setIfInBounds i1 true).setIfInBounds i2 true).setIfInBounds i3 true) = true) (hn : [d3, d2, d1].Nodup) (hf1 : look l d1 = none) (hf2 : look l d2 = none) (hf3 : look l d3 = none)
    (o1 : OpS P ops w0 n l bs i1 d1 S1) (o2 : OpS P ops w0 n l bs i2 d2 S2) (o3 : OpS P ops w0 n l bs i3 d3 S3)
    (k : ∀ v1 nb1, S1 v1 nb1 → ∀ v2 nb2, S2 v2 nb2 → ∀ v3 nb3, S3 v3 nb3 → WA P ops w0 n (CL L w0 bsC) fuel (((listed.setIfInBounds i1 true).setIfInBounds i2 true).setIfInBounds i3 true) ((d3, (true, v3)) :: (d2, (true, v2)) :: (d1, (true, v1)) :: l) (nb3 ++ (nb2 ++ (nb1 ++ bs))) R) : WA P ops w0 n (CL L w0 bsC) (fuel + 3) listed l bs R :=
  wa_grp [(i3, d3, S3), (i2, d2, S2), (i1, d1, S1)] hC hg hn (by simp [hf1, hf2, hf3]) (by simp [o1, o2, o3]) k
theorem wa_grp4 {fuel : Nat} {listed : Array Bool} {S1 S2 S3 S4 : Value → List Blk → Prop} (i1 d1 i2 d2 i3 d3 i4 d4 : Nat) (hC : ∀ w, HP w0 bs w → HP w0 bsC w)
    (hg : grp ops [i4, i3, i2, i1] 4 [false, false, false, false] listed ((((listed.setIfInBounds i1 true).setIfInBounds i2 true).setIfInBounds i3 true).setIfInBounds i4 true) = true) (hn : [d4, d3, d2, d1].Nodup) (hf1 : look l d1 = none) (hf2 : look l d2 = none) (hf3 : look l d3 = none) (hf4 : look l d4 = none)
    (o1 : OpS P ops w0 n l bs i1 d1 S1) (o2 : OpS P ops w0 n l bs i2 d2 S2) (o3 : OpS P ops w0 n l bs i3 d3 S3) (o4 : OpS P ops w0 n l bs i4 d4 S4)
    (k : ∀ v1 nb1, S1 v1 nb1 → ∀ v2 nb2, S2 v2 nb2 → ∀ v3 nb3, S3 v3 nb3 → ∀ v4 nb4, S4 v4 nb4 → WA P ops w0 n (CL L w0 bsC) fuel ((((listed.setIfInBounds i1 true).setIfInBounds i2 true).setIfInBounds i3 true).setIfInBounds i4 true) ((d4, (true, v4)) :: (d3, (true, v3)) :: (d2, (true, v2)) :: (d1, (true, v1)) :: l) (nb4 ++ (nb3 ++ (nb2 ++ (nb1 ++ bs)))) R) : WA P ops w0 n (CL L w0 bsC) (fuel + 4) listed l bs R :=
  wa_grp [(i4, d4, S4), (i3, d3, S3), (i2, d2, S2), (i1, d1, S1)] hC hg hn (by simp [hf1, hf2, hf3, hf4]) (by simp [o1, o2, o3, o4]) k
end
end Go.Proofs.YtlejciainnlfeaaDoor
