/- Drawn paging buffers, walked. -/
import Derived.Test.YtfinobpodmdkgaaSxN
namespace Go.Proofs.Ytfinobpodmdkgaa
open Go.RowKit


theorem code_new {bs : List Blk} {m cb : Nat} {Ds : List (List Inn)} (hbs : bs.drop m = inT Ds) (h : ∀ e ∈ bs.take m, e.new = true ∨ e.b = cb) : ∀ e ∈ bs, e.new = true ∨ e.b = cb := fun e he => by
  rw [← List.take_append_drop m bs, hbs] at he
  rcases List.mem_append.1 he with h1 | h1
  · exact h e h1
  · exact .inl (by simpa using (List.all_eq_true.1 (inT_new _)) e h1)
/-- a list of payloads that may be empty and without a block of its own; then another block stands in for it -/
def RowP (ps : PS) (A : Option Addr) (c g : Nat) (T : TypeId) (cs : List Value) (ds : List Inn) : Prop :=
  (A = some ⟨g, 0, none⟩ ∧ T = 52 ∧ pays ds = ps ∧ (∃ sp, cs = inC ds ++ sp) ∧ cs.length = c * 1 ∧ c ≤ 9223372036854775807) ∨ (A = none ∧ c = 0 ∧ ps = [] ∧ ds = [])
theorem RowP.of {ps : PS} {g c : Nat} {ds : List Inn} {sp : List Value} (hp : pays ds = ps) (hl : (inC ds ++ sp).length = c * 1) (hc : c ≤ 9223372036854775807) : RowP ps (some ⟨g, 0, none⟩) c g 52 (inC ds ++ sp) ds := .inl ⟨rfl, rfl, hp, ⟨sp, rfl⟩, hl, hc⟩
theorem RowP.nil {g : Nat} {T : TypeId} {cs : List Value} : RowP [] none 0 g T cs [] := .inr ⟨rfl, rfl, rfl, rfl⟩
theorem RowP.pay {w0 w : World} {bs : List Blk} {ps : PS} {A : Option Addr} {c g j m : Nat} {nw : Bool} {T : TypeId} {cs : List Value} {ds : List Inn} {Ds : List (List Inn)} (h : RowP ps A c g T cs ds) (hw : HP w0 bs w) (hm : (⟨g, nw, T, cs⟩ : Blk) ∈ bs) (hbs : bs.drop m = inT Ds) (hj : Ds[j]? = some ds) : Pay w A g 0 ps := by
  rcases h with ⟨rfl, rfl, hp, ⟨sp, rfl⟩, _, _⟩ | ⟨rfl, rfl, rfl, rfl⟩
  · exact Pay.own hw hm rfl hbs hj hp
  · exact Pay.nil
theorem RowP.cap {ps : PS} {A : Option Addr} {c g : Nat} {T : TypeId} {cs : List Value} {ds : List Inn} (h : RowP ps A c g T cs ds) : ps.length ≤ c := by
  rcases h with ⟨_, _, hp, ⟨sp, rfl⟩, hl, _⟩ | ⟨_, _, rfl, _⟩
  · exact plcap hp hl
  · simp
structure DP where
  A : Option Addr
  c : Nat
  g : Nat
  T : TypeId
  cs : List Value
  ds : List Inn
def DP.blk (x : DP) : Blk := ⟨x.g, true, x.T, x.cs⟩
structure DB where
  q : Int
  dr : Int
  ps : PS
  p : DP
def DB.row (x : DB) : Prop := RowP x.ps x.p.A x.p.c x.p.g x.p.T x.p.cs x.p.ds
def DB.val (x : DB) : Value := .agg #[.int .i64 x.q, .slice x.p.A x.ps.length x.p.c, .int .i64 x.dr]
section
variable {P : Program} {Q : Exit → Act → World → Prop} {w0 : World} {ops : Array Oper} {n : Nat} {rest : List Oper} {l : Env} {bs : List Blk} {d : Tmp} {ty : TypeId} {pos : String} {af : Array Edge}
/-- a call that writes our block number i over and makes lists of payloads -/
theorem wl_callWU {X : Type} {good : X → Prop} {val : X → Value} {out : X → List Blk} {dss : X → List (List Inn)} {cs' : X → List Value} {f : FuncId} {args : List Operand} {atys : Array TypeId} {vals : List Value} {b : Nat} {nw : Bool} {t : TypeId} {cs : List Value} {Ds : List (List Inn)} (i m : Nat) (hd : Nat.blt d n = true) (hci : CI P f)
    (ha : Args l n true args vals) (hi : bs[i]? = some ⟨b, nw, t, cs⟩) (hbs : ∀ x, (bs.set i ⟨b, nw, t, cs' x⟩).drop m = inT Ds)
    (hc : ∀ w, HP w0 bs w → Calls P f vals.toArray w fun e w' => ∃ x, good x ∧ e = .returned (val x) ∧ HP w (⟨b, false, t, cs' x⟩ :: (out x ++ inT (dss x))) w') (hn : ∀ x, (out x).all (·.new) = true)
    (k : ∀ x, good x → WL P ops w0 n rest ((d, (true, val x)) :: l) (out x ++ ((bs.set i ⟨b, nw, t, cs' x⟩).take m ++ inT (dss x ++ Ds))) Q) : WL P ops w0 n (⟨some d, .call ⟨.value (.func f), args.toArray, atys⟩, ty, pos, af, none⟩ :: rest) l bs Q := by
  refine wl_callw i hd hci ha hi hc (fun x => by rw [List.all_append, hn, inT_new]; rfl) fun x hx a w hea hw => k x hx a w hea (hw.perm ?_)
  rw [List.append_assoc, inT_append]
  refine List.Perm.append_left _ ?_
  conv => lhs; rw [← List.take_append_drop m (bs.set i _)]
  rw [hbs]
  exact List.perm_append_comm_assoc _ _ _
theorem wc_region_aFG {Y : Type} {id : Nat} {ops : List Oper} (L k : Nat) (blk : Y → Blk) (mk : List Bool) (gs : List (List Inn)) (m : Nat) (hm : P.follows .mixedOrders = true) (hsz : ops.length = m)
    (h : WA P ops.toArray w0 n (CF L w0 fun y => maskB mk (bs.set k (blk y)) ++ inT gs) m (Array.replicate m false) l bs (Q .normal)) : WC P w0 n (.region id ops.toArray true) l bs Q := fun a w ha hw =>
  wp_region_any hm (by
    have := wpAny_of_N (Q := Q) (fun _ _ h => h) _ _ _ _ (h a { w with drawn := w.drawn + 1 } ha hw.drew')
    simpa [hsz] using this)
/-- a made slice of bytes: they are naughts -/
theorem wl_makeZ {t e : TypeId} {x y : Operand} {z : Value} {len by_ : Nat} (he : elSz P t = some (e, 1)) (hz : zcs P e = some [z]) (hby : elBytes P e = by_) (hb : by_ * len ≤ 281474976710656) (hl : len ≤ 9223372036854775807)
    (hx : Look l n true x (.int .i64 (len : Nat))) (hy : Look l n true y (.int .i64 (len : Nat))) (hd : Nat.blt d n = true)
    (k : ∀ b, WL P ops w0 n rest ((d, (true, .slice (some ⟨b, 0, none⟩) len len)) :: l) (⟨b, true, e, List.replicate len z⟩ :: bs) Q) :
    WL P ops w0 n (⟨some d, .makeSlice t x y, ty, pos, af, none⟩ :: rest) l bs Q := fun a w hea hw => by
  refine wpList_plain rfl fun K hK => ?_
  obtain ⟨hu, i, hi, hsz⟩ := elSz_of he
  obtain ⟨i', v, hi', hv, hvc⟩ := zcs_of hz
  rw [hi] at hi'
  injection hi' with hi'
  subst hi'
  have hb2 : i.bytes = by_ := by rw [← hby]; simp [elBytes, hi]
  have hb3 : (i.bytes : Int) * (len : Int) ≤ 281474976710656 := by
    have h : ((i.bytes * len : Nat) : Int) ≤ 281474976710656 := by rw [hb2]; omega
    rwa [Int.natCast_mul] at h
  have hr := run_make (P := P) w t e i v hu hi hv .i64 .i64 len len (by omega) (Int.le_refl _) hb3 (by omega)
  simp only [Int.toNat_natCast] at hr
  have hm : madeCells v.cells (len * i.size) = (List.replicate len z).toArray := by
    apply Array.ext'
    have hv1 : v.cells = #[z] := by cases hvv : v.cells; simp_all
    rw [hsz, Nat.mul_one, hv1]
    apply List.ext_getElem?
    intro j
    by_cases hj : j < len
    · simp [madeCells, hj, Nat.mod_one]
    · simp [madeCells, hj]
  unfold Oper.wp
  simp only [execOp, Sem.run_bind, hx a hea rfl, hy a hea rfl, hr, Result.andThen_ok, Sem.run_pure, Oper.upon_value]
  rw [hm]
  refine hK _ _ (k _ _ _ (hea.put (blt_lt hd) true _ _ rfl) ?_)
  simpa using hw.alloc e (List.replicate len z).toArray
/-- append one payload to a list that may have no block of its own -/
theorem wl_appendP {t by_ : Nat} {z : List Value} {x y : Operand} {ps : PS} {A : Option Addr} {c g : Nat} {T : TypeId} {cs : List Value} {ds : List Inn} {b' : Nat} {cell : Value} (i : Nat) (he : elSz P t = some (52, 1)) (hz : zcs P 52 = some z) (hzl : z.length = 1) (hby : elBytes P 52 = by_)
    (hx : Look l n true x (.slice A ps.length c)) (hR : RowP ps A c g T cs ds) (hi : bs[i]? = some ⟨g, true, T, cs⟩)
    (hy : Look l n true y (.slice (some ⟨b', 0, none⟩) 1 1)) (hs : ∀ w, HP w0 bs w → Sl w (some ⟨b', 0, none⟩) b' 0 [cell]) (h1 : cell.oneCell' = true) (hb : (ps.length + 1) * by_ ≤ 140737488355328) (h63 : ps.length + 1 ≤ 9223372036854775807) (hd : Nat.blt d n = true)
    (kk : ∀ g cap2 sp2, (inC ds ++ [cell] ++ sp2).length = cap2 * 1 → cap2 ≤ 9223372036854775807 → WL P ops w0 n rest ((d, (true, .slice (some ⟨g, 0, none⟩) (ps.length + 1) cap2)) :: l) (⟨g, true, 52, inC ds ++ [cell] ++ sp2⟩ :: bs.eraseIdx i) Q) :
    WL P ops w0 n (⟨some d, .call ⟨.builtin .append, #[x, y], #[t, t]⟩, ty, pos, af, none⟩ :: rest) l bs Q := by
  rcases hR with ⟨rfl, rfl, hp, ⟨sp, rfl⟩, hl, hc⟩ | ⟨rfl, rfl, rfl, rfl⟩
  · have hdl : (inC ds).length = ps.length := by rw [inC_len, ← hp, pays_len]
    exact wl_append (xs := inC ds) (sp := sp) (ys := [cell]) i he hz hzl (by decide) hby hx hi (by omega) hl hc hy hs rfl (fun u hu => by rw [List.mem_singleton.1 hu]; exact h1) hb h63 hd fun g' cap2 sp2 h2 h3 _ => kk g' cap2 sp2 h2 h3
  · refine wl_append0 (ys := [cell]) (m := 1) he hz hzl (by decide) hby hx hy (by decide) hs rfl (fun u hu => by rw [List.mem_singleton.1 hu]; exact h1) (by simpa using hb) (by omega) hd fun g' cap2 sp2 h2 h3 => ?_
    have := kk g' cap2 sp2 h2 h3
    exact fun a w ha hw => this a w ha (hw.erase hi rfl)
end
structure BS where
  k : Nat
  g : Nat
  c : Nat
  xs : List Int
  sp : List Value
  i : Nat
  h : Int
def cap12 (c : Int) : Int := if inRange c 0 12 then c else 0

theorem sNewBuf_c (c : Int) (w : World) :
    Calls Try.prog 62 #[.int .i64 c] w fun e w' => ∃ x : Nat × TypeId × List Value, True ∧ e = .returned (.agg #[.int .i64 (cap12 c), .slice none 0 0, .int .i64 0]) ∧ HP w [⟨x.1, true, x.2.1, x.2.2⟩] w' := by
  refine calls_entry [] _ Try.func62 rfl Try.ntmps62 (HP.refl w) (env1 rfl) ?_
  refine wc_seq ?_
  refine wc_region ?_
  refine wl_alloc zc_29 rfl fun b1 => ?_
  refine wl_nil ?_
  refine px_then ?_
  refine wc_seq ?_
  refine wc_seq ?_
  refine wc_region ?_
  refine wl_v rfl (val_move (lk rfl)) ?_
  refine wl_call gd_none rfl ci_38 (args3 (lk rfl) lkc lkc) (fun hG w1 hw => l1In_c _ _ _ w1) ?_
  refine wl_v rfl (val_not (lk rfl)) ?_
  refine wl_nil ?_
  refine px_then ?_
  refine wc_cond (lk rfl) (fun hc0 => ?_) (fun hc0 => ?_)
  · refine wc_region ?_
    refine wl_v rfl (val_assign lkc) ?_
    refine wl_nil ?_
    refine px_then ?_
    refine wc_seq ?_
    refine wc_region ?_
    refine wl_v rfl (val_move (lk rfl)) ?_
    refine wl_v rfl (val_buildP (partsC (lk rfl) parts0) (bl_29_0 _)) ?_
    refine wl_storeB 0 rfl (lk rfl) (lk rfl) ag_29 rfl rfl ?_
    refine wl_nil ?_
    refine px_then ?_
    refine wc_ret ?_
    refine fin1 rfl (res_cell rfl (.head _) ag_29) (fun w1 hw => ?_)
    exact ⟨(b1, _, _), trivial, by rw [cap12, if_neg (by simpa using hc0)], hw⟩
  refine wc_skip ?_
  refine px_then ?_
  refine wc_seq ?_
  refine wc_region ?_
  refine wl_v rfl (val_move (lk rfl)) ?_
  refine wl_v rfl (val_buildP (partsC (lk rfl) parts0) (bl_29_0 _)) ?_
  refine wl_storeB 0 rfl (lk rfl) (lk rfl) ag_29 rfl rfl ?_
  refine wl_nil ?_
  refine px_then ?_
  refine wc_ret ?_
  refine fin1 rfl (res_cell rfl (.head _) ag_29) (fun w1 hw => ?_)
  exact ⟨(b1, _, _), trivial, by rw [cap12, if_pos (by simpa using hc0)], hw⟩

theorem l1Bytes_c (A : Option Addr) (n b o c cb i : Nat) (h : Int) (n1 : Int) (w : World) (hk : Code w A n b o cb) (hb : w.heap[cb]? = some (.cells (curC A n c i h).toArray 70 (0, 0))) (hn1 : n1 ≤ 1000) :
    Calls Try.prog 63 #[.pointer (some ⟨cb, 0, none⟩), .int .i64 n1] w fun e w' => ∃ x : BS, x.xs.length = n1.toNat ∧ e = .returned (.slice (some ⟨x.g, 0, none⟩) x.xs.length x.c) ∧ HP w [⟨cb, false, 70, curC A n c x.i x.h⟩, ⟨x.g, true, 5, bv x.xs ++ x.sp⟩] w' := by
  refine calls_entry [⟨cb, false, 70, curC A n c i h⟩] _ Try.func63 rfl Try.ntmps63 (HP.one hb) (env2 rfl) ?_
  refine wc_seq ?_
  refine wc_region ?_
  refine wl_v rfl (val_assign lkc) ?_
  refine wl_nil ?_
  refine px_then ?_
  refine wc_seq ?_
  refine wc_region ?_
  refine wl_bslice parts0 bsl_42_0_ rfl fun b1 => ?_
  refine wl_v rfl (val_assign (lk rfl)) ?_
  refine wl_nil ?_
  refine px_then ?_
  refine wc_seq ?_
  refine wc_seq ?_
  refine wc_region ?_
  refine wl_v rfl (val_assign lkc) ?_
  refine wl_nil ?_
  refine px_then ?_
  refine wc_block ?_
  refine wc_trim (l' := [(0, _), (1, _), (4, _), (5, _), (6, _)]) ⟨rfl, rfl, rfl, rfl, rfl, trivial⟩ ?_
  refine wc_loopl (X := BS) (fun x => x.xs.length = x.k ∧ x.k ≤ n1.toNat ∧ (bv x.xs ++ x.sp).length = x.c * 1 ∧ x.c ≤ 9223372036854775807) (fun x => [(5, (true, .slice (some ⟨x.g, 0, none⟩) x.xs.length x.c)), (6, (true, .int .i64 (x.k : Nat)))]) (fun x => [⟨x.g, true, 5, bv x.xs ++ x.sp⟩, ⟨cb, false, 70, curC A n c x.i x.h⟩]) (fun x => n1.toNat - x.k) ⟨0, b1, 0, [], [], i, h⟩ (⟨rfl, Nat.zero_le _, rfl, Nat.zero_le _⟩) ⟨rfl, rfl, rfl, rfl, rfl, rfl, rfl, trivial⟩ (fun _ h => h) ?_
  rintro ⟨k, g, cc, xs, sp, i, h⟩ ⟨hxk, hkn, hl, hc⟩
  simp only at hxk hkn hl hc
  dsimp only
  refine wc_seq ?_
  refine wc_seq ?_
  refine wc_region ?_
  refine wl_v rfl (val_move (lk rfl)) ?_
  refine wl_v rfl (val_move (lk rfl)) ?_
  refine wl_v rfl (val_lss (lk rfl) (lk rfl)) ?_
  refine wl_nil ?_
  refine px_then ?_
  refine wc_cond (lk rfl) (fun hc0 => ?_) (fun hc0 => ?_)
  · have hlt : k < n1.toNat := by have h9 := of_decide_eq_true hc0; omega
    refine wc_skip ?_
    refine px_then ?_
    refine wc_seq ?_
    refine wc_block ?_
    refine wc_region ?_
    refine wl_v rfl (val_move (lk rfl)) ?_
    refine wl_v rfl (val_move (lk rfl)) ?_
    refine wl_callw 1 rfl ci_64 (args1 (lk rfl)) rfl (fun w1 hw => l1Byte_c _ _ _ _ _ _ _ _ w1 (hk.hp hw (by simp)) (hw.own _ (.tail _ (.head _)))) (fun _ => rfl) ?_
    rintro ⟨x15, i15, h15⟩ hx15
    simp only at hx15
    refine wl_v rfl (val_conv (by kernel_rfl) Try.underlying5 (lk rfl)) ?_
    refine wl_bslice (partsC (lk rfl) parts0) (bsl_42_1_0 _) rfl fun b2 => ?_
    refine wl_append (xs := bv xs) (sp := sp) (ys := [.int .u8 (IntKind.u8.wrap x15)]) (m := 1) 1 es_42 zc_5 rfl (by decide) eb_5 (lk rfl) rfl (by rw [bv_len, Nat.mul_one]) hl hc (lk rfl) (fun _ hw => Sl.own' hw (.head _)) rfl (fun u hu => by have h9 := List.mem_singleton.1 hu; rw [h9]; rfl) (by omega) (by omega) rfl fun g18 c18 sp18 hl18 hc18 _ => ?_
    refine wl_v rfl (val_assign (lk rfl)) ?_
    refine wl_nil ?_
    refine px_block ?_
    refine px_then ?_
    refine wc_region ?_
    refine wl_v rfl (val_move (lk rfl)) ?_
    refine wl_v rfl (val_inc (lk rfl) (by omega)) ?_
    refine wl_v rfl (val_assign (lk rfl)) ?_
    refine wl_nil ?_
    refine px_round (⟨k + 1, g18, c18, xs ++ [IntKind.u8.wrap x15], sp18, i15, h15⟩) (⟨by show (xs ++ [_]).length = k + 1; rw [List.length_append, hxk]; rfl, by show k + 1 ≤ _; omega, by show (bv (xs ++ [_]) ++ sp18).length = c18 * 1; rw [bv, List.map_append]; exact hl18, hc18⟩) (by show n1.toNat - (k + 1) < n1.toNat - k; omega) (⟨by rw [List.length_append]; rfl, rfl, rfl, rfl, rfl, by rw [List.length_append]; rfl, rfl, trivial⟩) (fun w1 h => by
      have h' : HP w [⟨g18, true, 5, bv xs ++ [.int .u8 (IntKind.u8.wrap x15)] ++ sp18⟩, ⟨cb, false, 70, curC A n c i15 h15⟩] w1 := h.mask [true, false, true] rfl
      have e9 : bv xs ++ [.int .u8 (IntKind.u8.wrap x15)] = bv (xs ++ [IntKind.u8.wrap x15]) := by rw [bv, bv, List.map_append]; rfl
      rw [e9] at h'
      exact h')
  have hge : k = n1.toNat := by have h9 := of_decide_eq_false hc0; omega
  refine wc_exit ?_
  refine px_then_exit ?_
  refine px_then_exit ?_
  refine px_block_exit ?_
  refine px_then ?_
  refine wc_seq ?_
  refine wc_region ?_
  refine wl_v rfl (val_move (lk rfl)) ?_
  refine wl_v rfl (val_assign (lk rfl)) ?_
  refine wl_nil ?_
  refine px_then ?_
  refine wc_ret ?_
  refine fin1 rfl (res_tmp rfl) (fun w1 hw => ?_)
  exact ⟨⟨k, g, cc, xs, sp, i, h⟩, by show xs.length = _; omega, rfl, hw.perm (List.Perm.swap _ _ _)⟩


structure LD where
  dr : Int
  ps : PS
  p : DP
  m : Nat
  i : Nat
  h : Int
theorem enq_dr {q dr : Int} {ps : PS} {xs : List Int} (h0 : 0 ≤ dr) (h1 : dr ≤ 1000) : 0 ≤ (enq q ps dr xs).2 ∧ (enq q ps dr xs).2 ≤ dr + 1 := by
  unfold enq
  split
  · split
    · simp only; omega
    · simp only; rw [wrap64_in' (by omega)]; omega
  · simp only; omega
theorem RowP.snoc {ps : PS} {A : Option Addr} {c g : Nat} {T : TypeId} {cs : List Value} {ds : List Inn} (h : RowP ps A c g T cs ds) (i : Inn) : pays (ds ++ [i]) = ps ++ [i.xs] := by
  rcases h with ⟨_, _, hp, _⟩ | ⟨_, _, rfl, rfl⟩
  · rw [← hp]; simp [pays]
  · rfl
theorem HP.three {w0 w : World} {B C : Blk} {d : Nat} {cs : List Value} {ds : List Inn} {i : Inn} (hi : i.blk = ⟨d, true, 5, cs⟩) (h : HP w0 (B :: ⟨d, true, 5, cs⟩ :: C :: inT [ds]) w) : HP w0 (C :: ([B] ++ inT [ds ++ [i]])) w := by
  rw [← hi] at h
  have h2 : HP w0 (i.blk :: B :: C :: inT [ds]) w := h.perm (List.Perm.swap _ _ _)
  refine h2.perm ?_
  simp only [inT, List.append_nil, inB, List.map_append, List.map_cons, List.map_nil, List.singleton_append]
  refine List.Perm.trans ?_ (List.Perm.swap C B _)
  refine (List.Perm.swap B i.blk _).trans (List.Perm.cons _ ((List.Perm.swap C i.blk _).trans (List.Perm.cons _ ?_)))
  exact (List.perm_append_singleton _ _).symm
theorem bv_rep (n : Nat) : bv (List.replicate n 0) = List.replicate n (.int .u8 0) := by simp [bv]

theorem l15Draw_c (A : Option Addr) (n b o c cb i : Nat) (h : Int) (w : World) (hk : Code w A n b o cb) (hb : w.heap[cb]? = some (.cells (curC A n c i h).toArray 70 (0, 0))) :
    Calls Try.prog 59 #[.pointer (some ⟨cb, 0, none⟩)] w fun e w' => ∃ x : DB × Nat × Int, (RowP x.1.ps x.1.p.A x.1.p.c x.1.p.g x.1.p.T x.1.p.cs x.1.p.ds ∧ x.1.ps.length + tot x.1.ps ≤ 488 ∧ 0 ≤ x.1.dr ∧ x.1.dr ≤ 8) ∧ e = .returned (.agg #[.int .i64 x.1.q, .slice x.1.p.A x.1.ps.length x.1.p.c, .int .i64 x.1.dr]) ∧ HP w (⟨cb, false, 70, curC A n c x.2.1 x.2.2⟩ :: ([x.1.p.blk] ++ inT [x.1.p.ds])) w' := by
  refine calls_entry [⟨cb, false, 70, curC A n c i h⟩] _ Try.func59 rfl Try.ntmps59 (HP.one hb) (env1 rfl) ?_
  refine wc_seq ?_
  refine wc_region ?_
  refine wl_alloc zc_29 rfl fun b1 => ?_
  refine wl_nil ?_
  refine px_then ?_
  refine wc_seq ?_
  refine wc_region ?_
  refine wl_v rfl (val_move (lk rfl)) ?_
  refine wl_callw 1 rfl ci_60 (args2 (lk rfl) lkc) rfl (fun w1 hw => l1Below_c _ _ _ _ _ _ _ _ _ w1 (hk.hp hw (by simp)) (hw.own _ (.tail _ (.head _)))) (fun _ => rfl) ?_
  rintro ⟨x6, i6, h6⟩ hx6
  simp only at hx6
  refine wl_callx rfl ci_62 (args1 (lk rfl)) (fun w1 hw => sNewBuf_c x6 w1) (fun _ => rfl) ?_
  rintro ⟨g7, T7, cs7⟩ -
  refine wl_alloc zc_29 rfl fun b2 => ?_
  refine wl_storeB 0 rfl (lk rfl) (lk rfl) ag_29 rfl rfl ?_
  refine wl_nil ?_
  refine px_then ?_
  refine wc_seq ?_
  refine wc_seq ?_
  refine wc_region ?_
  refine wl_v rfl (val_move (lk rfl)) ?_
  refine wl_callw 3 rfl ci_60 (args2 (lk rfl) lkc) rfl (fun w1 hw => l1Below_c _ _ _ _ _ _ _ _ _ w1 (hk.hp hw (by simp)) (hw.own _ (.tail _ (.tail _ (.tail _ (.head _)))))) (fun _ => rfl) ?_
  rintro ⟨x9, i9, h9⟩ hx9
  simp only at hx9
  refine wl_v rfl (val_assign (lk rfl)) ?_
  refine wl_nil ?_
  refine px_then ?_
  refine wc_block ?_
  refine wc_trim (l' := [(0, _), (2, _), (3, _), (4, _)]) ⟨rfl, rfl, rfl, rfl, trivial⟩ ?_
  refine wc_loopl (X := LD) (fun x => RowP x.ps x.p.A x.p.c x.p.g x.p.T x.p.cs x.p.ds ∧ x.ps.length + tot x.ps + 61 * x.m ≤ 488 ∧ 0 ≤ x.dr ∧ x.dr + x.m ≤ 8) (fun x => [(4, (true, .int .i64 (x.m : Nat)))]) (fun x => x.p.blk :: ⟨b2, true, 29, [.int .i64 (cap12 x6), .slice x.p.A x.ps.length x.p.c, .int .i64 x.dr]⟩ :: ⟨b1, true, 29, [.int .i64 0, .slice none 0 0, .int .i64 0]⟩ :: ⟨cb, false, 70, curC A n c x.i x.h⟩ :: inT [x.p.ds]) (fun x => x.m) ⟨0, [], ⟨none, 0, g7, T7, cs7, []⟩, x9.toNat, i9, h9⟩ (⟨RowP.nil, by have := hx9.2.1; simp only [tot, List.length_nil]; omega, Int.le_refl 0, by have := hx9.2.1; simp only; omega⟩) ⟨slotI (by have := hx9.1; show x9 = ((x9.toNat : Nat) : Int); omega), rfl, rfl, rfl, slotI (by have := hx9.1; show x9 = ((x9.toNat : Nat) : Int); omega), trivial⟩ (fun _ h => h.perm (List.Perm.swap _ _ _)) ?_
  rintro ⟨dr, ps, ⟨Ap, cq, gp, Tp, csp, ds⟩, m, i, h⟩ ⟨hR, hz, hlo, hdr⟩
  simp only at hR hz hlo hdr
  dsimp only
  refine wc_seq ?_
  refine wc_seq ?_
  refine wc_region ?_
  refine wl_v rfl (val_move (lk rfl)) ?_
  refine wl_v rfl (val_gtr (lk rfl) lkc) ?_
  refine wl_nil ?_
  refine px_then ?_
  refine wc_cond (lk rfl) (fun hc0 => ?_) (fun hc0 => ?_)
  · have hm0 : 0 < m := by have := of_decide_eq_true hc0; omega
    refine wc_skip ?_
    refine px_then ?_
    refine wc_seq ?_
    refine wc_block ?_
    refine wc_region_aFG 6 3 (fun y : Nat × Int => (⟨cb, false, 70, curC A n c y.1 y.2⟩ : Blk)) [true, true, true, true] [ds] 7 mo_ rfl ?_
    refine wa_takeF 0 rfl (by kernel_rfl) (by kernel_rfl) (by kernel_rfl) (by kernel_rfl) (fun _ h => ⟨(_, _), h.maskG [true, true, true, true] [(true, ds)] rfl rfl⟩) gd_none rfl (fun _ => val_loadB (.tail _ (.head _)) (lk rfl) ag_29) ?_
    refine wa_takeF 1 rfl (by kernel_rfl) (by kernel_rfl) (by kernel_rfl) (by kernel_rfl) (fun _ h => ⟨(_, _), h.maskG [true, true, true, true] [(true, ds)] rfl rfl⟩) gd_none rfl (fun _ => val_move (lk rfl)) ?_
    refine wa_takeF 2 rfl (by kernel_rfl) (by kernel_rfl) (by kernel_rfl) (by kernel_rfl) (fun _ h => ⟨(_, _), h.maskG [true, true, true, true] [(true, ds)] rfl rfl⟩) gd_none rfl (fun _ => val_move (lk rfl)) ?_
    refine wa_only 3 (by kernel_rfl) rfl ?_
    refine wl_callw 3 rfl ci_60 (args2 (lk rfl) lkc) rfl (fun w1 hw => l1Below_c _ _ _ _ _ _ _ _ _ w1 (hk.hp hw (code_new (m := 4) (Ds := [ds]) rfl (by simp [DP.blk, PL.blk]))) (hw.own _ (.tail _ (.tail _ (.tail _ (.head _)))))) (fun _ => rfl) ?_
    rintro ⟨x17, i17, h17⟩ hx17
    simp only at hx17
    refine wl_nil (px_qnF (fun _ h => ⟨(_, _), h.maskG [true, true, true, true] [(true, ds)] rfl rfl⟩) ?_)
    refine wa_only 4 (by kernel_rfl) rfl ?_
    refine wl_callw 3 rfl ci_63 (args2 (lk rfl) (lk rfl)) rfl (fun w1 hw => l1Bytes_c _ _ _ _ _ _ _ _ x17 w1 (hk.hp hw (code_new (m := 4) (Ds := [ds]) rfl (by simp [DP.blk, PL.blk]))) (hw.own _ (.tail _ (.tail _ (.tail _ (.head _))))) (by have := hx17.2.1; omega)) (fun _ => rfl) ?_
    rintro ⟨k18, g18, c18, xs18, sp18, i18, h18⟩ hx18
    simp only at hx18
    refine wl_nil (px_qnF (fun _ h => ⟨(_, _), h.maskG [false, true, true, true, true] [(true, ds)] rfl rfl⟩) ?_)
    refine wa_only 5 (by kernel_rfl) rfl ?_
    refine wl_callU (Ds := [ds]) 5 rfl ci_31 (args2 (lk rfl) (lk rfl)) rfl (fun w1 hw => sEnq_c _ _ _ _ _ _ _ xs18 _ _ _ _ w1 (RowP.pay hR hw (.tail _ (.head _)) (m := 5) (Ds := [ds]) rfl (j := 0) rfl) (by omega) (Sl.own hw (.head _)) (by have := hx17.2.1; omega)) (fun _ => rfl) ?_
    rintro ⟨g19, c19, ds19, sp19⟩ ⟨hp19, hl19, hc19⟩
    simp only at hp19 hl19 hc19
    have hq19 := plcap hp19 hl19
    refine wl_nil (px_qnF (fun _ h => ⟨(_, _), h.maskG [false, false, true, true, true, true] [(false, ds19), (true, ds)] rfl rfl⟩) ?_)
    refine wa_only 6 (by kernel_rfl) rfl ?_
    refine wl_storeB 3 rfl (lk rfl) (lk rfl) ag_29 rfl rfl ?_
    refine wl_nil (px_qlF ?_)
    refine wa_done (by kernel_rfl) ?_
    refine px_block ?_
    refine px_then ?_
    refine wc_region ?_
    refine wl_v rfl (val_move (lk rfl)) ?_
    refine wl_v rfl (val_dec (lk rfl) (fun hG => ⟨by omega, by omega⟩)) ?_
    refine wl_v rfl (val_assign (lk rfl)) ?_
    refine wl_nil ?_
    refine px_round (⟨(enq (cap12 x6) ps dr xs18).2, (enq (cap12 x6) ps dr xs18).1, ⟨some ⟨g19, 0, none⟩, c19, g19, 52, inC ds19 ++ sp19, ds19⟩, m - 1, i18, h18⟩) (⟨RowP.of hp19 hl19 hc19, by have h9 := enq_tot (cap12 x6) dr ps xs18; simp only; omega, (enq_dr hlo (by omega)).1, by have h9 := (enq_dr (q := cap12 x6) (ps := ps) (xs := xs18) hlo (by omega)).2; simp only; omega⟩) (by show m - 1 < m; omega) (⟨rfl, rfl, rfl, rfl, rfl, trivial⟩) (fun _ h => h.maskG [true, false, false, true, true, true] [(true, ds19), (false, ds)] rfl rfl)
  have hm0 : m = 0 := by have := of_decide_eq_false hc0; omega
  refine wc_exit ?_
  refine px_then_exit ?_
  refine px_then_exit ?_
  refine px_block_exit ?_
  refine px_then ?_
  refine wc_seq ?_
  refine wc_region ?_
  refine wl_v rfl (val_loadB (.tail _ (.head _)) (lk rfl) ag_29) ?_
  refine wl_storeB 2 rfl (lk rfl) (lk rfl) ag_29 rfl rfl ?_
  refine wl_nil ?_
  refine px_then ?_
  refine wc_ret ?_
  refine fin1 rfl (res_cell rfl (.tail _ (.tail _ (.head _))) ag_29) (fun w1 hw => ?_)
  exact ⟨(⟨cap12 x6, dr, ps, ⟨Ap, cq, gp, Tp, csp, ds⟩⟩, i, h), ⟨hR, by simp only; omega, hlo, by simp only; omega⟩, rfl, (hw.maskG [true, false, false, true] [(true, ds)] rfl rfl).perm (List.Perm.swap _ _ _)⟩

theorem l15Any_c (A : Option Addr) (n b o c cb i : Nat) (h : Int) (w : World) (hk : Code w A n b o cb) (hb : w.heap[cb]? = some (.cells (curC A n c i h).toArray 70 (0, 0))) :
    Calls Try.prog 57 #[.pointer (some ⟨cb, 0, none⟩)] w fun e w' => ∃ x : DB × Nat × Int, (RowP x.1.ps x.1.p.A x.1.p.c x.1.p.g x.1.p.T x.1.p.cs x.1.p.ds ∧ x.1.ps.length + tot x.1.ps ≤ 700 ∧ -1 ≤ x.1.dr ∧ x.1.dr ≤ 8) ∧ e = .returned (.agg #[.int .i64 x.1.q, .slice x.1.p.A x.1.ps.length x.1.p.c, .int .i64 x.1.dr]) ∧ HP w (⟨cb, false, 70, curC A n c x.2.1 x.2.2⟩ :: ([x.1.p.blk] ++ inT [x.1.p.ds])) w' := by
  refine calls_entry [⟨cb, false, 70, curC A n c i h⟩] _ Try.func57 rfl Try.ntmps57 (HP.one hb) (env1 rfl) ?_
  refine wc_seq ?_
  refine wc_region ?_
  refine wl_alloc zc_29 rfl fun b1 => ?_
  refine wl_nil ?_
  refine px_then ?_
  refine wc_seq ?_
  refine wc_region ?_
  refine wl_v rfl (val_move (lk rfl)) ?_
  refine wl_callWU (Ds := []) 1 2 rfl ci_59 (args1 (lk rfl)) rfl (fun _ => rfl) (fun w1 hw => l15Draw_c _ _ _ _ _ _ _ _ w1 (hk.hp hw (by simp)) (hw.own _ (.tail _ (.head _)))) (fun _ => rfl) ?_
  rintro ⟨⟨q5, dr5, ps5, A5, c5, g5, T5, cs5, ds5⟩, i5, h5⟩ ⟨hR5, hz5, hlo5, hdr5⟩
  simp only at hR5 hz5 hlo5 hdr5
  have hq5 := hR5.cap
  refine wl_alloc zc_29 rfl fun b2 => ?_
  refine wl_storeB 0 rfl (lk rfl) (lk rfl) ag_29 rfl rfl ?_
  refine wl_nil ?_
  refine px_then ?_
  refine wc_seq ?_
  refine wc_seq ?_
  refine wc_region ?_
  refine wl_v rfl (val_move (lk rfl)) ?_
  refine wl_callw 3 rfl ci_60 (args2 (lk rfl) lkc) rfl (fun w1 hw => l1Below_c _ _ _ _ _ _ _ _ _ w1 (hk.hp hw (code_new (m := 4) (Ds := [ds5]) rfl (by simp [DP.blk, PL.blk]))) (hw.own _ (.tail _ (.tail _ (.tail _ (.head _)))))) (fun _ => rfl) ?_
  rintro ⟨x7, i7, h7⟩ hx7
  simp only at hx7
  refine wl_nil ?_
  refine px_then ?_
  refine wc_block ?_
  refine wc_seq ?_
  refine wc_region ?_
  refine wl_v rfl (val_eql (lk rfl) lkc) ?_
  refine wl_v rfl (val_assign (lk rfl)) ?_
  refine wl_nil ?_
  refine px_then ?_
  refine wc_cond (lk rfl) (fun hc0 => ?_) (fun hc0 => ?_)
  · refine wc_region ?_
    refine wl_v rfl (val_move (lk rfl)) ?_
    refine wl_bslice (partsC lkc (partsC lkc (partsC lkc (partsC lkc parts0)))) (bsl_73_4_0_1_2_3 _ _ _ _) rfl fun b3 => ?_
    refine wl_callw 4 rfl ci_61 (args2 (lk rfl) (lk rfl)) rfl (fun w1 hw => l1Int_c _ _ _ _ _ _ _ _ [-1, 0, 12, 13] _ _ 0 _ w1 (hk.hp hw (code_new (m := 5) (Ds := [ds5]) rfl (by simp [DP.blk, PL.blk]))) (hw.own _ (.tail _ (.tail _ (.tail _ (.tail _ (.head _)))))) (Sl.own' hw (.head _)) (hw.ne 0 4 rfl rfl rfl) (by simp) (by simp)) (fun _ => rfl) ?_
    rintro ⟨x12, i12, h12⟩ hx12
    simp only at hx12
    refine wl_v rfl (val_field fo_29_0 (lk rfl)) ?_
    refine wl_store1 1 rfl (lk rfl) (lk rfl) t1_3 rfl (rfl) ?_
    refine wl_nil ?_
    refine px_block ?_
    refine px_then ?_
    refine wc_seq ?_
    refine wc_region ?_
    refine wl_v rfl (val_loadB (.tail _ (.head _)) (lk rfl) ag_29) ?_
    refine wl_storeB 3 rfl (lk rfl) (lk rfl) ag_29 rfl rfl ?_
    refine wl_nil ?_
    refine px_then ?_
    refine wc_ret ?_
    refine fin1 rfl (res_cell rfl (.tail _ (.tail _ (.tail _ (.head _)))) ag_29) (fun w1 hw => ?_)
    exact ⟨(⟨nth d0I [-1, 0, 12, 13] x12, dr5, ps5, ⟨A5, c5, g5, T5, cs5, ds5⟩⟩, i12, h12), ⟨hR5, by simp only; omega, by simp only; omega, by simp only; omega⟩, rfl, (hw.maskG [false, false, true, false, true] [(true, ds5)] rfl rfl).perm (List.Perm.swap _ _ _)⟩
  refine wc_seq ?_
  refine wc_region ?_
  refine wl_v rfl (val_eql (lk rfl) lkc) ?_
  refine wl_v rfl (val_assign (lk rfl)) ?_
  refine wl_nil ?_
  refine px_then ?_
  refine wc_cond (lk rfl) (fun hc1 => ?_) (fun hc1 => ?_)
  · refine wc_region ?_
    refine wl_v rfl (val_field fo_29_2 (lk rfl)) ?_
    refine wl_store1 0 rfl (lk rfl) lkc t1_3 rfl (rfl) ?_
    refine wl_nil ?_
    refine px_block ?_
    refine px_then ?_
    refine wc_seq ?_
    refine wc_region ?_
    refine wl_v rfl (val_loadB (.head _) (lk rfl) ag_29) ?_
    refine wl_storeB 2 rfl (lk rfl) (lk rfl) ag_29 rfl rfl ?_
    refine wl_nil ?_
    refine px_then ?_
    refine wc_ret ?_
    refine fin1 rfl (res_cell rfl (.tail _ (.tail _ (.head _))) ag_29) (fun w1 hw => ?_)
    exact ⟨(⟨q5, -1, ps5, ⟨A5, c5, g5, T5, cs5, ds5⟩⟩, i7, h7), ⟨hR5, by simp only; omega, by simp only; omega, by simp only; omega⟩, rfl, (hw.maskG [false, true, false, true] [(true, ds5)] rfl rfl).perm (List.Perm.swap _ _ _)⟩
  refine wc_seq ?_
  refine wc_region ?_
  refine wl_v rfl (val_eql (lk rfl) lkc) ?_
  refine wl_v rfl (val_assign (lk rfl)) ?_
  refine wl_nil ?_
  refine px_then ?_
  refine wc_cond (lk rfl) (fun hc2 => ?_) (fun hc2 => ?_)
  · refine wc_region_aFG 10 3 (fun y : Nat × Int => (⟨cb, false, 70, curC A n c y.1 y.2⟩ : Blk)) [true, false, true, true] [ds5] 11 mo_ rfl ?_
    refine wa_takeF 0 rfl (by kernel_rfl) (by kernel_rfl) (by kernel_rfl) (by kernel_rfl) (fun _ h => ⟨(_, _), h.maskG [true, false, true, true] [(true, ds5)] rfl rfl⟩) gd_none rfl (fun _ => val_field fo_29_1 (lk rfl)) ?_
    refine wa_takeF 1 rfl (by kernel_rfl) (by kernel_rfl) (by kernel_rfl) (by kernel_rfl) (fun _ h => ⟨(_, _), h.maskG [true, false, true, true] [(true, ds5)] rfl rfl⟩) gd_none rfl (fun _ => val_load1 t1_27 (lk rfl) (cell_own (.head _) fun _ => rfl)) ?_
    refine wa_takeF 2 rfl (by kernel_rfl) (by kernel_rfl) (by kernel_rfl) (by kernel_rfl) (fun _ h => ⟨(_, _), h.maskG [true, false, true, true] [(true, ds5)] rfl rfl⟩) gd_none rfl (fun _ => val_move (lk rfl)) ?_
    refine wa_only 3 (by kernel_rfl) rfl ?_
    refine wl_callw 3 rfl ci_60 (args2 (lk rfl) lkc) rfl (fun w1 hw => l1Below_c _ _ _ _ _ _ _ _ _ w1 (hk.hp hw (code_new (m := 4) (Ds := [ds5]) rfl (by simp [DP.blk, PL.blk]))) (hw.own _ (.tail _ (.tail _ (.tail _ (.head _)))))) (fun _ => rfl) ?_
    rintro ⟨x22, i22, h22⟩ hx22
    simp only at hx22
    refine wl_nil (px_qnF (fun _ h => ⟨(_, _), h.maskG [true, false, true, true] [(true, ds5)] rfl rfl⟩) ?_)
    refine wa_takeF 4 rfl (by kernel_rfl) (by kernel_rfl) (by kernel_rfl) (by kernel_rfl) (fun _ h => ⟨(_, _), h.maskG [true, false, true, true] [(true, ds5)] rfl rfl⟩) gd_none rfl (fun _ => (val_add lkc (lk rfl)).eq (show _ = Value.int .i64 (((60 + x22.toNat) : Nat) : Int) by have h9 := hx22.1; have h8 := hx22.2.1; rw [wrap64_in' (by omega)]; congr 1; omega)) ?_
    refine wa_only 5 (by kernel_rfl) rfl ?_
    refine wl_makeZ (z := .int .u8 0) (len := (60 + x22.toNat)) es_42 zc_5 eb_5 (by have := hx22.2.1; omega) (by have := hx22.2.1; omega) (lk rfl) (lk rfl) rfl fun g24 => ?_
    refine wl_nil (px_qnF (fun _ h => ⟨(_, _), h.maskG [false, true, false, true, true] [(true, ds5)] rfl rfl⟩) ?_)
    refine wa_takeF 6 rfl (by kernel_rfl) (by kernel_rfl) (by kernel_rfl) (by kernel_rfl) (fun _ h => ⟨(_, _), h.maskG [false, true, false, true, true] [(true, ds5)] rfl rfl⟩) gd_none rfl (fun _ => val_buildP (partsC (lk rfl) parts0) (bl_52_0 _ _ _)) ?_
    refine wa_only 7 (by kernel_rfl) rfl ?_
    refine wl_bslice (partsC (lk rfl) parts0) (bsl_27_1_0 _ _ _) rfl fun b4 => ?_
    refine wl_nil (px_qnF (fun _ h => ⟨(_, _), h.maskG [false, false, true, false, true, true] [(true, ds5)] rfl rfl⟩) ?_)
    refine wa_only 8 (by kernel_rfl) rfl ?_
    refine wl_appendP (ps := ps5) (cell := .slice (some ⟨g24, 0, none⟩) (60 + x22.toNat) (60 + x22.toNat)) 3 es_27 zc_52 rfl eb_52 (lk rfl) hR5 rfl (lk rfl) (fun _ hw => Sl.own' hw (.head _)) rfl (by omega) (by omega) rfl fun g27 c27 sp27 hl27 hc27 => ?_
    refine wl_nil (px_qnF (fun _ h => ⟨(_, _), h.maskG [false, false, false, true, true, true] [(true, ds5)] rfl rfl⟩) ?_)
    refine wa_takeF 9 rfl (by kernel_rfl) (by kernel_rfl) (by kernel_rfl) (by kernel_rfl) (fun _ h => ⟨(_, _), h.maskG [false, false, false, true, true, true] [(true, ds5)] rfl rfl⟩) gd_none rfl (fun _ => val_field fo_29_1 (lk rfl)) ?_
    refine wa_only 10 (by kernel_rfl) rfl ?_
    refine wl_store1 3 rfl (lk rfl) (lk rfl) t1_27 rfl (rfl) ?_
    refine wl_nil (px_qlF ?_)
    refine wa_done (by kernel_rfl) ?_
    refine px_block ?_
    refine px_then ?_
    refine wc_seq ?_
    refine wc_region ?_
    refine wl_v rfl (val_loadB (.tail _ (.tail _ (.tail _ (.head _)))) (lk rfl) ag_29) ?_
    refine wl_storeB 4 rfl (lk rfl) (lk rfl) ag_29 rfl rfl ?_
    refine wl_nil ?_
    refine px_then ?_
    refine wc_ret ?_
    refine fin1 rfl (res_cell rfl (.tail _ (.tail _ (.tail _ (.tail _ (.head _))))) ag_29) (fun w1 hw => ?_)
    have hx2 := hx22.2.1 (by omega)
    have hlr : (List.replicate (60 + x22.toNat) (0 : Int)).length = (60 + x22.toNat) := by simp
    have h' : HP w (⟨g27, true, 52, inC ds5 ++ [.slice (some ⟨g24, 0, none⟩) (60 + x22.toNat) (60 + x22.toNat)] ++ sp27⟩ :: ⟨g24, true, 5, List.replicate (60 + x22.toNat) (.int .u8 0)⟩ :: ⟨cb, false, 70, curC A n c i22 h22⟩ :: inT [ds5]) w1 := hw.maskG [true, false, true, false, false, true] [(true, ds5)] rfl rfl
    have e9 : inC ds5 ++ [.slice (some ⟨g24, 0, none⟩) (60 + x22.toNat) (60 + x22.toNat)] = inC (ds5 ++ [(⟨g24, (60 + x22.toNat), List.replicate (60 + x22.toNat) 0, []⟩ : Inn)]) := by have h9 := nsn (ds := ds5) g24 (60 + x22.toNat) (List.replicate (60 + x22.toNat) 0) []; rw [hlr] at h9; exact h9
    have hl9 := hl27
    rw [e9] at h' hl9
    have hpp : pays (ds5 ++ [(⟨g24, (60 + x22.toNat), List.replicate (60 + x22.toNat) 0, []⟩ : Inn)]) = ps5 ++ [List.replicate (60 + x22.toNat) 0] := hR5.snoc _
    have e8 : Value.agg #[.int .i64 q5, .slice (some ⟨g27, 0, none⟩) (ps5.length + 1) c27, .int .i64 dr5] = .agg #[.int .i64 q5, .slice (some ⟨g27, 0, none⟩) (ps5 ++ [List.replicate (60 + x22.toNat) 0]).length c27, .int .i64 dr5] := by rw [List.length_append]; rfl
    exact ⟨(⟨q5, dr5, ps5 ++ [List.replicate (60 + x22.toNat) 0], ⟨some ⟨g27, 0, none⟩, c27, g27, 52, inC (ds5 ++ [(⟨g24, (60 + x22.toNat), List.replicate (60 + x22.toNat) 0, []⟩ : Inn)]) ++ sp27, ds5 ++ [(⟨g24, (60 + x22.toNat), List.replicate (60 + x22.toNat) 0, []⟩ : Inn)]⟩⟩, i22, h22), ⟨RowP.of hpp hl9 hc27, by simp only [List.length_append, tot_append, tot, hlr, List.length_cons, List.length_nil]; omega, by simp only; omega, by simp only; omega⟩, congrArg Ending.returned e8, HP.three (by simp [Inn.blk, bv_rep]) h'⟩
  refine wc_skip ?_
  refine px_block ?_
  refine px_then ?_
  refine wc_seq ?_
  refine wc_region ?_
  refine wl_v rfl (val_loadB (.head _) (lk rfl) ag_29) ?_
  refine wl_storeB 2 rfl (lk rfl) (lk rfl) ag_29 rfl rfl ?_
  refine wl_nil ?_
  refine px_then ?_
  refine wc_ret ?_
  refine fin1 rfl (res_cell rfl (.tail _ (.tail _ (.head _))) ag_29) (fun w1 hw => ?_)
  exact ⟨(⟨q5, dr5, ps5, ⟨A5, c5, g5, T5, cs5, ds5⟩⟩, i7, h7), ⟨hR5, by simp only; omega, by simp only; omega, by simp only; omega⟩, rfl, (hw.maskG [false, true, false, true] [(true, ds5)] rfl rfl).perm (List.Perm.swap _ _ _)⟩

theorem l15One_c (A : Option Addr) (n b o c : Nat) (w : World) (hk : Cod w A n b o) :
    Calls Try.prog 49 #[.slice A n c] w fun e w' => ∃ x : DB × Nat, (RowP x.1.ps x.1.p.A x.1.p.c x.1.p.g x.1.p.T x.1.p.cs x.1.p.ds ∧ x.1.ps.length + tot x.1.ps ≤ 700 ∧ -1 ≤ x.1.dr ∧ x.1.dr ≤ 8) ∧ e = .returned (.tuple #[.pointer (some ⟨x.2, 0, none⟩), .agg #[.int .i64 x.1.q, .slice x.1.p.A x.1.ps.length x.1.p.c, .int .i64 x.1.dr]]) ∧ HP w ([x.1.p.blk] ++ inT [x.1.p.ds]) w' := by
  refine calls_entry [] _ Try.func49 rfl Try.ntmps49 (HP.refl w) (env1 rfl) ?_
  refine wc_seq ?_
  refine wc_region ?_
  refine wl_v rfl (val_assign lkc) ?_
  refine wl_alloc zc_29 rfl fun b1 => ?_
  refine wl_nil ?_
  refine px_then ?_
  refine wc_seq ?_
  refine wc_region ?_
  refine wl_v rfl (val_move (lk rfl)) ?_
  refine wl_callx rfl ci_56 (args1 (lk rfl)) (fun w1 hw => l1New_c _ _ _ _ _ w1 (hk.hp hw rfl)) (fun _ => rfl) ?_
  rintro ⟨gc6, h6⟩ -
  refine wl_v rfl (val_assign (lk rfl)) ?_
  refine wl_nil ?_
  refine px_then ?_
  refine wc_seq ?_
  refine wc_region ?_
  refine wl_v rfl (val_move (lk rfl)) ?_
  refine wl_v rfl (val_move (lk rfl)) ?_
  refine wl_callWU (Ds := []) 0 2 rfl ci_57 (args1 (lk rfl)) rfl (fun _ => rfl) (fun w1 hw => l15Any_c _ _ _ _ _ _ _ _ w1 (hk.cur hw rfl (.head _)) (hw.own _ (.head _))) (fun _ => rfl) ?_
  rintro ⟨⟨q9, dr9, ps9, A9, c9, g9, T9, cs9, ds9⟩, i9, h9⟩ ⟨hR9, hz9, hlo9, hdr9⟩
  simp only at hR9 hz9 hlo9 hdr9
  have hq9 := hR9.cap
  refine wl_v rfl (val_assign (lk rfl)) ?_
  refine wl_storeB 2 rfl (lk rfl) (lk rfl) ag_29 rfl rfl ?_
  refine wl_nil ?_
  refine px_then ?_
  refine wc_ret ?_
  refine fin2 rfl (res_tmp rfl) (res_cell rfl (.tail _ (.tail _ (.head _))) ag_29) (fun w1 hw => ?_)
  exact ⟨(⟨q9, dr9, ps9, ⟨A9, c9, g9, T9, cs9, ds9⟩⟩, _), ⟨hR9, hz9, hlo9, hdr9⟩, rfl, hw.maskG [true, false, false] [(true, ds9)] rfl rfl⟩

theorem DrawBuf_c (A : Option Addr) (n b o c : Nat) (w : World) (hk : Cod w A n b o) :
    Calls Try.prog 26 #[.slice A n c] w fun e w' => ∃ x : DB × Unit, (RowP x.1.ps x.1.p.A x.1.p.c x.1.p.g x.1.p.T x.1.p.cs x.1.p.ds ∧ x.1.ps.length + tot x.1.ps ≤ 700 ∧ -1 ≤ x.1.dr ∧ x.1.dr ≤ 8) ∧ e = .returned (.agg #[.int .i64 x.1.q, .slice x.1.p.A x.1.ps.length x.1.p.c, .int .i64 x.1.dr]) ∧ HP w ([x.1.p.blk] ++ inT [x.1.p.ds]) w' := by
  refine calls_entry [] _ Try.func26 rfl Try.ntmps26 (HP.refl w) (env1 rfl) ?_
  refine wc_seq ?_
  refine wc_region ?_
  refine wl_alloc zc_29 rfl fun b1 => ?_
  refine wl_nil ?_
  refine px_then ?_
  refine wc_seq ?_
  refine wc_region ?_
  refine wl_v rfl (val_move (lk rfl)) ?_
  refine wl_callU (Ds := []) 1 rfl ci_49 (args1 (lk rfl)) rfl (fun w1 hw => l15One_c _ _ _ _ _ w1 (hk.hp hw rfl)) (fun _ => rfl) ?_
  rintro ⟨⟨q7, dr7, ps7, A7, c7, g7, T7, cs7, ds7⟩, cr7⟩ ⟨hR7, hz7, hlo7, hdr7⟩
  simp only at hR7 hz7 hlo7 hdr7
  have hq7 := hR7.cap
  refine wl_v rfl (val_move (lk rfl)) ?_
  refine wl_v rfl (val_extract (lk rfl) rfl) ?_
  refine wl_v rfl (val_extract (lk rfl) rfl) ?_
  refine wl_alloc zc_29 rfl fun b2 => ?_
  refine wl_v rfl (val_assign (lk rfl)) ?_
  refine wl_storeB 0 rfl (lk rfl) (lk rfl) ag_29 rfl rfl ?_
  refine wl_nil ?_
  refine px_then ?_
  refine wc_seq ?_
  refine wc_region ?_
  refine wl_v rfl (val_loadB (.head _) (lk rfl) ag_29) ?_
  refine wl_storeB 2 rfl (lk rfl) (lk rfl) ag_29 rfl rfl ?_
  refine wl_nil ?_
  refine px_then ?_
  refine wc_ret ?_
  refine fin1 rfl (res_cell rfl (.tail _ (.tail _ (.head _))) ag_29) (fun w1 hw => ?_)
  exact ⟨(⟨q7, dr7, ps7, ⟨A7, c7, g7, T7, cs7, ds7⟩⟩, ()), ⟨hR7, hz7, hlo7, hdr7⟩, rfl, hw.maskG [false, true, false] [(true, ds7)] rfl rfl⟩

end Go.Proofs.Ytfinobpodmdkgaa
