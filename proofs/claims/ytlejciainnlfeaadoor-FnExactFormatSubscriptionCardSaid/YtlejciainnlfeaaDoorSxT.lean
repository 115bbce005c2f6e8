/- Texts: the rules for strings; numbers as text, walked. -/
import Derived.Test.YtlejciainnlfeaaDoorSxN
import Derived.Test.YtlejciainnlfeaaDoorSxK
import Derived.Lib.ItoaLen
import Derived.Lib.SmallJoins
import Derived.Laws.BytesString
import Derived.Laws.Concat
import Derived.Laws.Strings
namespace Go.Proofs.YtlejciainnlfeaaDoor
open Go.RowKit


section
variable {P : Program} {w0 : World} {n : Nat} {l : Env} {bs : List Blk} {G : Bool} {d : Option Tmp} {ty : TypeId} {pos : String} {af : Array Edge} {gd : Option (Nat × Bool)}
theorem val_addS {t y : TypeId} {x z : Operand} {l1 l2 : List UInt8} (hx : Look l n G x (.string ⟨l1.toArray⟩)) (hz : Look l n G z (.string ⟨l2.toArray⟩)) (hb : l1.length + l2.length ≤ 9223372036854775807) :
    Val P w0 n l bs G ⟨d, .binOp .add t x z y, ty, pos, af, gd⟩ (.string ⟨(l1 ++ l2).toArray⟩) := fun a w ha _ hG => by
  have h1 : (Go.Op.stringOp .add ⟨l1.toArray⟩ ⟨l2.toArray⟩).run P w = .ok (.string ⟨(l1 ++ l2).toArray⟩) w := by
    rw [run_string_add_sum w _ _ (by simp [ByteArray.size]; omega), ByteArray.mk_append_mk]
  simp [execOp, hx a ha hG, hz a ha hG, eqGuard_at_string, binOp_string_add, h1]
theorem val_neqT {t y : TypeId} {x z : Operand} {a1 a2 : ByteArray} (hx : Look l n G x (.string a1)) (hz : Look l n G z (.string a2)) :
    Val P w0 n l bs G ⟨d, .binOp .neq t x z y, ty, pos, af, gd⟩ (.bool !(a1.toList == a2.toList)) := fun a w ha _ hG => by
  simp [execOp, hx a ha hG, hz a ha hG, eqGuard_at_string, binOp_string_neq]
theorem val_convB {src dst e : TypeId} {x : Operand} {b cap : Nat} {k : Int} {nw : Bool} {t : TypeId} (hs : P.underlying src = some (.slice e)) (he : P.underlying e = some (.int .u8)) (hd : P.underlying dst = some .string) (hm : (⟨b, nw, t, [.int .u8 k]⟩ : Blk) ∈ bs)
    (hx : Look l n G x (.slice (some ⟨b, 0, none⟩) 1 cap)) : Val P w0 n l bs G ⟨d, .convert src dst x, ty, pos, af, gd⟩ (.string ⟨[UInt8.ofNat k.toNat].toArray⟩) := fun a w ha hw hG => by
  have hl : (loadCells ⟨b, 0, none⟩ 1).run P w = .ok ([k].map (Value.int .u8)).toArray w := by
    have h1 := run_loadCells_list (P := P) w ⟨b, 0, none⟩ [.int .u8 k] (fun j v hv => by rw [Addr.add_lit, Nat.zero_add, hw.cell hm]; exact hv)
    simpa using h1
  have h2 := run_bytesToString (P := P) w ⟨b, 0, none⟩ 1 cap [k] hl
  have h3 := run_convert_bytes_string (P := P) w src dst e (some ⟨b, 0, none⟩) 1 cap hs he hd
  rw [h2] at h3
  have e1 : List.foldl (fun r (n : Int) => r.push (UInt8.ofNat n.toNat)) ByteArray.empty [k] = ⟨[UInt8.ofNat k.toNat].toArray⟩ := rfl
  rw [e1] at h3
  simp [execOp, hx a ha hG, h3]
end
theorem HP.ofBelow {w w' : World} (h : Below w.heap.size w w') : HP w [] w' := ⟨h.os, h.tape, h.output, h.size, fun k hk _ => h.block k hk, fun _ h => absurd h (by simp), fun _ h => absurd h (by simp), by simp⟩
theorem drewN_same (w : World) : ∀ k, (w.drewN k).os = w.os ∧ (w.drewN k).tape = w.tape ∧ (w.drewN k).output = w.output ∧ (w.drewN k).heap = w.heap
  | 0 => ⟨rfl, rfl, rfl, rfl⟩
  | _ + 1 => ⟨rfl, rfl, rfl, rfl⟩
theorem HP.ofGrow (w : World) (k : Nat) (os : Array Obj) : HP w [] (Go.Sort.grow (w.drewN k) os) := by
  obtain ⟨h1, h2, h3, h4⟩ := drewN_same w k
  refine ⟨h1, h2, h3, ?_, fun j hj _ => ?_, fun _ h => absurd h (by simp), fun _ h => absurd h (by simp), by simp⟩
  · simp [Go.Sort.grow, h4]
  · simp [Go.Sort.grow, h4, Array.getElem?_append_left hj]
/-- the digits of a number; none of 0 -/
def dd (x : Int) : List UInt8 := if x = 0 then [] else Lib.decDigits x.natAbs
theorem dd_len {x n : Int} {s : List UInt8} (h : -9223372036854775808 ≤ n ∧ n ≤ 9223372036854775807) (hd : dd x ++ s = dd n) : s.length ≤ 20 := by
  have h1 := congrArg List.length hd
  rw [List.length_append] at h1
  have h2 : (dd n).length ≤ 20 := by
    unfold dd
    split
    · simp
    · rw [Lib.decDigits_length]; exact Lib.nDigits_le20 _ (by omega)
  omega
theorem dd_step {x : Int} (hx : x ≠ 0) (s : List UInt8) : dd (x.tdiv 10) ++ ([UInt8.ofNat (48 + x.natAbs % 10)] ++ s) = dd x ++ s := by
  have e1 : (x.tdiv 10).natAbs = x.natAbs / 10 := by rw [Int.natAbs_tdiv]; rfl
  rw [← List.append_assoc]
  congr 1
  unfold dd
  rw [if_neg hx]
  conv => rhs; rw [Lib.decDigits]
  by_cases h : x.natAbs < 10
  · have h0 : x.tdiv 10 = 0 := Int.natAbs_eq_zero.1 (by rw [e1]; omega)
    rw [dif_pos h, if_pos h0, Nat.mod_eq_of_lt h]; rfl
  · have h0 : x.tdiv 10 ≠ 0 := fun e => by rw [e] at e1; simp at e1; omega
    rw [dif_neg h, if_neg h0, e1]
theorem tmod_abs (x : Int) : (x.tmod 10).natAbs = x.natAbs % 10 := by rw [Int.natAbs_tmod]; rfl
theorem byte_of {d : Int} {m : Nat} (h0 : 0 ≤ d) (hd : d.natAbs = m) (hm : m < 10) : UInt8.ofNat (IntKind.u8.wrap (IntKind.i64.wrap (48 + d))).toNat = UInt8.ofNat (48 + m) := by
  have h1 : d = (m : Int) := by omega
  subst h1
  rw [wrap64_in' (by omega)]
  have h2 : IntKind.u8.wrap (48 + (m : Int)) = ((48 + m : Nat) : Int) := by
    match m, hm with
    | 0, _ => decide
    | 1, _ => decide
    | 2, _ => decide
    | 3, _ => decide
    | 4, _ => decide
    | 5, _ => decide
    | 6, _ => decide
    | 7, _ => decide
    | 8, _ => decide
    | 9, _ => decide
  rw [h2, Int.toNat_natCast]
theorem dd_pos {x : Int} (hx : x ≠ 0) (hd : ¬ x.tmod 10 < 0) (hr : -9223372036854775808 ≤ x ∧ x ≤ 9223372036854775807) (s : List UInt8) : dd (IntKind.i64.wrap (x.tdiv 10)) ++ ([UInt8.ofNat (IntKind.u8.wrap (IntKind.i64.wrap (48 + x.tmod 10))).toNat] ++ s) = dd x ++ s := by
  have e1 : (x.tdiv 10).natAbs = x.natAbs / 10 := by rw [Int.natAbs_tdiv]; rfl
  rw [byte_of (by omega) (tmod_abs x) (Nat.mod_lt _ (by decide)), wrap64_in' (by omega)]
  exact dd_step hx s
theorem dd_neg {x : Int} (hx : x ≠ 0) (hd : x.tmod 10 < 0) (hr : -9223372036854775808 ≤ x ∧ x ≤ 9223372036854775807) (s : List UInt8) : dd (IntKind.i64.wrap (x.tdiv 10)) ++ ([UInt8.ofNat (IntKind.u8.wrap (IntKind.i64.wrap (48 + IntKind.i64.wrap (-x.tmod 10)))).toNat] ++ s) = dd x ++ s := by
  have e1 : (x.tdiv 10).natAbs = x.natAbs / 10 := by rw [Int.natAbs_tdiv]; rfl
  have e2 := tmod_abs x
  have e3 : x.natAbs % 10 < 10 := Nat.mod_lt _ (by decide)
  rw [wrap64_in' (i := -x.tmod 10) (by omega), byte_of (m := x.natAbs % 10) (by omega) (by omega) e3, wrap64_in' (by omega)]
  exact dd_step hx s
theorem dd_mu {x : Int} (hx : x ≠ 0) (hr : -9223372036854775808 ≤ x ∧ x ≤ 9223372036854775807) : (-9223372036854775808 ≤ IntKind.i64.wrap (x.tdiv 10) ∧ IntKind.i64.wrap (x.tdiv 10) ≤ 9223372036854775807) ∧ (IntKind.i64.wrap (x.tdiv 10)).natAbs < x.natAbs := by
  have e1 : (x.tdiv 10).natAbs = x.natAbs / 10 := by rw [Int.natAbs_tdiv]; rfl
  rw [wrap64_in' (by omega)]
  omega
theorem dd_end {n : Int} {s : List UInt8} (hn : n ≠ 0) (hd : dd 0 ++ s = dd n) : s = Lib.decDigits n.natAbs := by
  have : s = dd n := hd
  rw [this, dd, if_neg hn]
def jn (sep : List UInt8) (xs : List Int) : List UInt8 := Lib.join (xs.map Lib.itoa) sep
theorem jn_step (sep : List UInt8) {xs : List Int} {k : Nat} (hk : k < xs.length) (h0 : 0 < k) : jn sep (xs.take (k + 1)) = jn sep (xs.take k) ++ sep ++ Lib.itoa (nth d0I xs k) := by
  match xs, k, h0, hk with
  | x :: r, k + 1, _, hk =>
    have hk' : k < r.length := by simpa using hk
    have e : nth d0I (x :: r) (k + 1) = nth d0I r k := by simp [nth]
    rw [jn, jn, List.take_succ_cons, List.take_succ_cons, List.map_cons, List.map_cons, Lib.join_cons, Lib.join_cons, e, List.map_take, List.map_take, Lib.joinTail_take_succ sep (r.map Lib.itoa) k (Lib.itoa (nth d0I r k)) (by rw [List.getElem?_map, List.getElem?_eq_getElem hk', nth_eq hk']; rfl)]
    simp [List.append_assoc]
theorem jn_one (sep : List UInt8) {xs : List Int} (hk : 0 < xs.length) : jn sep (xs.take 1) = Lib.itoa (nth d0I xs 0) := by
  match xs, hk with
  | x :: r, _ => simp [jn, Lib.join_one, nth]
abbrev rng (x : Int) : Prop := -9223372036854775808 ≤ x ∧ x ≤ 9223372036854775807
theorem jn_len (sep : List UInt8) (hs : sep.length ≤ 1) : ∀ xs : List Int, (∀ x ∈ xs, rng x) → (jn sep xs).length ≤ xs.length * 22
  | [], _ => by simp [jn, Lib.join_nil]
  | x :: r, h => by
    have h1 := Lib.itoa_length_le x (h x List.mem_cons_self).1 (h x List.mem_cons_self).2
    have hl : ∀ r : List Int, (∀ x ∈ r, rng x) → Lib.lens (r.map Lib.itoa) ≤ r.length * 21 := by
      intro r
      induction r with
      | nil => intro _; simp [Lib.lens]
      | cons y r ih =>
        intro h
        have h2 := Lib.itoa_length_le y (h y List.mem_cons_self).1 (h y List.mem_cons_self).2
        have h3 := ih (fun z hz => h z (List.mem_cons_of_mem _ hz))
        simp only [Lib.lens, List.map_cons, List.sum_cons, List.length_cons] at h3 ⊢
        omega
    have h2 := hl r (fun z hz => h z (List.mem_cons_of_mem _ hz))
    rw [jn, List.map_cons, Lib.join_cons, List.length_append, Lib.joinTail_length, List.length_map, List.length_cons]
    have h3 : sep.length * r.length ≤ 1 * r.length := Nat.mul_le_mul_right _ hs
    omega
theorem jn_take_len (sep : List UInt8) (hs : sep.length ≤ 1) {xs : List Int} (k : Nat) (h : ∀ x ∈ xs, rng x) : (jn sep (xs.take k)).length ≤ xs.length * 22 := by
  have h1 := jn_len sep hs (xs.take k) (fun x hx => h x (List.mem_of_mem_take hx))
  rw [List.length_take] at h1
  have : min k xs.length * 22 ≤ xs.length * 22 := Nat.mul_le_mul_right _ (by omega)
  omega
theorem slotT {m n : List UInt8} (h : m = n) : some (true, Value.string ⟨m.toArray⟩) = some (true, Value.string ⟨n.toArray⟩) := by rw [h]
def ws (xs : List Int) : List Value := xs.map fun n => .string ⟨(Lib.itoa n).toArray⟩
theorem ws_len (xs : List Int) : (ws xs).length = xs.length := by simp [ws]
theorem ws_step {xs : List Int} {cs0 : List Value} {m : Nat} (hm : m < xs.length) (h0 : xs.length = cs0.length) :
    (ws (xs.take m) ++ cs0.drop m).set (0 + m * 1) (.string ⟨(Lib.itoa (nth d0I xs m)).toArray⟩) = ws (xs.take (m + 1)) ++ cs0.drop (m + 1) := by
  have hl : (ws (xs.take m)).length = m := by rw [ws_len, List.length_take]; omega
  rw [Nat.zero_add, Nat.mul_one, List.set_append_right _ _ (by omega), hl, Nat.sub_self, take_nth (d := d0I) hm, ws, ws, List.map_append, List.append_assoc]
  congr 1
  rw [List.drop_eq_getElem_cons (show m < cs0.length by omega), List.set_cons_zero]
  rfl
def fmtS (s : Sub) : List UInt8 := if 0 < s.nets.length then jn [47] [s.rate, s.best, s.grant] ++ ([43] ++ jn [44] s.nets) else jn [47] [s.rate, s.best, s.grant]
def Sub.fine (s : Sub) : Prop := rng s.rate ∧ rng s.best ∧ rng s.grant ∧ ∀ x ∈ s.nets, rng x
theorem jn3 (sep : List UInt8) (a b c : Int) : jn sep [a, b, c] = Lib.itoa a ++ sep ++ Lib.itoa b ++ sep ++ Lib.itoa c := by
  simp [jn, Lib.join_cons, Lib.joinTail, List.append_assoc]

theorem sFmt_c (n : Int) (w : World) (hn : rng n) :
    Calls Tryd.prog 10 #[.int .i64 n] w fun e w' => e = .returned (.string ⟨(Lib.itoa n).toArray⟩) ∧ HP w [] w' := by
  refine calls_entry [] _ Tryd.func10 rfl Tryd.ntmps10 (HP.refl w) (env1 rfl) ?_
  refine wc_seq ?_
  refine wc_region ?_
  refine wl_v rfl (val_assign lkc) ?_
  refine wl_nil ?_
  refine px_then ?_
  refine wc_seq ?_
  refine wc_seq ?_
  refine wc_region ?_
  refine wl_v rfl (val_move (lk rfl)) ?_
  refine wl_v rfl (val_eql (lk rfl) lkc) ?_
  refine wl_nil ?_
  refine px_then ?_
  refine wc_cond (lk rfl) (fun hc0 => ?_) (fun hc0 => ?_)
  · have hn0 : n = 0 := by simpa using hc0
    refine wc_seq ?_
    refine wc_region ?_
    refine wl_v rfl (val_assign lkc) ?_
    refine wl_nil ?_
    refine px_then ?_
    refine wc_ret ?_
    refine px_then_ret ?_
    refine fin1 rfl (res_tmp rfl) (fun w1 hw => ?_)
    exact ⟨by subst hn0; simp [Lib.itoa, Lib.decDigits], hw.drop rfl⟩
  have hn0 : n ≠ 0 := by simpa using hc0
  refine wc_skip ?_
  refine px_then ?_
  refine wc_seq ?_
  refine wc_region ?_
  refine wl_v rfl (val_assign lkc) ?_
  refine wl_nil ?_
  refine px_then ?_
  refine wc_seq ?_
  refine wc_seq ?_
  refine wc_region ?_
  refine wl_v rfl (val_move (lk rfl)) ?_
  refine wl_v rfl (val_assign (lk rfl)) ?_
  refine wl_nil ?_
  refine px_then ?_
  refine wc_block ?_
  refine wc_trim (l' := [(0, _), (2, _), (3, _), (4, _)]) ⟨rfl, rfl, rfl, rfl, trivial⟩ ?_
  refine wc_loop0 (X := Int × List UInt8) (fun x => rng x.1 ∧ dd x.1 ++ x.2 = dd n) (fun x => [(3, (true, .string ⟨(x.2).toArray⟩)), (4, (true, .int .i64 x.1))]) (fun x => x.1.natAbs) (n, []) (⟨hn, List.append_nil _⟩) ⟨rfl, rfl, rfl, rfl, rfl, rfl, trivial⟩ ?_
  rintro ⟨x, s⟩ ⟨hx, hd⟩
  simp only at hx hd
  dsimp only
  have hs := dd_len hn hd
  refine wc_seq ?_
  refine wc_seq ?_
  refine wc_region ?_
  refine wl_v rfl (val_move (lk rfl)) ?_
  refine wl_v rfl (val_neq (lk rfl) lkc) ?_
  refine wl_nil ?_
  refine px_then ?_
  refine wc_cond (lk rfl) (fun hc1 => ?_) (fun hc1 => ?_)
  · have hx0 : x ≠ 0 := by simpa using hc1
    refine wc_skip ?_
    refine px_then ?_
    refine wc_seq ?_
    refine wc_block ?_
    refine wc_seq ?_
    refine wc_region ?_
    refine wl_v rfl (val_move (lk rfl)) ?_
    refine wl_v rfl (val_rem (lk rfl) lkc (fun _ => by decide)) ?_
    refine wl_v rfl (val_assign (lk rfl)) ?_
    refine wl_nil ?_
    refine px_then ?_
    refine wc_seq ?_
    refine wc_seq ?_
    refine wc_region ?_
    refine wl_v rfl (val_move (lk rfl)) ?_
    refine wl_v rfl (val_lss (lk rfl) lkc) ?_
    refine wl_nil ?_
    refine px_then ?_
    refine wc_cond (lk rfl) (fun hc2 => ?_) (fun hc2 => ?_)
    · refine wc_region ?_
      refine wl_v rfl (val_move (lk rfl)) ?_
      refine wl_v rfl (val_neg (lk rfl)) ?_
      refine wl_v rfl (val_assign (lk rfl)) ?_
      refine wl_nil ?_
      refine px_then ?_
      refine wc_region ?_
      refine wl_v rfl (val_move (lk rfl)) ?_
      refine wl_v rfl (val_add lkc (lk rfl)) ?_
      refine wl_v rfl (val_conv (by kernel_rfl) Tryd.underlying5 (lk rfl)) ?_
      refine wl_bslice (partsC (lk rfl) parts0) (bsl_36_1_0 _) rfl fun b1 => ?_
      refine wl_v rfl (val_convB Tryd.underlying36 Tryd.underlying5 Tryd.underlying9 (.head _) (lk rfl)) ?_
      refine wl_v rfl (val_move (lk rfl)) ?_
      refine wl_v rfl (val_addS (lk rfl) (lk rfl) (by first | omega | (simp only [List.length_cons, List.length_nil, List.length_append]; omega))) ?_
      refine wl_v rfl (val_assign (lk rfl)) ?_
      refine wl_nil ?_
      refine px_block ?_
      refine px_then ?_
      refine wc_region ?_
      refine wl_v rfl (val_move (lk rfl)) ?_
      refine wl_v rfl (val_quo (lk rfl) lkc (fun _ => by decide)) ?_
      refine wl_v rfl (val_assign (lk rfl)) ?_
      refine wl_nil ?_
      refine px_round0 ((_, _)) (⟨(dd_mu hx0 hx).1, by rw [← hd]; first | exact dd_neg hx0 (of_decide_eq_true hc2) hx s | exact dd_pos hx0 (of_decide_eq_false hc2) hx s⟩) ((dd_mu hx0 hx).2) (⟨rfl, rfl, rfl, rfl, rfl, rfl, trivial⟩) (fun _ h => h.dropN 1 rfl)
    refine wc_skip ?_
    refine px_then ?_
    refine wc_region ?_
    refine wl_v rfl (val_move (lk rfl)) ?_
    refine wl_v rfl (val_add lkc (lk rfl)) ?_
    refine wl_v rfl (val_conv (by kernel_rfl) Tryd.underlying5 (lk rfl)) ?_
    refine wl_bslice (partsC (lk rfl) parts0) (bsl_36_1_0 _) rfl fun b2 => ?_
    refine wl_v rfl (val_convB Tryd.underlying36 Tryd.underlying5 Tryd.underlying9 (.head _) (lk rfl)) ?_
    refine wl_v rfl (val_move (lk rfl)) ?_
    refine wl_v rfl (val_addS (lk rfl) (lk rfl) (by first | omega | (simp only [List.length_cons, List.length_nil, List.length_append]; omega))) ?_
    refine wl_v rfl (val_assign (lk rfl)) ?_
    refine wl_nil ?_
    refine px_block ?_
    refine px_then ?_
    refine wc_region ?_
    refine wl_v rfl (val_move (lk rfl)) ?_
    refine wl_v rfl (val_quo (lk rfl) lkc (fun _ => by decide)) ?_
    refine wl_v rfl (val_assign (lk rfl)) ?_
    refine wl_nil ?_
    refine px_round0 ((_, _)) (⟨(dd_mu hx0 hx).1, by rw [← hd]; first | exact dd_neg hx0 (of_decide_eq_true hc2) hx s | exact dd_pos hx0 (of_decide_eq_false hc2) hx s⟩) ((dd_mu hx0 hx).2) (⟨rfl, rfl, rfl, rfl, rfl, rfl, trivial⟩) (fun _ h => h.dropN 1 rfl)
  have hx0 : x = 0 := by simpa using hc1
  subst hx0
  have hse := dd_end hn0 hd
  refine wc_exit ?_
  refine px_then_exit ?_
  refine px_then_exit ?_
  refine px_block_exit ?_
  refine px_then ?_
  refine wc_seq ?_
  refine wc_seq ?_
  refine wc_region ?_
  refine wl_v rfl (val_move (lk rfl)) ?_
  refine wl_v rfl (val_lss (lk rfl) lkc) ?_
  refine wl_nil ?_
  refine px_then ?_
  refine wc_cond (lk rfl) (fun hc3 => ?_) (fun hc3 => ?_)
  · refine wc_seq ?_
    refine wc_region ?_
    refine wl_v rfl (val_move (lk rfl)) ?_
    refine wl_v rfl (val_addS lkc (lk rfl) (by first | omega | (simp only [List.length_cons, List.length_nil, List.length_append]; omega))) ?_
    refine wl_v rfl (val_assign (lk rfl)) ?_
    refine wl_nil ?_
    refine px_then ?_
    refine wc_ret ?_
    refine px_then_ret ?_
    refine fin1 rfl (res_tmp rfl) (fun w1 hw => ?_)
    exact ⟨by rw [Lib.itoa, if_pos (of_decide_eq_true hc3), hse]; rfl, hw.drop rfl⟩
  refine wc_skip ?_
  refine px_then ?_
  refine wc_seq ?_
  refine wc_region ?_
  refine wl_v rfl (val_move (lk rfl)) ?_
  refine wl_v rfl (val_assign (lk rfl)) ?_
  refine wl_nil ?_
  refine px_then ?_
  refine wc_ret ?_
  refine fin1 rfl (res_tmp rfl) (fun w1 hw => ?_)
  exact ⟨by have h9 := of_decide_eq_false hc3; rw [Lib.itoa, if_neg h9, hse, show n.natAbs = n.toNat by omega], hw.drop rfl⟩

theorem sInts_c (xs : List Int) (A : Option Addr) (b o c : Nat) (sep : List UInt8) (w : World) (hs : Sl w A b o (flat encI xs)) (hl : xs.length ≤ 2097152) (hr : ∀ x ∈ xs, rng x) (hsp : sep.length ≤ 1) :
    Calls Tryd.prog 11 #[.slice A xs.length c, .string ⟨(sep).toArray⟩] w fun e w' => e = .returned (.string ⟨(jn sep xs).toArray⟩) ∧ HP w [] w' := by
  refine calls_entry [] _ Tryd.func11 rfl Tryd.ntmps11 (HP.refl w) (env2 rfl) ?_
  refine wc_seq ?_
  refine wc_region ?_
  refine wl_v rfl (val_assign lkc) ?_
  refine wl_nil ?_
  refine px_then ?_
  refine wc_seq ?_
  refine wc_region ?_
  refine wl_v rfl (val_assign lkc) ?_
  refine wl_nil ?_
  refine px_then ?_
  refine wc_seq ?_
  refine wc_seq ?_
  refine wc_region ?_
  refine wl_v rfl (val_assign lkc) ?_
  refine wl_nil ?_
  refine px_then ?_
  refine wc_block ?_
  refine wc_trim (l' := [(0, _), (1, _), (4, _), (5, _), (6, _)]) ⟨rfl, rfl, rfl, rfl, rfl, trivial⟩ ?_
  refine wc_loop0 (X := Nat) (fun k => k ≤ xs.length) (fun k => [(5, (true, .string ⟨(jn sep (xs.take k)).toArray⟩)), (6, (true, .int .i64 (k : Nat)))]) (fun k => xs.length - k) 0 (Nat.zero_le _) ⟨rfl, rfl, rfl, rfl, rfl, rfl, rfl, trivial⟩ ?_
  intro k hk
  refine wc_seq ?_
  refine wc_seq ?_
  refine wc_region ?_
  refine wl_v rfl (val_move (lk rfl)) ?_
  refine wl_v rfl (val_move (lk rfl)) ?_
  refine wl_v rfl (val_len es_22 (lk rfl)) ?_
  refine wl_v rfl (val_lss (lk rfl) (lk rfl)) ?_
  refine wl_nil ?_
  refine px_then ?_
  refine wc_cond (lk rfl) (fun hc0 => ?_) (fun hc0 => ?_)
  · have hlt : k < xs.length := by have := of_decide_eq_true hc0; omega
    have hrk : rng (nth d0I xs k) := by rw [nth_eq hlt]; exact hr _ (List.getElem_mem _)
    have hjl := jn_take_len sep hsp k hr
    have hil := Lib.itoa_length_le _ hrk.1 hrk.2
    refine wc_skip ?_
    refine px_then ?_
    refine wc_seq ?_
    refine wc_block ?_
    refine wc_seq ?_
    refine wc_seq ?_
    refine wc_region ?_
    refine wl_v rfl (val_move (lk rfl)) ?_
    refine wl_v rfl (val_gtr (lk rfl) lkc) ?_
    refine wl_nil ?_
    refine px_then ?_
    refine wc_cond (lk rfl) (fun hc1 => ?_) (fun hc1 => ?_)
    · have hk0 : 0 < k := by have := of_decide_eq_true hc1; omega
      refine wc_region ?_
      refine wl_v rfl (val_move (lk rfl)) ?_
      refine wl_v rfl (val_move (lk rfl)) ?_
      refine wl_v rfl (val_addS (lk rfl) (lk rfl) (by first | omega | (simp only [List.length_cons, List.length_nil, List.length_append]; omega))) ?_
      refine wl_v rfl (val_assign (lk rfl)) ?_
      refine wl_nil ?_
      refine px_then ?_
      refine wc_region ?_
      refine wl_v rfl (val_move (lk rfl)) ?_
      refine wl_v rfl (val_move (lk rfl)) ?_
      refine wl_v rfl (val_move (lk rfl)) ?_
      refine wl_v rfl (val_index es_22 (lk rfl) (lk rfl) (fun hG => hs.hd encI_len (by decide) (i := k) (by first | omega | (have h9 := of_decide_eq_true hG; omega) | (simp at hG; omega))) (fun hG => by first | omega | (have h9 := of_decide_eq_true hG; omega) | (simp at hG; omega))) ?_
      refine wl_v rfl (val_load1 t1_3 (lk rfl) (cell_old rfl fun hG => hs.fld encI_len d0I (i := k) (f := 0) (by first | omega | (have h9 := of_decide_eq_true hG; omega) | (simp at hG; omega)) (by decide) rfl)) ?_
      refine wl_call gd_none rfl ci_10 (args1 (lk rfl)) (fun hG w1 hw => sFmt_c (nth d0I xs k) w1 hrk) ?_
      refine wl_v rfl (val_addS (lk rfl) (lk rfl) (by first | omega | (simp only [List.length_cons, List.length_nil, List.length_append]; omega))) ?_
      refine wl_v rfl (val_assign (lk rfl)) ?_
      refine wl_nil ?_
      refine px_block ?_
      refine px_then ?_
      refine wc_region ?_
      refine wl_v rfl (val_move (lk rfl)) ?_
      refine wl_v rfl (val_inc (lk rfl) (by omega)) ?_
      refine wl_v rfl (val_assign (lk rfl)) ?_
      refine wl_nil ?_
      refine px_round0 (k + 1) (by omega) (by omega) (⟨slotT (by first | exact (jn_step sep hlt hk0).symm | (subst hk0; exact (jn_one sep hlt).symm)), rfl, rfl, rfl, rfl, slotT (by first | exact (jn_step sep hlt hk0).symm | (subst hk0; exact (jn_one sep hlt).symm)), rfl, trivial⟩) (fun _ h => h.dropN 0 rfl)
    have hk0 : k = 0 := by have := of_decide_eq_false hc1; omega
    refine wc_skip ?_
    refine px_then ?_
    refine wc_region ?_
    refine wl_v rfl (val_move (lk rfl)) ?_
    refine wl_v rfl (val_move (lk rfl)) ?_
    refine wl_v rfl (val_move (lk rfl)) ?_
    refine wl_v rfl (val_index es_22 (lk rfl) (lk rfl) (fun hG => hs.hd encI_len (by decide) (i := k) (by first | omega | (have h9 := of_decide_eq_true hG; omega) | (simp at hG; omega))) (fun hG => by first | omega | (have h9 := of_decide_eq_true hG; omega) | (simp at hG; omega))) ?_
    refine wl_v rfl (val_load1 t1_3 (lk rfl) (cell_old rfl fun hG => hs.fld encI_len d0I (i := k) (f := 0) (by first | omega | (have h9 := of_decide_eq_true hG; omega) | (simp at hG; omega)) (by decide) rfl)) ?_
    refine wl_call gd_none rfl ci_10 (args1 (lk rfl)) (fun hG w1 hw => sFmt_c (nth d0I xs k) w1 hrk) ?_
    refine wl_v rfl (val_addS (lk rfl) (lk rfl) (by first | omega | (simp only [List.length_cons, List.length_nil, List.length_append]; omega))) ?_
    refine wl_v rfl (val_assign (lk rfl)) ?_
    refine wl_nil ?_
    refine px_block ?_
    refine px_then ?_
    refine wc_region ?_
    refine wl_v rfl (val_move (lk rfl)) ?_
    refine wl_v rfl (val_inc (lk rfl) (by omega)) ?_
    refine wl_v rfl (val_assign (lk rfl)) ?_
    refine wl_nil ?_
    refine px_round0 (k + 1) (by omega) (by omega) (⟨slotT (by first | exact (jn_step sep hlt hk0).symm | (subst hk0; exact (jn_one sep hlt).symm)), rfl, rfl, rfl, rfl, slotT (by first | exact (jn_step sep hlt hk0).symm | (subst hk0; exact (jn_one sep hlt).symm)), rfl, trivial⟩) (fun _ h => h.dropN 0 rfl)
  have hge : k = xs.length := by have := of_decide_eq_false hc0; omega
  subst hge
  refine wc_exit ?_
  refine px_then_exit ?_
  refine px_then_exit ?_
  refine px_block_exit ?_
  refine px_then ?_
  refine wc_seq ?_
  refine wc_region ?_
  refine wl_v rfl (val_move (lk rfl)) ?_
  refine wl_v rfl (val_assign (lk rfl)) ?_
  refine wl_nil ?_
  refine px_then ?_
  refine wc_ret ?_
  refine fin1 rfl (res_tmp rfl) (fun w1 hw => ?_)
  exact ⟨by rw [List.take_length], hw.drop rfl⟩

end Go.Proofs.YtlejciainnlfeaaDoor
