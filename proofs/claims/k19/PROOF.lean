import PyProof.Rows.All
import Wide.All
import OpenK.AllK
import Wide.FinOn
import HandS.ForMost
import HandS.ForExc
import HandS.Walk
import HandS.Deep
import HandS.ExcCtx
import HandS.HotCalls
import HandS.TupMul
import HandS.TupAny
import HandS.Style
import HandS.Text
import HandS.SetFor
import HandS.Strs
import HandS.Zip
import HandS.Iter
import KE.KIndexOf
import PyProof.StrOps2
import HandS.IsInst
import HandS.CallSlots
import HandS.TupLe
import HandS.ExcIs
import PyProof.EnumMake
import PyProof.TupleIter
import HandS.SortInts
import HandS.NamedTupSort
import KE.DataMinMax
import HandS.TryOnly
import HandS.Conv
import KE.KCallOwn
import HandS.RaiseMore
import HandS.TupSets
import PySem.Challenge.RW_abovepaths_k19_whole_averages
set_option Elab.async false
set_option linter.all false
set_option maxRecDepth 100000
set_option maxHeartbeats 4000000
/-! rules over the hand layer that it lacks -/
namespace L2
open PySem PySem.Spec PyProof.Rows HT
section
variable {prog : Program} {w : World} {A : Around} {E : Value → Shared → Prop} {s : Shared}
theorem av_iter_tup {l : Addr} {items : Array Value} {Q : Value → Shared → Prop} (hl : s.heap.IsTuple l items)
    (h : ∀ s₂ : Shared, s₂ = { s with heap := s.heap.push { cls := .type "tuple_iterator", data := .fields #[.ref l, .int 0 0] } } →
      (s₂.heap.IsTupleIter s.heap.objs.size l 0 ∧ s₂.heap.IsTuple l items) → (∀ b ∈ [s.heap.objs.size, l], b < s₂.heap.objs.size) → l ≠ s.heap.objs.size → Q (.ref s.heap.objs.size) s₂) :
    wpAny (model prog w) A (pyIter (.ref l)) Q E s := by
  have hlt : l < s.heap.objs.size := by obtain ⟨_, e, _⟩ := hl; exact Heap.lt_size e
  refine wpAny_pyIter_tuple hl (h _ rfl ⟨⟨_, Heap.get?_push_size _ rfl, rfl, rfl⟩, hl.push _⟩ (fun b hb => ?_) (Nat.ne_of_lt hlt))
  show b < (s.heap.push _).objs.size
  rw [Heap.size_push]
  rcases List.mem_cons.mp hb with rfl | hb
  · exact Nat.lt_succ_self _
  · rcases List.mem_cons.mp hb with rfl | hb
    · exact Nat.lt_succ_of_lt hlt
    · cases hb
theorem av_sum_tup {l : Addr} {its : List Value} {ns : List Int} {Q : Value → Shared → Prop} (hh : A.handled = none) (hl : s.heap.IsTuple l its.toArray) (hi : IntsAre its ns)
    (h : ∀ h' tk t', (∀ b o, s.heap.get? b = some o → h'.get? b = some o) → Q (.int ns.sum t') { s with heap := h', toks := tk }) : wpAny (model prog w) A (call (.builtin "sum") [.ref l]) Q E s := by
  obtain ⟨xs, e⟩ := hi.allInts.items
  have hn : numsOf (intItems xs).toList = ns := by rw [← e]; exact hi.numsOf
  rw [nums_intItems] at hn
  rw [e] at hl
  refine call_sum_walkG (av_iter_tup hl fun s₂ e st hfp hlI => ?_)
  subst e
  refine ⟨_, _, _, _, _, _, numAt xs, rfl, Walks.tuple (A := A.in1) hh _ l hlI (intItems xs), st, hfp, (fun _ _ => intItems_at), fun h' tk t' hk => ?_⟩
  have := h h' tk t' fun b o eb => hk b o (fun hm => by
    rw [List.mem_singleton] at hm
    exact absurd (hm ▸ Heap.lt_size eb) (Nat.lt_irrefl _)) (Heap.get?_push_of_some _ eb)
  rw [show (intItems xs).size = xs.size by simp [intItems], preSum_eq, List.take_of_length_le (by simp), hn]
  exact this
end
section
variable {X : Cx}
def rSumT (K : PySem.W.Frag) : List V → Hp → VK → Prop := fun vs H Q => ∃ (a : Addr) (ns : List Int), vs = [V.ref a] ∧ SqT K H a (ns.map V.int) ∧ Q (.int ns.sum) H
theorem cr_sumT (hc : X.calm = true) : CallR X (.builtin "sum") (rSumT X.K) := by
  intro pins s σ H vs us Q I r h
  obtain ⟨a, ns, rfl, hs, q⟩ := h
  obtain ⟨its, rv, hl, _⟩ := I.tuple hs
  rw [Vals.ref1 r]
  exact av_sum_tup (I.ok.hd hc) hl rv.ints fun h' tk t' hk => ⟨.int _, H, I.kept hk, ⟨_, rfl⟩, q⟩
end
/-! t[::-1] -/
section
variable {prog : Program} {w : World} {A : Around} {E : Value → Shared → Prop} {s : Shared}
theorem av_pick_rev (xs : Array Value) : ((List.range xs.size).filterMap fun (m : Nat) => xs[(((xs.size : Int) - 1) + (m : Int) * (-1)).toNat]?).toArray = xs.toList.reverse.toArray := by
  congr 1
  apply List.ext_getElem?
  intro i
  have e : ∀ (k : Nat), k ≤ xs.size → (List.range k).filterMap (fun (m : Nat) => xs[(((xs.size : Int) - 1) + (m : Int) * (-1)).toNat]?) = (List.range k).map (fun m => xs.toList.reverse.getD m .none) := by
    intro k hk
    induction k with
    | zero => rfl
    | succ k ih =>
      rw [List.range_succ, List.filterMap_append, List.map_append, ih (by omega)]
      congr 1
      have hlt : xs.size - 1 - k < xs.size := by omega
      have e1 : (((xs.size : Int) - 1) + (k : Int) * (-1)).toNat = xs.size - 1 - k := by omega
      have e2 : xs[(((xs.size : Int) - 1) + (k : Int) * (-1)).toNat]? = some (xs[xs.size - 1 - k]) := by rw [e1, Array.getElem?_eq_getElem hlt]
      rw [List.filterMap_cons, e2, List.filterMap_nil, List.map_cons, List.map_nil, List.getD_eq_getElem?_getD, List.getElem?_reverse (by rw [Array.length_toList]; omega), Array.length_toList, Array.getElem?_toList, Array.getElem?_eq_getElem hlt]
      rfl
  rw [e _ (Nat.le_refl _)]
  by_cases hi : i < xs.size
  · simp [hi, List.getD_eq_getElem?_getD]
  · rw [List.getElem?_eq_none (by simpa using hi), List.getElem?_eq_none (by simpa using hi)]
theorem av_sliceRev {sl : Addr} {n : Nat} {t : Tok} {Q : Int × Int × Nat → Shared → Prop} (hs : s.heap.IsSliceOf sl .none .none (.int (-1) t))
    (h : Q (((n : Int) - 1), -1, n) s) : wpAny (model prog w) A (Builtin.Slice.sliceApplied (.ref sl) (pure (n : Int))) Q E s := by
  obtain ⟨os, hos, hcs, hds⟩ := id hs
  unfold Builtin.Slice.sliceApplied Builtin.Slice.sliceFields
  refine wpAny_bind (wpAny_bind (wpAny_field hos hds (x := .none) rfl (wpAny_bind (wpAny_field hos hds (x := .none) rfl (wpAny_bind (wpAny_field hos hds (x := .int (-1) t) rfl (wpAny_pure ?_)))))))
  refine wpAny_bind (slicePart_int ?_)
  show wpAny _ _ (if ((-1 : Int) == 0) = true then _ else _) _ _ s
  rw [if_neg (by decide)]
  refine wpAny_bind (slicePart_none (wpAny_bind (slicePart_none (wpAny_bind (wpAny_pure ?_)))))
  have e : Builtin.Slice.sliceAdjust none none (-1) (n : Int) = ((n : Int) - 1, -1) := by
    unfold Builtin.Slice.sliceAdjust
    simp
  show wpAny _ _ (match Builtin.Slice.sliceAdjust none none (-1) (n : Int) with | (lo, hi) => pure (lo, (-1 : Int), Builtin.Slice.slicePlaces lo hi (-1))) _ _ s
  rw [e]
  have e2 : Builtin.Slice.slicePlaces ((n : Int) - 1) (-1) (-1) = n := by
    unfold Builtin.Slice.slicePlaces
    have h1 : ¬ ((-1 : Int) > 0) := by omega
    have h2 : (-(-1) : Int) = 1 := by omega
    simp only [h1, if_false, h2, Int.ediv_one]
    split <;> omega
  show wpAny _ _ (pure ((n : Int) - 1, (-1 : Int), Builtin.Slice.slicePlaces ((n : Int) - 1) (-1) (-1))) _ _ s
  rw [e2]
  exact wpAny_pure h
theorem av_getItem_rev {t sl : Addr} {items : Array Value} {k : Tok} {Q : Value → Shared → Prop} (ht : IsTup s.heap t items) (hs : s.heap.IsSliceOf sl .none .none (.int (-1) k))
    (h : Q (.ref s.heap.objs.size) { s with heap := s.heap.push { cls := .type "tuple", data := .seq items.toList.reverse.toArray } })
    (hsz : items.size ≤ sizeLine) : wpAny (model prog w) A (getItem (.ref t) (.ref sl)) Q E s := by
  have room : sizeOk (.seq items.toList.reverse.toArray) := by
    unfold sizeOk
    simpa using hsz
  have made : wpAny (model prog w) A.in1 (Builtin.«tuple.__getitem__» ⟨[.ref t, .ref sl], []⟩) (fun r s' => ∃ u, r = .done (.ret u) ∧ Q u s') E s := by
    refine wpAny_bind (m := Builtin.Tuple.tupleItemsOf (.ref t)) (tupleItemsOf_ ht (wpAny_bind (wpAny_typeOf (T := "slice") (by obtain ⟨o, a, b, _⟩ := hs; exact ⟨o, a, b⟩) ?_)))
    rw [if_pos (by decide)]
    have c : (((items.size : Int) - 1) == 0 && (-1 : Int) == 1 && items.size == items.size) = false := by simp
    refine wpAny_bind (av_sliceRev hs ?_)
    change wpAny _ _ (if (((items.size : Int) - 1) == 0 && (-1 : Int) == 1 && items.size == items.size) = true then _ else _) _ _ s
    rw [c, if_neg Bool.false_ne_true, av_pick_rev]
    exact wpAny_bind (m := Builtin.Tuple.tupleExact _) (wpAny_newObj_type (wpAny_pure ⟨_, rfl, h⟩) room)
  unfold getItem
  exact wpAny_holding (wpAny_bind (wpAny_sequenceKey ht.typeIs (by decide) (wpAny_bind (wpAny_callSpecial?_slot ht.typeIs PyProof.Rows.slot_tuple_getitem (wpAny_call_entry PyProof.Rows.slot_tuple_getitem ht.typeIs entry_tuple_getitem (wpAny_mono made (fun r s' ⟨u, a, b⟩ => ⟨u, a, wpAny_pure b⟩) fun _ _ y => y) (args_tuple_getitem _ _))))))
end
section
variable {X : Cx}
def tRevT (K : PySem.W.Frag) (te : TE) : TE := fun σ H Q => te σ H fun x H1 => ∃ a xs, x = .ref a ∧ SqT K H1 a xs ∧ ∀ p o, H1 p = none → o.dict = none → Q (.ref p) (upd H1 p (.frz o (.tup xs.reverse)))
/-- the parts of [::-1], read one behind the other -/
theorem av_parts {pins : List (Addr × Obj)} {s : Shared} {σ : St} {H : Hp} {k : Nat} {p1 p2 p3 : Pos} {R : Value → Shared → Prop} (I : Inv X pins σ H s)
    (h : ∀ (t : Tok) s', Inv X pins σ H s' → R (.ref s'.heap.objs.size) { s' with heap := s'.heap.push { cls := .type "slice", data := .fields #[.none, .none, .int (-1) t] } }) :
    wpAny (model X.prog X.w) X.A (eval (.Slice none none (some (.UnaryOp .USub (.Constant (.int 1) k p1) p2)) p3) X.env) R X.xe s := by
  have part : PO X (some (.UnaryOp .USub (.Constant (.int 1) k p1) p2)) (tPart (tUn (rU fun i => .int (-i)) (tC (.int 1)))) := po_some (pe_un un_neg pe_int)
  refine wpAny_Slice (thn (po_none.run pins s σ H (fun o G => o = none ∧ G = H) I ⟨rfl, rfl⟩) fun _ s2 ⟨_, _, I2, c2, rfl, rfl⟩ => thn (po_none.run pins s2 σ _ (fun o G => o = none ∧ G = H) I2 ⟨rfl, rfl⟩) fun _ s3 ⟨_, _, I3, c3, rfl, rfl⟩ =>
    thn (part.run pins s3 σ _ (fun o G => o = some (-1) ∧ G = H) I3 ⟨1, rfl, -1, rfl, rfl, rfl⟩) fun _ s4 ⟨_, _, I4, c4, rfl, rfl⟩ => ?_)
  cases c2
  cases c3
  cases c4
  exact h _ s4 I4
theorem pe_revT {e : Expr} {te : TE} {k : Nat} {p1 p2 p3 pos : Pos} (he : PE X e te) : PE X (.Subscript e (.Slice none none (some (.UnaryOp .USub (.Constant (.int 1) k p1) p2)) p3) pos) (tRevT X.K te) := by
  refine ⟨fun pins s σ H Q I h => Subscript_ (thn (he.run pins s σ H _ I h) fun v s1 ⟨x, H1, I1, r1, a, xs, ex, hx, q⟩ => av_parts I1 fun t s4 I4 => ?_)⟩
  subst ex
  cases r1
  have J : Inv X pins σ H1 { s4 with heap := s4.heap.push { cls := .type "slice", data := .fields #[.none, .none, .int (-1) t] } } := I4.kept (t' := s4.toks) fun _ _ y => Heap.get?_push_of_some _ y
  obtain ⟨its, r, ht, hz⟩ := J.tuple hx
  refine tail_any (ops := [.ref a, .ref s4.heap.objs.size]) ht.typeIs (PyProof.Rows.slot_tuple_getitem.lookup) (av_getItem_rev ht (Heap.IsSliceOf.new _ _ _ _) ?_ (by have := r.length; rw [List.size_toArray]; omega)) (by with_unfolding_all rfl)
  exact ⟨.ref _, _, J.laid (t' := s4.toks) (o := .frz { cls := .type "tuple", data := .seq its.reverse.toArray } (.tup xs.reverse)) (fun _ _ y => Heap.get?_push_of_some _ y) (Nat.le_refl _)
    ⟨Heap.get?_push_size _ rfl, by rw [List.length_reverse]; exact hz, _, r.reverse, IsTup.new _ _⟩, rfl, q _ _ (J.hok.fresh (Nat.le_refl _)) rfl⟩
end
end L2
/-! t * k, few -/
namespace L2
open PySem PySem.Spec PyProof.Rows HT
theorem av_mul_self (l : Addr) (items : Array Value) (n : Nat) (dd : Option Addr) (sl : Array (Option Value)) (x : Int) (u : Tok) (c0 : (decide (x < -(2 ^ 63)) || decide (x ≥ 2 ^ 63)) = false) (c1 : (items.isEmpty || x == 1) = true) :
    Meets (Builtin.«tuple.__mul__» ⟨[.ref l, .int x u], []⟩) (fun _ R s => s.heap.get? l = some { cls := .type "tuple", dict := dd, data := .seq items n, slots := sl } ∧
      R (.ok (.ret (Value.ref l))) s) :=
  .of_wp fun prog w A R s h => by
    obtain ⟨hp, g, d, tk, os⟩ := s
    obtain ⟨hl, h⟩ := h
    have f1 := AutoSeq1.idx_int
    wp_walk using wpAny_loadPart' hl
    refine wpAny_ite_false (decide_eq_false (by rw [c0]; exact Bool.false_ne_true)) ?_
    wp_walk using wpAny_loadPart' hl
    exact ⟨_, rfl, h⟩
theorem av_mul_none (l : Addr) (items : Array Value) (n : Nat) (dd : Option Addr) (sl : Array (Option Value)) (x : Int) (u : Tok) (c0 : (decide (x < -(2 ^ 63)) || decide (x ≥ 2 ^ 63)) = false) (c1 : (items.isEmpty || x == 1) = false) (c2 : (decide (x ≤ 0) || items.isEmpty) = true) :
    Meets (Builtin.«tuple.__mul__» ⟨[.ref l, .int x u], []⟩) (fun _ R s => s.heap.get? l = some { cls := .type "tuple", dict := dd, data := .seq items n, slots := sl } ∧
      R (.ok (.ret (Value.ref s.heap.objs.size))) { s with heap := s.heap.push { cls := Value.type "tuple", data := Data.seq #[] }, toks := s.toks }) :=
  .of_wp fun prog w A R s h => by
    obtain ⟨hp, g, d, tk, os⟩ := s
    obtain ⟨hl, h⟩ := h
    have f1 := AutoSeq1.idx_int
    wp_walk using wpAny_loadPart' hl
    repeat (first
      | (refine wpAny_ite_false (decide_eq_false (by rw [c0]; exact Bool.false_ne_true)) ?_; wp_walk using wpAny_loadPart' hl)
      | (refine wpAny_ite_false (decide_eq_false (by rw [c1]; exact Bool.false_ne_true)) ?_; wp_walk using wpAny_loadPart' hl)
      | (refine wpAny_ite_true (decide_eq_true c2) ?_; wp_walk using wpAny_loadPart' hl))
    exact ⟨_, rfl, h⟩
section
variable {X : Cx}
def rRepS (K : PySem.W.Frag) : R2 := fun x y H Q => ∃ l k xs, x = .ref l ∧ y = .int k ∧ SqT K H l xs ∧ (xs = [] ∨ k = 1) ∧ -1000 ≤ k ∧ k ≤ 1000 ∧ Q (.ref l) H
def rRepN (K : PySem.W.Frag) : R2 := fun x y H Q => ∃ l k xs, x = .ref l ∧ y = .int k ∧ SqT K H l xs ∧ xs ≠ [] ∧ -1000 ≤ k ∧ k ≤ 0 ∧ ∀ p o, H p = none → o.dict = none → Q (.ref p) (upd H p (.frz o (.tup [])))
theorem av_fits {k : Int} (a : -1000 ≤ k) (b : k ≤ 1000) : (decide (k < -(2 ^ 63)) || decide (k ≥ 2 ^ 63)) = false := by
  simp only [Bool.or_eq_false_iff, decide_eq_false_iff_not]; omega
theorem av_full {xs : List V} {its : List Value} (r : Vals xs its) (h : xs ≠ []) : its.toArray.isEmpty = false := by
  match xs, its, r with
  | _ :: _, _ :: _, _ => rfl
  | [], _, _ => exact absurd rfl h
theorem av_room {xs : List V} {its : List Value} {k : Int} (hl : its.length = xs.length) (hx : xs.length ≤ 1000) (h0 : 2 ≤ k) (h1 : k ≤ 1000) : ((its.toArray.size : Nat) : Int) * k ≤ 1000000 ∧ (List.replicate k.toNat its).flatten.length ≤ sizeLine := by
  have m : k.toNat * its.length ≤ 1000 * 1000 := Nat.mul_le_mul (by omega) (by omega)
  constructor
  · rw [List.size_toArray, ← Int.toNat_of_nonneg (show 0 ≤ k by omega), ← Int.natCast_mul, Nat.mul_comm]
    omega
  · rw [PyProof.Rows.lm_len_rep_flat]
    exact Nat.le_trans m (by rw [sizeLine_eq]; decide)
theorem av_rep {pins : List (Addr × Obj)} {s : Shared} {σ : St} {H : Hp} {Q : VK} {l : Addr} {k : Int} {t : Tok} {xs : List V} (I : Inv X pins σ H s) (hT : SqT X.K H l xs)
    (h : ∀ its n dd sl, Vals xs its → s.heap.get? l = some { cls := .type "tuple", dict := dd, data := .seq its.toArray n, slots := sl } → wpAny (model X.prog X.w) X.A (call (.builtin "tuple.__mul__") [.ref l, .int k t]) (EP X pins σ Q) X.xe s) : wpAny (model X.prog X.w) X.A (binaryOp .Mult (.ref l) (.int k t)) (EP X pins σ Q) X.xe s := by
  obtain ⟨its, r, ⟨⟨cls, dd, data, sl⟩, ho, hc, n, hd⟩, hs⟩ := I.tuple hT
  simp only at hc hd
  subst hc hd
  exact wpAny_binaryOp_repeat_ref (T := "tuple") (U := "int") (by decide) ⟨_, ho, rfl⟩ (fun s' => typeIs_int s' k t) noFill_tuple_mul F.fills_int_mul F.slot_int_rmul repeat_tuple F.slot_int_index.lookup
    (call_meets F.slot_int_rmul (typeIs_int s k t) F.entry_int_rmul (F.args_int_rmul_2 _ _) (int_rmul_tuple k t l its.toArray n dd sl)
      ⟨ho, rfl, ⟨_, ho, rfl⟩, h its n dd sl r ho⟩)
theorem op_repS : OpR X (binaryOp .Mult) (rRepS X.K) := by
  intro pins s σ H x y v u Q I rx ry h
  obtain ⟨l, k, xs, rfl, rfl, hT, h1, h2, h3, q⟩ := h
  cases rx
  obtain ⟨t, rfl⟩ := ry
  refine av_rep I hT fun its n dd sl r ho => ?_
  have c0 := av_fits (k := k) (by omega) (by omega)
  have c1 : (its.toArray.isEmpty || k == 1) = true := by
    rcases h1 with h1 | h1
    · subst h1; cases r; rfl
    · subst h1; simp
  exact call_meets F.slot_tuple_mul ⟨_, ho, rfl⟩ F.entry_tuple_mul (F.args_tuple_mul_2 _ _) (av_mul_self l its.toArray n dd sl k t c0 c1) ⟨ho, .ref l, H, I, rfl, q⟩
theorem op_repN : OpR X (binaryOp .Mult) (rRepN X.K) := by
  intro pins s σ H x y v u Q I rx ry h
  obtain ⟨l, k, xs, rfl, rfl, hT, h1, h2, h3, q⟩ := h
  cases rx
  obtain ⟨t, rfl⟩ := ry
  refine av_rep I hT fun its n dd sl r ho => ?_
  have c0 := av_fits (k := k) (by omega) (by omega)
  have hi := av_full r h1
  have c1 : (its.toArray.isEmpty || k == 1) = false := by simp only [hi, Bool.false_or, beq_eq_false_iff_ne, ne_eq]; omega
  have c2 : (decide (k ≤ 0) || its.toArray.isEmpty) = true := by simp [h3]
  refine call_meets F.slot_tuple_mul ⟨_, ho, rfl⟩ F.entry_tuple_mul (F.args_tuple_mul_2 _ _) (av_mul_none l its.toArray n dd sl k t c0 c1 c2) ⟨ho, ?_⟩
  refine ⟨.ref s.heap.objs.size, _, I.laid (t' := s.toks) (o := .frz { cls := .type "tuple", data := .seq #[] } (.tup [])) (fun b ob q => Heap.get?_push_of_some _ q) (Nat.le_refl _) ⟨Heap.get?_push_size _ rfl, ?_⟩, rfl, q _ _ (I.hok.fresh (Nat.le_refl _)) rfl⟩
  exact ⟨Nat.zero_le _, _, .nil, IsTup.new _ _⟩
end
end L2
/-! new tuples, known to the object -/
namespace L2
open PySem PySem.Spec PyProof.Rows HT
section
variable {X : Cx}
theorem SqTF {K : PySem.W.Frag} {H : Hp} {a : Addr} {o : Obj} {xs : List V} (h : H a = some (.frz o (.tup xs))) : SqT K H a xs := .inl (.inr ⟨o, h⟩)
def tTupF (t : TA) : TE := fun σ H Q => t σ H fun xs H1 => xs.length ≤ sizeLine ∧ ∀ p o, H1 p = none → o.dict = none → Q (.ref p) (upd H1 p (.frz o (.tup xs)))
theorem av_laid {pins : List (Addr × Obj)} {σ : St} {H : Hp} {s : Shared} {xs : List V} {us : List Value} {tk : Nat} (I : Inv X pins σ H s) (z : xs.length ≤ sizeLine) (r : Vals xs us) :
    Inv X pins σ (upd H s.heap.objs.size (.frz { cls := .type "tuple", data := .seq us.toArray } (.tup xs))) { s with heap := s.heap.push { cls := .type "tuple", data := .seq us.toArray }, toks := tk } :=
  I.laid (fun b u e => Heap.get?_push_of_some _ e) (Nat.le_refl _) ⟨Heap.get?_push_size _ rfl, z, us, r, ⟨_, Heap.get?_push_size _ rfl, rfl, _, rfl⟩⟩
theorem pe_tupF {es : List Expr} {t : TA} {pos : Pos} {x1} (h : PA X es t) : PE X (.Tuple es x1 pos) (tTupF t) := by
  refine ⟨fun pins s σ H Q I hq => wpAny_Tuple_spliced (thn (h.run pos pins s σ H _ I hq) fun us s1 ⟨xs, H1, I1, r, z, q⟩ => ⟨by rw [← r.length]; exact z, ?_⟩)⟩
  exact ⟨.ref s1.heap.objs.size, _, av_laid (tk := s1.toks) I1 z r, rfl, q _ _ (I1.hok.fresh (Nat.le_refl _)) rfl⟩
def rCatF (K : PySem.W.Frag) : R2 := fun x y H Q => ∃ a b xs ys, x = .ref a ∧ y = .ref b ∧ SqT K H a xs ∧ SqT K H b ys ∧ xs.length + ys.length ≤ sizeLine ∧
  (xs = [] → Q (.ref b) H) ∧ (xs ≠ [] → ys = [] → Q (.ref a) H) ∧ (xs ≠ [] → ys ≠ [] → ∀ p o, H p = none → o.dict = none → Q (.ref p) (upd H p (.frz o (.tup (xs ++ ys)))))
theorem op_catF : OpR X (binaryOp .Add) (rCatF X.K) := by
  intro pins s σ H x y v u Q I rx ry h
  obtain ⟨a, b, xs, ys, rfl, rfl, ha, hb, hz, q0, q1, q2⟩ := h
  cases rx
  cases ry
  obtain ⟨its, r1, p1, _⟩ := I.tuple ha
  obtain ⟨its2, r2, p2, _⟩ := I.tuple hb
  by_cases hx : xs = []
  · subst hx
    cases r1
    exact cat_tup0 p1 p2 ⟨.ref b, H, I, rfl, q0 rfl⟩
  · refine HT.cat_tup p1 p2 (fun z => hx (r1.nil_iff.mp z)) (fun z => ⟨.ref a, H, I, rfl, q1 hx (r2.nil_iff.mp z)⟩) (fun z => ?_) (by rw [← r1.length, ← r2.length]; exact hz)
    exact ⟨.ref s.heap.objs.size, _, av_laid (tk := s.toks) I (by rw [List.length_append]; exact hz) (r1.append r2), rfl, q2 hx (fun w => z (r2.nil_iff.mpr w)) _ _ (I.hok.fresh (Nat.le_refl _)) rfl⟩
def rSlF (K : PySem.W.Frag) : V → Option Int → Option Int → Hp → VK → Prop := fun x lo hi H Q => ∃ a xs, x = .ref a ∧ SqT K H a xs ∧
  (HT.sIx xs.length 0 lo = 0 ∧ HT.sIx xs.length xs.length hi = xs.length → Q (.ref a) H) ∧ (¬ (HT.sIx xs.length 0 lo = 0 ∧ HT.sIx xs.length xs.length hi = xs.length) → ∀ p o, H p = none → o.dict = none → Q (.ref p) (upd H p (.frz o (.tup (cutV xs lo hi)))))
theorem sl_tupF : SlR X (rSlF X.K) := fun pins s σ H x v vl vu lo hi sl Q I rx hs pl pu ⟨a, xs, ex, hx, whole, cut⟩ => by
  subst ex
  cases rx
  obtain ⟨its, r, ht, hz⟩ := I.tuple hx
  have n : its.toArray.size = xs.length := (List.size_toArray).trans r.length.symm
  refine ⟨"tuple", _, PyProof.Rows.slot_tuple_getitem.lookup, ht.typeIs, (Classical.em (HT.sIx xs.length 0 lo = 0 ∧ HT.sIx xs.length xs.length hi = xs.length)).elim (fun y => ?_) fun y => ?_⟩
  · exact getItem_tuple_whole ht hs pl pu (n.symm ▸ y) ⟨.ref a, H, I, rfl, whole y⟩
  · refine HT.getItem_tuple_cut ht hs pl pu (n.symm ▸ y) (n.symm ▸ ?_) (n.symm ▸ hz)
    exact ⟨.ref s.heap.objs.size, _, av_laid (tk := s.toks) I (Nat.le_trans (cutV_length xs lo hi) hz) ((r.drop (HT.sIx xs.length 0 lo)).take (HT.sIx xs.length xs.length hi - HT.sIx xs.length 0 lo)), rfl, cut y _ _ (I.hok.fresh (Nat.le_refl _)) rfl⟩
theorem call_tupF : CallR X (.type "tuple") (fun xs H Q => ∃ p ys, xs = [.ref p] ∧ ((SqL X.K H p ys ∧ ∀ l o, H l = none → o.dict = none → Q (.ref l) (upd H l (.frz o (.tup ys)))) ∨ (SqT X.K H p ys ∧ Q (.ref p) H))) := by
  intro pins s σ H xs us Q I r h
  obtain ⟨p, ys, rfl, h⟩ := h
  obtain ⟨u, rfl, rx⟩ := vals1 r
  cases rx
  rcases h with ⟨hq, q⟩ | ⟨hq, q⟩
  · obtain ⟨its, r', pl, hz⟩ := I.list hq
    have hlen := r'.length
    refine call_tuple_list pl.isList (fun h' kp => ?_) (by simp only [List.size_toArray] <;> omega)
    have I1 : Inv X pins σ H { s with heap := h' } := I.kept (t' := s.toks) kp
    exact ⟨.ref h'.objs.size, _, av_laid (tk := s.toks) I1 hz r', rfl, q _ _ (I1.hok.fresh (Nat.le_refl _)) rfl⟩
  · obtain ⟨its, r', pl, hz⟩ := I.tuple hq
    exact call_tuple_same pl ⟨.ref p, H, I, rfl, q⟩
/-- t * k -/
def rRepF (K : PySem.W.Frag) : R2 := fun x y H Q => ∃ l k xs, x = .ref l ∧ y = .int k ∧ SqT K H l xs ∧ xs ≠ [] ∧ 2 ≤ k ∧ k ≤ 1000 ∧ xs.length ≤ 1000 ∧ ∀ p o, H p = none → o.dict = none → Q (.ref p) (upd H p (.frz o (.tup (List.replicate k.toNat xs).flatten)))
theorem op_repF : OpR X (binaryOp .Mult) (rRepF X.K) := by
  intro pins s σ H x y v u Q I rx ry h
  obtain ⟨l, k, xs, rfl, rfl, hT, hne, h1, h2, hz, q⟩ := h
  cases rx
  obtain ⟨t, rfl⟩ := ry
  refine av_rep I hT fun its n dd sl r ho => ?_
  have hle : its.length = xs.length := r.length.symm
  have hi := av_full r hne
  obtain ⟨hm, fl⟩ := av_room hle hz h1 h2
  have c0 := av_fits (k := k) (by omega) (by omega)
  have c1 : (its.toArray.isEmpty || k == 1) = false := by simp only [hi, Bool.false_or, beq_eq_false_iff_ne, ne_eq]; omega
  have c2 : (decide (k ≤ 0) || its.toArray.isEmpty) = false := by simp only [hi, Bool.or_false, decide_eq_false_iff_not]; omega
  have c4 : Builtin.Tuple.tupleTooMany (((its.toArray.size : Nat) : Int) * k) = false := by
    unfold Builtin.Tuple.tupleTooMany
    rw [sizeLine_eq]
    exact decide_eq_false (by omega)
  refine call_meets F.slot_tuple_mul ⟨_, ho, rfl⟩ F.entry_tuple_mul (F.args_tuple_mul_2 _ _) (tuple_mulW l its.toArray n dd sl k t c0 c1 c2 (by omega) c4 (by rw [size_rep, List.size_toArray]; exact fl)) ⟨ho, ?_⟩
  rw [size_rep]
  have rr := r.rep k.toNat
  exact ⟨.ref s.heap.objs.size, _, av_laid (tk := s.toks) I (by rw [rr.length]; exact fl) rr, rfl, q _ _ (I.hok.fresh (Nat.le_refl _)) rfl⟩
/-- t.m(..), t a tuple that is known to the object -/
def tBT (r : V → List V → Hp → VK → Prop) (to : TE) (t : TA) : TE := fun σ H Q => to σ H fun x H1 => (∃ a o xs, x = .ref a ∧ H1 a = some (.frz o (.tup xs)) ∧ o.dict = none) ∧ t σ H1 fun vs H2 => r x vs H2 Q
theorem pe_bmT {name : Str} {id : String} {r : V → List V → Hp → VK → Prop} {o e : Expr} {es : List Expr} {to : TE} {t : TA} {apos cpos : Pos} (slot : Slot "tuple" name id) (hty : typeOf (.builtin id) = pure (.type "method_descriptor")) (hm : MtR X id r) (ho : PE X o to) (ha : PA X (e :: es) t)
    (hbase : attributeBase o name X.env (eval o X.env) = eval o X.env)
    (hfew : ((backTo cpos (starEach (e :: es) X.env)).all (fun x => !x.1) && (backToKw cpos (keywordEach [] X.env)).all (fun x => x.1.isSome) && decide ((e :: es).length + ([] : List Keyword).length + (if ([] : List Keyword).isEmpty then 0 else 1) < 30)) = true)
    (hline : (apos.endLine == cpos.line) = true) (hs : starEach (e :: es) X.env = (false, eval e X.env) :: starEach es X.env) (hplain : (backTo cpos (starEach es X.env)).any (·.1) = false) :
    PE X (.Call (.Attribute o name apos) (e :: es) [] cpos) (tBT r to t) := by
  refine ⟨fun pins s σ H Q I h => wpAny_Call_method_late hbase hfew hline rfl (thn (ho.run pins s σ H _ I h) fun v s1 ⟨x, H1, I1, r1, ⟨a, ob, xs, ex, hH, hdn⟩, q1⟩ => ?_)⟩
  subst ex
  cases r1
  obtain ⟨hg, _, its, _, ob', hg', hc, _⟩ := I1.hok a _ hH
  rw [hg] at hg'
  cases hg'
  refine ⟨"tuple", id, PySem.F.plainAttrs_tuple, slot, hty, ⟨ob, hg, hc⟩, fun b eb => by cases eb; exact ⟨ob, hg, hdn⟩, ?_⟩
  have hA := ha.run cpos pins s1 σ H1 _ I1 q1
  rw [hs] at hA ⊢
  refine Calls.callWith_builtin (by show (false || (backTo cpos (starEach es X.env)).any (·.1)) = false; rw [hplain] <;> rfl) (Calls.evalArgs_plain ?_)
  exact thn hA fun us s2 ⟨vs, H2, I2, r2, q2⟩ => hm pins s2 σ H2 (.ref a) vs (.ref a) us Q I2 rfl r2 q2
end
end L2
namespace L2
open PySem PySem.Spec PyProof.Rows HT
section
variable {X : Cx}
theorem av_count {x : V} : ∀ {xs : List V} {us : List Value}, Vals xs us → xs.all flatV = true → us.countP (eqU x) = xs.countP fun y => eqV y x
  | _, _, .nil, _ => rfl
  | y :: xs, u :: us, .cons r t, f => by
    rw [List.all_cons, Bool.and_eq_true] at f
    rw [List.countP_cons, List.countP_cons, eqU_of r f.1, av_count t f.2]
def rCntV (K : PySem.W.Frag) : V → List V → Hp → VK → Prop := fun x xs H Q => ∃ p ys y, x = .ref p ∧ xs = [y] ∧ SqL K H p ys ∧ flatV y = true ∧ ys.all flatV = true ∧ Q (.int ((ys.countP fun z => eqV z y : Nat))) H
def rCntT (K : PySem.W.Frag) : V → List V → Hp → VK → Prop := fun x xs H Q => ∃ p ys y, x = .ref p ∧ xs = [y] ∧ SqT K H p ys ∧ flatV y = true ∧ ys.all flatV = true ∧ Q (.int ((ys.countP fun z => eqV z y : Nat))) H
theorem av_lcount : MtR X "list.count" (rCntV X.K) := by
  intro pins s σ H x xs v us Q I rx rxs h
  obtain ⟨p, ys, y, rfl, rfl, hs, fy, fs, q⟩ := h
  cases rx
  obtain ⟨u, rfl, ru⟩ := rxs.one
  obtain ⟨its, rv, ⟨⟨cls, dd, data, sl⟩, n, ho, hc, hdn, hd⟩, hlen⟩ := I.list hs
  simp only at hc hd
  subst hc hd
  refine call_meets PySem.F.slot_list_count ⟨_, ho, rfl⟩ PySem.F.entry_list_count (PySem.F.args_list_count_2 _ _) (SeqAt.list_countAt p its.toArray n dd sl u (eqU y)) ⟨ho, fun z hz => mem_eqAt ru fy rv fs z (by simpa using hz), ?_⟩
  refine ⟨.int _, H, I.tok _, ⟨s.toks, ?_⟩, q⟩
  show Value.int ((its.toArray.toList.countP (eqU y) : Nat) : Int) s.toks = _
  rw [show its.toArray.toList.countP (eqU y) = ys.countP fun z => eqV z y from av_count rv fs]
theorem av_tcount : MtR X "tuple.count" (rCntT X.K) := by
  intro pins s σ H x xs v us Q I rx rxs h
  obtain ⟨p, ys, y, rfl, rfl, hs, fy, fs, q⟩ := h
  cases rx
  obtain ⟨u, rfl, ru⟩ := rxs.one
  obtain ⟨its, rv, ⟨⟨cls, dd, data, sl⟩, ho, hc, n, hd⟩, hlen⟩ := I.tuple hs
  simp only at hc hd
  subst hc hd
  refine call_meets PySem.F.slot_tuple_count ⟨_, ho, rfl⟩ PySem.F.entry_tuple_count (PySem.F.args_tuple_count_2 _ _) (SeqAt.tuple_countAt p its.toArray n dd sl u (eqU y)) ⟨ho, fun z hz => mem_eqAt ru fy rv fs z (by simpa using hz), ?_⟩
  refine ⟨.int _, H, I.tok _, ⟨s.toks, ?_⟩, q⟩
  show Value.int ((its.toArray.toList.countP (eqU y) : Nat) : Int) s.toks = _
  rw [show its.toArray.toList.countP (eqU y) = ys.countP fun z => eqV z y from av_count rv fs]
def rIdxT (K : PySem.W.Frag) : V → List V → Hp → VK → Prop := fun x xs H Q => ∃ (p : Addr) (ns : List Int) (k : Int), x = .ref p ∧ xs = [.int k] ∧ SqT K H p (ns.map V.int) ∧ k ∈ ns ∧ Q (.int ((ns.idxOf k : Nat))) H
theorem av_tindex : MtR X "tuple.index" (rIdxT X.K) := by
  intro pins s σ H x xs v us Q I rx rxs h
  obtain ⟨p, ns, k, rfl, rfl, hs, hk, q⟩ := h
  cases rx
  obtain ⟨u, rfl, ru⟩ := rxs.one
  obtain ⟨t, rfl⟩ := ru
  obtain ⟨its, rv, hl, _⟩ := I.tuple hs
  exact PySem.SeqAt.tuple_index_ints hl rv.ints hk ⟨.int _, H, I.tok _, ⟨_, rfl⟩, q⟩
end
end L2
/-! text * int -/
namespace L2
open PySem PySem.Spec PyProof.Rows
def repS (x : Str) (n : Nat) : Str := ⟨(List.replicate n x.cps).foldl (· ++ ·) #[]⟩
theorem op_mulS {X : Cx} : OpR X (binaryOp .Mult) (fun x y H Q => ∃ (z : Str) (n : Int), x = .str z ∧ y = .int n ∧ 0 < z.length ∧ z.length ≤ 1000 ∧ 2 ≤ n ∧ n ≤ 1000 ∧ (repS z n.toNat).length ≤ sizeLine ∧ Q (.str (repS z n.toNat)) H) := by
  intro pins s σ H x y v u Q I rx ry h
  obtain ⟨z, n, rfl, rfl, z0, z1, n0, n1, hl, q⟩ := h
  obtain ⟨t, rfl⟩ := rx
  obtain ⟨t', rfl⟩ := ry
  have c1 : (n == 1 || z.length == 0) = false := by
    rw [beq_eq_false_iff_ne.mpr (show n ≠ 1 by omega), beq_eq_false_iff_ne.mpr (show z.length ≠ 0 by omega)]
    rfl
  have hm : (z.length : Int) * n ≤ 1000000 := by
    have a1 : (z.length : Int) * n ≤ 1000 * n := Int.mul_le_mul_of_nonneg_right (by omega) (by omega)
    omega
  refine PySem.P.mul_str (by rw [decide_eq_false (by omega), decide_eq_false (by omega)] <;> rfl) (fun _ _ => ?_) (fun _ _ => ?_) ?_
  · have := Int.le_ediv_of_mul_le (a := (z.length : Int)) (b := 2 ^ 63 - 1) (c := n) (by omega) (by omega)
    omega
  · have e : z.length * n.toNat ≤ 1000000 := by
      have : z.length * n.toNat ≤ 1000 * 1000 := Nat.mul_le_mul z1 (by omega)
      omega
    unfold Builtin.Str.tooLong
    rw [sizeLine_eq]
    exact decide_eq_false (by omega)
  · rw [if_neg (by omega), c1, if_neg Bool.false_ne_true]
    exact ⟨hl, .str (repS z n.toNat), H, I.tok _, ⟨_, rfl⟩, q⟩
end L2

/-! Av: a data-level layer. Mirrors are plain functions on slots; readings are canonical. -/
namespace Av
open PySem PySem.Spec L2
open PyProof.Rows hiding St
set_option autoImplicit false

abbrev PD := PyData

/-- the state: the script; how many draws were made; walkers by number (steps, kept) -/
structure G where
  ns : List Int
  n : Nat
  ws : List (List PD × Int)

inductive Res (α : Type) where
  | ok (a : α) (g : G)
  | exc (c : Nat) (g : G)
  | bad

abbrev Mo (α : Type) := G → Res α
def Res.bind {α β : Type} (x : Res α) (f : α → Mo β) : Res β := match x with
  | .ok a g => f a g
  | .exc c g => .exc c g
  | .bad => .bad
def ret {α : Type} (a : α) : Mo α := fun g => .ok a g
def bnd {α β : Type} (x : Mo α) (f : α → Mo β) : Mo β := fun g => (x g).bind f
def fail {α : Type} : Mo α := fun _ => .bad
def lift {α : Type} (o : Option α) : Mo α := fun g => match o with
  | some a => .ok a g
  | none => .bad

/-- what a slot holds: data; a list of the frame's own that may be changed; an object of the state; nothing that is known -/
inductive Sl where
  | val (d : PD)
  | own (ds : List PD)
  | obj (i : Nat)
  | pin (a : Addr)
  | dead

inductive Fl where
  | next (Γ : List Sl)
  | ret (d : PD)

/-- how it lies: S what never changes, M the state's objects, oa their places -/
structure Lay where
  S : Hp
  M : Hp
  oa : List Addr

structure Pm where
  K : PySem.W.Frag
  C : Addr
  cls : Nat → Addr

/-! ### data in a heap: every list and tuple tracked as it is -/
mutual
inductive Dq (S : Hp) : V → PD → Prop
  | non : Dq S .non .none
  | bl (b : Bool) : Dq S (.bl b) (.bool b)
  | int (i : Int) : Dq S (.int i) (.int i)
  | str (x : Str) : Dq S (.str x) (.str x)
  | lst {a : Addr} {xs : List V} {ds : List PD} : S a = some (.lst xs) → DqA S xs ds → Dq S (.ref a) (.list ds)
  | tup {a : Addr} {o : Obj} {xs : List V} {ds : List PD} : S a = some (.frz o (.tup xs)) → DqA S xs ds → o.dict = none → Dq S (.ref a) (.tuple ds)
inductive DqA (S : Hp) : List V → List PD → Prop
  | nil : DqA S [] []
  | cons {v : V} {vs : List V} {d : PD} {ds : List PD} : Dq S v d → DqA S vs ds → DqA S (v :: vs) (d :: ds)
end
mutual
theorem Dq.mono {H H' : Hp} (e : Same H H') : ∀ {v : V} {d : PD}, Dq H v d → Dq H' v d
  | _, _, .non => .non
  | _, _, .bl b => .bl b
  | _, _, .int i => .int i
  | _, _, .str x => .str x
  | _, _, .lst h r => .lst (e _ _ h) (DqA.mono e r)
  | _, _, .tup h r n => .tup (e _ _ h) (DqA.mono e r) n
theorem DqA.mono {H H' : Hp} (e : Same H H') : ∀ {vs : List V} {ds : List PD}, DqA H vs ds → DqA H' vs ds
  | _, _, .nil => .nil
  | _, _, .cons h r => .cons (Dq.mono e h) (DqA.mono e r)
end
mutual
theorem Dq.dp {K : PySem.W.Frag} {H : Hp} : ∀ {v : V} {d : PD}, Dq H v d → Dp K H v d
  | _, _, .non => .non
  | _, _, .bl b => .bl b
  | _, _, .int i => .int i
  | _, _, .str x => .str x
  | _, _, .lst h r => .lst (SqL.of h) (DqA.dp r)
  | _, _, .tup h r _ => .tup (SqTF h) (DqA.dp r)
theorem DqA.dp {K : PySem.W.Frag} {H : Hp} : ∀ {vs : List V} {ds : List PD}, DqA H vs ds → DpAll K H vs ds
  | _, _, .nil => .nil
  | _, _, .cons h r => .cons (Dq.dp h) (DqA.dp r)
end
section
variable {H : Hp}
theorem DqA.len : ∀ {vs : List V} {ds : List PD}, DqA H vs ds → vs.length = ds.length
  | _, _, .nil => rfl
  | _, _, .cons _ r => by simp [DqA.len r]
theorem DqA.get : ∀ {vs : List V} {ds : List PD} {i : Nat} {d : PD}, DqA H vs ds → ds[i]? = some d → ∃ v, vs[i]? = some v ∧ Dq H v d
  | _, _, _, _, .nil, e => by simp at e
  | _, _, 0, _, .cons h _, e => by simp at e; subst e; exact ⟨_, rfl, h⟩
  | _, _, i + 1, d, .cons _ r, e => by
    obtain ⟨v, h1, h2⟩ := DqA.get (i := i) (d := d) r (by simpa using e)
    exact ⟨v, by simpa using h1, h2⟩
theorem DqA.get' : ∀ {vs : List V} {ds : List PD} {i : Nat} {v : V}, DqA H vs ds → vs[i]? = some v → ∃ d, ds[i]? = some d ∧ Dq H v d
  | _, _, _, _, .nil, e => by simp at e
  | _, _, 0, _, .cons h _, e => by simp at e; subst e; exact ⟨_, rfl, h⟩
  | _, _, i + 1, v, .cons _ r, e => by
    obtain ⟨d, h1, h2⟩ := DqA.get' (i := i) (v := v) r (by simpa using e)
    exact ⟨d, by simpa using h1, h2⟩
theorem DqA.app : ∀ {vs ws : List V} {ds es : List PD}, DqA H vs ds → DqA H ws es → DqA H (vs ++ ws) (ds ++ es)
  | _, _, _, _, .nil, s => s
  | _, _, _, _, .cons h r, s => .cons h (DqA.app r s)
theorem DqA.drop : ∀ {vs : List V} {ds : List PD} (n : Nat), DqA H vs ds → DqA H (vs.drop n) (ds.drop n)
  | _, _, 0, r => r
  | _, _, _ + 1, .nil => .nil
  | _, _, n + 1, .cons _ r => DqA.drop n r
theorem DqA.take : ∀ {vs : List V} {ds : List PD} (n : Nat), DqA H vs ds → DqA H (vs.take n) (ds.take n)
  | _, _, 0, _ => .nil
  | _, _, _ + 1, .nil => .nil
  | _, _, n + 1, .cons h r => .cons h (DqA.take n r)
theorem DqA.rev : ∀ {vs : List V} {ds : List PD}, DqA H vs ds → DqA H vs.reverse ds.reverse
  | _, _, .nil => .nil
  | _, _, .cons h r => by
    rw [List.reverse_cons, List.reverse_cons]
    exact DqA.app (DqA.rev r) (.cons h .nil)
theorem DqA.set : ∀ {vs : List V} {ds : List PD} (i : Nat) {v : V} {d : PD}, DqA H vs ds → Dq H v d → DqA H (vs.set i v) (ds.set i d)
  | _, _, _, _, _, .nil, _ => .nil
  | _, _, 0, _, _, .cons _ r, q => .cons q r
  | _, _, i + 1, _, _, .cons h r, q => .cons h (DqA.set i r q)
theorem DqA.rep {vs : List V} {ds : List PD} (h : DqA H vs ds) : ∀ k : Nat, DqA H (List.replicate k vs).flatten (List.replicate k ds).flatten
  | 0 => .nil
  | k + 1 => by
    rw [List.replicate_succ, List.replicate_succ, List.flatten_cons, List.flatten_cons]
    exact h.app (DqA.rep h k)
end

/-! ### data without lists -/
mutual
def plain : PD → Bool
  | .list _ => false
  | .dict _ => false
  | .tuple ds => plainA ds
  | .none => true
  | .bool _ => true
  | .int _ => true
  | .str _ => true
def plainA : List PD → Bool
  | [] => true
  | d :: ds => plain d && plainA ds
end
/-- the heap without what stands at a -/
def less (S : Hp) (a : Addr) : Hp := fun b => if b = a then none else S b
theorem less_ne {S : Hp} {a b : Addr} (h : b ≠ a) : less S a b = S b := if_neg h
theorem less_at {S : Hp} {a : Addr} : less S a a = none := if_pos rfl
mutual
theorem Dq.less {S : Hp} {a : Addr} {xs : List V} (ha : S a = some (.lst xs)) : ∀ {v : V} {d : PD}, Dq S v d → plain d = true → Dq (less S a) v d
  | _, _, .non, _ => .non
  | _, _, .bl b, _ => .bl b
  | _, _, .int i, _ => .int i
  | _, _, .str x, _ => .str x
  | _, _, .tup (a := t) h r n, hp => .tup (by rw [less_ne (ne_of h ha (by intro z; cases z))]; exact h) (DqA.less ha r (by simpa [plain] using hp)) n
  | _, _, .lst h r, hp => by simp [plain] at hp
theorem DqA.less {S : Hp} {a : Addr} {xs : List V} (ha : S a = some (.lst xs)) : ∀ {vs : List V} {ds : List PD}, DqA S vs ds → plainA ds = true → DqA (less S a) vs ds
  | _, _, .nil, _ => .nil
  | _, _, .cons (d := d) (ds := ds) h r, hp => by
    have hp' : plain d = true ∧ plainA ds = true := by simpa [plainA] using hp
    exact .cons (Dq.less ha h hp'.1) (DqA.less ha r hp'.2)
end
/-! ### the relation -/
def walkF (v : V) (k : Int) : List (Str × V) := [("steps", v), ("kept", .int k)]
def WAt (p : Pm) (L : Lay) (a : Addr) (w : List PD × Int) : Prop := ∃ dx v, L.M a = some (.ins p.C dx (walkF v w.2)) ∧ L.M dx = some (.own a) ∧ Dq L.S v (.tuple w.1) ∧ plainA w.1 = true
/-- the script: locked as it is, or one of the written part -/
def ScrAt (K : PySem.W.Frag) (M : Hp) (a : Addr) (ns : List Int) : Prop := (∃ o, M a = some (.frz o (.lst (ns.map V.int)))) ∨
  ∃ (o : Obj) (its : Array Value) (n : Nat), K.lookup a = some o ∧ o.cls = .type "list" ∧ o.dict = none ∧ o.data = .seq its n ∧ its.size ≤ sizeLine ∧ Vals (ns.map V.int) its.toList
structure GI (p : Pm) (L : Lay) (g : G) : Prop where
  len : L.oa.length = g.ws.length + 2
  nd : (L.oa.drop 2).Nodup
  town : ∃ a, L.oa[0]? = some a ∧ L.M a = some (.lst (List.replicate g.n (V.int 0)))
  scr : ∃ a, L.oa[1]? = some a ∧ ScrAt p.K L.M a g.ns
  wk : ∀ (i : Nat) w a, g.ws[i]? = some w → L.oa[i + 2]? = some a → WAt p L a w

structure Rel (p : Pm) (L : Lay) (g : G) (H : Hp) : Prop where
  s : Same L.S H
  m : Same L.M H
  sm : ∀ a, L.S a ≠ none → L.M a = none
  gi : GI p L g

structure Stp (L : Lay) (H : Hp) (L' : Lay) (H' : Hp) : Prop where
  ss : Same L.S L'.S
  oa : L.oa <+: L'.oa
  keep : ∀ b o, L.M b = none → H b = some o → H' b = some o
  sfr : ∀ b, L'.S b ≠ none → L.S b ≠ none ∨ H b = none
  mfr : ∀ b, L'.M b ≠ none → L.M b ≠ none ∨ H b = none
  mm : ∀ b, L.M b ≠ none → H' b ≠ none

theorem opt_none {α : Type} {o : Option α} (h : ¬ o ≠ none) : o = none := by
  cases o with
  | none => rfl
  | some a => exact absurd (fun z => nomatch z) h
theorem opt_some {α : Type} {o : Option α} (h : o ≠ none) : ∃ a, o = some a := by
  cases o with
  | none => exact absurd rfl h
  | some a => exact ⟨a, rfl⟩

theorem Rel.mh {p : Pm} {L : Lay} {g : G} {H : Hp} (r : Rel p L g H) {b : Addr} (h : L.M b ≠ none) : H b ≠ none := by
  obtain ⟨o, e⟩ := opt_some h
  rw [r.m b o e]
  exact fun z => nomatch z
theorem Stp.refl {p : Pm} {L : Lay} {g : G} {H : Hp} (r : Rel p L g H) : Stp L H L H :=
  ⟨Same.refl _, List.prefix_refl _, fun _ _ _ e => e, fun _ h => .inl h, fun _ h => .inl h, fun _ h => r.mh h⟩
theorem Stp.free {L L1 : Lay} {H H1 : Hp} (a : Stp L H L1 H1) {b : Addr} (h : H1 b = none) : H b = none := by
  cases e : H b with
  | none => rfl
  | some o =>
    by_cases q : L.M b = none
    · rw [a.keep b o q e] at h
      cases h
    · exact absurd h (a.mm b q)
theorem Stp.trans {L L1 L2 : Lay} {H H1 H2 : Hp} (a : Stp L H L1 H1) (b : Stp L1 H1 L2 H2) : Stp L H L2 H2 where
  ss := a.ss.trans b.ss
  oa := a.oa.trans b.oa
  keep := fun c o h e => b.keep c o (by
    refine opt_none fun q => ?_
    rcases a.mfr c q with z | z
    · exact z h
    · rw [e] at z
      cases z) (a.keep c o h e)
  sfr := fun c h => by
    rcases b.sfr c h with z | z
    · exact a.sfr c z
    · exact .inr (a.free z)
  mfr := fun c h => by
    rcases b.mfr c h with z | z
    · exact a.mfr c z
    · exact .inr (a.free z)
  mm := fun c h => by
    by_cases q : L1.M c = none
    · obtain ⟨o, e⟩ := opt_some (a.mm c h)
      rw [b.keep c o q e]
      exact fun z => nomatch z
    · exact b.mm c q

def SlR (p : Pm) (L : Lay) (H0 H : Hp) : Sl → Option V → Prop
  | .val d, o => ∃ v, o = some v ∧ Dq L.S v d
  | .own ds, o => ∃ a xs, o = some (.ref a) ∧ H a = some (.lst xs) ∧ DqA L.S xs ds ∧ L.S a = none ∧ L.M a = none ∧ H0 a = none
  | .obj i, o => ∃ a, o = some (.ref a) ∧ L.oa[i]? = some a
  | .pin a, o => o = some (.ref a)
  | .dead, _ => True
structure FR (p : Pm) (L0 : Lay) (H0 : Hp) (L : Lay) (g : G) (Γ : List Sl) (σ : St) (H : Hp) : Prop where
  rel : Rel p L g H
  st : Stp L0 H0 L H
  len : Γ.length = σ.length
  sl : ∀ (i : Nat) s o, Γ[i]? = some s → σ[i]? = some o → SlR p L H0 H s o
  dis : ∀ (i j : Nat) ds es a, i ≠ j → Γ[i]? = some (.own ds) → Γ[j]? = some (.own es) → σ[i]? = some (some (V.ref a)) → σ[j]? ≠ some (some (V.ref a))

theorem prefix_get {α : Type} {l l' : List α} (h : l <+: l') {i : Nat} {x : α} (e : l[i]? = some x) : l'[i]? = some x := by
  obtain ⟨t, rfl⟩ := h
  obtain ⟨hi, _⟩ := List.getElem?_eq_some_iff.mp e
  rw [List.getElem?_append_left hi]
  exact e
section
variable {p : Pm} {W : WX} {L0 L L1 : Lay} {H0 H H1 : Hp} {g g1 : G} {Γ : List Sl} {σ : St}
theorem SlR.step {s : Sl} {o : Option V} (h : SlR p L H0 H s o) (st : Stp L H L1 H1) : SlR p L1 H0 H1 s o := by
  cases s with
  | val d =>
    obtain ⟨v, e, h⟩ := h
    exact ⟨v, e, h.mono st.ss⟩
  | own ds =>
    obtain ⟨a, xs, e, h1, h2, h3, h4, h5⟩ := h
    refine ⟨a, xs, e, st.keep a _ h4 h1, h2.mono st.ss, opt_none fun q => ?_, opt_none fun q => ?_, h5⟩
    · rcases st.sfr a q with z | z
      · exact z h3
      · rw [h1] at z; cases z
    · rcases st.mfr a q with z | z
      · exact z h4
      · rw [h1] at z; cases z
  | obj i =>
    obtain ⟨a, e, h⟩ := h
    exact ⟨a, e, prefix_get st.oa h⟩
  | pin a => exact h
  | dead => exact h
theorem FR.step (fr : FR p L0 H0 L g Γ σ H) (st : Stp L H L1 H1) (rel : Rel p L1 g1 H1) : FR p L0 H0 L1 g1 Γ σ H1 :=
  ⟨rel, fr.st.trans st, fr.len, fun i s o h1 h2 => (fr.sl i s o h1 h2).step st, fr.dis⟩
theorem FR.set (fr : FR p L0 H0 L g Γ σ H) (i : Nat) {v : V} {d : PD} (h : Dq L.S v d) : FR p L0 H0 L g (Γ.set i (.val d)) (σ.set i (some v)) H := by
  refine ⟨fr.rel, fr.st, by rw [List.length_set, List.length_set]; exact fr.len, fun j s o h1 h2 => ?_, fun j k ds es a hjk h1 h2 h3 => ?_⟩
  · by_cases hj : i = j
    · subst hj
      have hi : i < Γ.length := by
        have := (List.getElem?_eq_some_iff.mp h1).1
        rw [List.length_set] at this
        exact this
      have hi' : i < σ.length := by rw [← fr.len]; exact hi
      rw [List.getElem?_set_self hi] at h1
      rw [List.getElem?_set_self hi'] at h2
      cases h1
      cases h2
      exact ⟨v, rfl, h⟩
    · rw [List.getElem?_set_ne hj] at h1 h2
      exact fr.sl j s o h1 h2
  · have nj : i ≠ j := fun e => by
      subst e
      rw [List.getElem?_set] at h1
      simp at h1
    have nk : i ≠ k := fun e => by
      subst e
      rw [List.getElem?_set] at h2
      simp at h2
    rw [List.getElem?_set_ne nj] at h1 h3
    rw [List.getElem?_set_ne nk] at h2 ⊢
    exact fr.dis j k ds es a hjk h1 h2 h3
theorem FR.kill (fr : FR p L0 H0 L g Γ σ H) (i : Nat) {o : Option V} : FR p L0 H0 L g (Γ.set i .dead) (σ.set i o) H := by
  refine ⟨fr.rel, fr.st, by rw [List.length_set, List.length_set]; exact fr.len, fun j s o h1 h2 => ?_, fun j k ds es a hjk h1 h2 h3 => ?_⟩
  · by_cases hj : i = j
    · subst hj
      have hi : i < Γ.length := by
        have := (List.getElem?_eq_some_iff.mp h1).1
        rw [List.length_set] at this
        exact this
      rw [List.getElem?_set_self hi] at h1
      cases h1
      trivial
    · rw [List.getElem?_set_ne hj] at h1 h2
      exact fr.sl j s o h1 h2
  · have nj : i ≠ j := fun e => by
      subst e
      rw [List.getElem?_set] at h1
      simp at h1
    have nk : i ≠ k := fun e => by
      subst e
      rw [List.getElem?_set] at h2
      simp at h2
    rw [List.getElem?_set_ne nj] at h1 h3
    rw [List.getElem?_set_ne nk] at h2 ⊢
    exact fr.dis j k ds es a hjk h1 h2 h3
end

/-! ### what is wanted behind a piece -/
def Post (p : Pm) (W : WX) (σ : St) (L : Lay) (H : Hp) {α : Type} (ok : α → G → Lay → Hp → Prop) : Res α → Prop
  | .ok a g' => ∀ L' H', Stp L H L' H' → Rel p L' g' H' → ok a g' L' H'
  | .exc c g' => ∀ L' H', Stp L H L' H' → Rel p L' g' H' → W (.ref (p.cls c)) none σ H'
  | .bad => False
section
variable {p : Pm} {W : WX} {L L1 : Lay} {H H1 : Hp} {σ : St} {α β : Type}
theorem Post.step {ok : α → G → Lay → Hp → Prop} {r : Res α} (st : Stp L H L1 H1) (h : Post p W σ L H ok r) : Post p W σ L1 H1 ok r := by
  cases r with
  | ok a g' => exact fun L' H' s r => h L' H' (st.trans s) r
  | exc c g' => exact fun L' H' s r => h L' H' (st.trans s) r
  | bad => exact h
theorem Post.mono {ok ok' : α → G → Lay → Hp → Prop} {r : Res α} (h : Post p W σ L H ok r) (k : ∀ a g' L' H', Stp L H L' H' → Rel p L' g' H' → ok a g' L' H' → ok' a g' L' H') : Post p W σ L H ok' r := by
  cases r with
  | ok a g' => exact fun L' H' s r => k a g' L' H' s r (h L' H' s r)
  | exc c g' => exact h
  | bad => exact h
theorem Post.bind {ok : β → G → Lay → Hp → Prop} {x : Res α} {k : α → Mo β} (h : Post p W σ L H ok (x.bind k)) : Post p W σ L H (fun a g1 L1 H1 => Post p W σ L1 H1 ok (k a g1)) x := by
  cases x with
  | ok a g1 => exact fun L1 H1 st _ => Post.step st h
  | exc c g' => exact h
  | bad => exact h
theorem Post.pure {ok : α → G → Lay → Hp → Prop} {a : α} {g : G} (h : Post p W σ L H ok (ret a g)) (rel : Rel p L g H) : ok a g L H := h L H (Stp.refl rel) rel
theorem Post.lift {ok : α → G → Lay → Hp → Prop} {o : Option α} {g : G} (h : Post p W σ L H ok (lift o g)) (rel : Rel p L g H) : ∃ a, o = some a ∧ Post p W σ L H ok (.ok a g) := by
  cases o with
  | none => exact h.elim
  | some a => exact ⟨a, rfl, h⟩
end
def tE (p : Pm) (W : WX) (f : List Sl → Mo PD) : TE := fun σ H Q => ∃ L0 H0 L g Γ, FR p L0 H0 L g Γ σ H ∧ Post p W σ L H (fun d _ L' H' => ∀ v, Dq L'.S v d → Q v H') (f Γ g)
def tT (p : Pm) (W : WX) (f : List Sl → Mo Bool) : TT := fun σ H Q => ∃ L0 H0 L g Γ, FR p L0 H0 L g Γ σ H ∧ Post p W σ L H (fun b _ _ H' => Q b H') (f Γ g)
def ArgR (p : Pm) (L : Lay) : V → Sl → Prop
  | v, .val d => Dq L.S v d
  | v, .obj i => ∃ a, v = .ref a ∧ L.oa[i]? = some a
  | v, .pin a => v = .ref a
  | _, _ => False
def tA (p : Pm) (W : WX) (f : List Sl → Mo (List PD)) : TA := fun σ H Q => ∃ L0 H0 L g Γ, FR p L0 H0 L g Γ σ H ∧ Post p W σ L H (fun ds _ L' H' => ∀ vs, DqA L'.S vs ds → Q vs H') (f Γ g)
def tAs (p : Pm) (W : WX) (f : List Sl → Mo (List Sl)) : TA := fun σ H Q => ∃ L0 H0 L g Γ, FR p L0 H0 L g Γ σ H ∧ Post p W σ L H (fun ds _ L' H' => ∀ vs, Paired (ArgR p L') vs ds → Q vs H') (f Γ g)
def PostS (p : Pm) (W : WX) (L0 : Lay) (H0 : Hp) (L : Lay) (D : Ends) : Res Fl → Prop
  | .ok (.next Γ') g' => ∀ L' σ' H', FR p L0 H0 L' g' Γ' σ' H' → Same L.S L'.S → D.nx σ' H'
  | .ok (.ret d) g' => ∀ v L' H', Stp L0 H0 L' H' → Rel p L' g' H' → Dq L'.S v d → D.rt v H'
  | .exc c g' => ∀ L' σ' H', Stp L0 H0 L' H' → Rel p L' g' H' → W (.ref (p.cls c)) none σ' H'
  | .bad => False
def tS (p : Pm) (W : WX) (f : List Sl → Mo Fl) : TS := fun D σ H => ∃ L0 H0 L g Γ, FR p L0 H0 L g Γ σ H ∧ PostS p W L0 H0 L D (f Γ g)

/-! ### the judgements -/
structure Ct where
  X : Cx
  p : Pm
  W : WX
structure Ct.Ok (c : Ct) (k : Nat) : Prop where
  K : c.p.K = c.X.K
  rm : Room k c.X.A
  cm : c.X.calm = true
  nd : c.X.N.Nodup
  tk : L2N.Takes c.X c.W
  po : PassesOwn (model c.X.prog c.X.w) c.X.A c.X.env c.X.xe
def DE (c : Ct) (e : Expr) (f : List Sl → Mo PD) : Prop := PE c.X e (tE c.p c.W f)
def DT (c : Ct) (e : Expr) (f : List Sl → Mo Bool) : Prop := PT c.X e (tT c.p c.W f)
def DW (c : Ct) (e : Expr) (f : List Sl → Mo Bool) : Prop := PW c.X e (tT c.p c.W f)
def DA (c : Ct) (es : List Expr) (f : List Sl → Mo (List PD)) : Prop := PA c.X es (tA c.p c.W f)
def DAs (c : Ct) (es : List Expr) (f : List Sl → Mo (List Sl)) : Prop := PA c.X es (tAs c.p c.W f)
def DS (c : Ct) (st : Stmt) (f : List Sl → Mo Fl) : Prop := PS c.X st (tS c.p c.W f)
def DSs (c : Ct) (st : List Stmt) (f : List Sl → Mo Fl) : Prop := PSs c.X st (tS c.p c.W f)
theorem PE.imp {X : Cx} {e : Expr} {t t' : TE} (h : PE X e t) (k : ∀ σ H Q, t' σ H Q → t σ H Q) : PE X e t' := ⟨fun pins s σ H Q I q => h.run pins s σ H Q I (k σ H Q q)⟩
theorem PT.imp {X : Cx} {e : Expr} {t t' : TT} (h : PT X e t) (k : ∀ σ H Q, t' σ H Q → t σ H Q) : PT X e t' := ⟨fun pins s σ H Q I q => h.run pins s σ H Q I (k σ H Q q)⟩
theorem PW.imp {X : Cx} {e : Expr} {t t' : TT} (h : PW X e t) (k : ∀ σ H Q, t' σ H Q → t σ H Q) : PW X e t' := ⟨fun w pins s σ H Q I q => h.run w pins s σ H Q I (k σ H Q q)⟩
theorem PA.imp {X : Cx} {e : List Expr} {t t' : TA} (h : PA X e t) (k : ∀ σ H Q, t' σ H Q → t σ H Q) : PA X e t' := ⟨fun w pins s σ H Q I q => h.run w pins s σ H Q I (k σ H Q q)⟩
theorem PS.imp {X : Cx} {e : Stmt} {t t' : TS} (h : PS X e t) (k : ∀ D σ H, t' D σ H → t D σ H) : PS X e t' := ⟨fun pins s σ H D I q => h.run pins s σ H D I (k D σ H q)⟩
theorem PSs.imp {X : Cx} {e : List Stmt} {t t' : TS} (h : PSs X e t) (k : ∀ D σ H, t' D σ H → t D σ H) : PSs X e t' := ⟨fun pins s σ H D I q => h.run pins s σ H D I (k D σ H q)⟩
section
variable {p : Pm} {W : WX} {L0 L L1 : Lay} {H0 H H1 : Hp} {g : G} {Γ : List Sl} {σ : St} {α : Type} {D : Ends}
theorem PostS.up {r : Res Fl} (ss : Same L.S L1.S) (h : PostS p W L0 H0 L D r) : PostS p W L0 H0 L1 D r := by
  cases r with
  | ok a g' =>
    cases a with
    | next Γ' => exact fun L' σ' H' fr s => h L' σ' H' fr (ss.trans s)
    | ret d => exact h
  | exc c g' => exact h
  | bad => exact h
theorem PostS.bind {x : Res α} {k : α → Mo Fl} (fr : FR p L0 H0 L g Γ σ H) (h : PostS p W L0 H0 L D (x.bind k)) : Post p W σ L H (fun a g1 L1 _ => PostS p W L0 H0 L1 D (k a g1)) x := by
  cases x with
  | ok a g1 => exact fun L1 H1 st _ => PostS.up st.ss h
  | exc c g1 => exact fun L1 H1 st rel => h L1 σ H1 (fr.st.trans st) rel
  | bad => exact h
end
end Av

namespace Av
open PySem PySem.Spec L2
open PyProof.Rows hiding St
set_option autoImplicit false
/-! ### growing -/
section
variable {p : Pm} {L : Lay} {g : G} {H : Hp}
theorem WAt.up {a : Addr} {w : List PD × Int} {S' : Hp} (h : WAt p L a w) (e : Same L.S S') : WAt p { L with S := S' } a w := by
  obtain ⟨dx, v, h1, h2, h3, h4⟩ := h
  exact ⟨dx, v, h1, h2, h3.mono e, h4⟩
theorem GI.up {S' : Hp} (h : GI p L g) (e : Same L.S S') : GI p { L with S := S' } g :=
  ⟨h.len, h.nd, h.town, h.scr, fun i w a h1 h2 => (h.wk i w a h1 h2).up e⟩
theorem same_new {S : Hp} {q : Addr} {o : HO} (h : S q = none) : Same S (upd S q o) := fun a u e => by
  rw [upd_ne (ne_of_none e h)]
  exact e
theorem Rel.sq (rel : Rel p L g H) {q : Addr} (hq : H q = none) : L.S q = none := by
  cases e : L.S q with
  | none => rfl
  | some o => rw [rel.s q o e] at hq; cases hq
theorem Rel.mq (rel : Rel p L g H) {q : Addr} (hq : H q = none) : L.M q = none := by
  cases e : L.M q with
  | none => rfl
  | some o => rw [rel.m q o e] at hq; cases hq
/-- a new object that never changes -/
theorem Rel.new (rel : Rel p L g H) {q : Addr} {o : HO} (hq : H q = none) : Rel p { L with S := upd L.S q o } g (upd H q o) where
  s := fun a u e => by
    have e' : upd L.S q o a = some u := e
    by_cases h : a = q
    · subst h; rw [upd_same] at e' ⊢; exact e'
    · rw [upd_ne h] at e' ⊢; exact rel.s a u e'
  m := fun a u e => by
    have e' : L.M a = some u := e
    have h : a ≠ q := fun z => by subst z; rw [rel.mq hq] at e'; cases e'
    rw [upd_ne h]; exact rel.m a u e'
  sm := fun a h => by
    have h' : upd L.S q o a ≠ none := h
    by_cases z : a = q
    · subst z; exact rel.mq hq
    · rw [upd_ne z] at h'; exact rel.sm a h'
  gi := rel.gi.up (same_new (rel.sq hq))
theorem Stp.new (rel : Rel p L g H) {q : Addr} {o : HO} (hq : H q = none) : Stp L H { L with S := upd L.S q o } (upd H q o) where
  ss := same_new (rel.sq hq)
  oa := List.prefix_refl _
  keep := fun b u _ e => by rw [upd_ne (ne_of_none e hq)]; exact e
  sfr := fun b h => by
    have h' : upd L.S q o b ≠ none := h
    by_cases z : b = q
    · subst z; exact .inr hq
    · rw [upd_ne z] at h'; exact .inl h'
  mfr := fun b h => .inl h
  mm := fun b h => by
    have z : b ≠ q := fun z => by subst z; exact h (rel.mq hq)
    rw [upd_ne z]; exact rel.mh h
end

/-! ### expressions -/
def eC (d : PD) : List Sl → Mo PD := fun _ => ret d
def getV : Option Sl → Option PD
  | some (.val d) => some d
  | _ => none
theorem getV_some {o : Option Sl} {d : PD} (h : getV o = some d) : o = some (.val d) := by
  cases o with
  | none => cases h
  | some s =>
    cases s with
    | val x => cases h; rfl
    | own _ => cases h
    | obj _ => cases h
    | pin _ => cases h
    | dead => cases h
def getO : Option Sl → Option Nat
  | some (.obj i) => some i
  | _ => none
theorem getO_some {o : Option Sl} {d : Nat} (h : getO o = some d) : o = some (.obj d) := by
  cases o with
  | none => cases h
  | some s =>
    cases s with
    | val x => cases h
    | own _ => cases h
    | obj _ => cases h; rfl
    | pin _ => cases h
    | dead => cases h
def eVar (i : Nat) : List Sl → Mo PD := fun Γ => lift (getV Γ[i]?)
section
variable {c : Ct}
theorem de_const {e : Expr} {v : V} {d : PD} (h : PE c.X e (tC v)) (hd : ∀ S, Dq S v d) : DE c e (eC d) :=
  PE.imp h fun σ H Q q => by
    obtain ⟨L0, H0, L, g, Γ, fr, po⟩ := q
    exact po.pure fr.rel v (hd _)
theorem de_int {i : Int} {j : Nat} {pos : Pos} : DE c (.Constant (.int i) j pos) (eC (.int i)) := de_const pe_int fun _ => .int i
theorem de_bl {b : Bool} {j : Nat} {pos : Pos} : DE c (.Constant (.bool b) j pos) (eC (.bool b)) := de_const pe_bl fun _ => .bl b
theorem de_non {j : Nat} {pos : Pos} : DE c (.Constant .none j pos) (eC .none) := de_const pe_non fun _ => .non
theorem de_str {x : Str} {j : Nat} {pos : Pos} : DE c (.Constant (.str x) j pos) (eC (.str x)) := de_const pe_str fun _ => .str x
theorem de_gint {x : Str} {i : Int} {t : Tok} {pos : Pos} (hm : c.X.mg x = some (.int i t)) (hg : Gl c.X x := by rfl) (hd : (x == ("__debug__" : Str)) = false := by decide) : DE c (.Name x pos) (eC (.int i)) :=
  de_const (pe_glob hg hm (v := .int i) ⟨t, rfl⟩ hd) fun _ => .int i
theorem de_var (i : Nat) {x : Str} {pos : Pos} (hN : c.X.N[i]? = some x := by rfl) (hv : Vis c.X.env.scope x := by first | exact Or.inl rfl | exact Or.inr (Or.inl rfl) | exact Or.inr (Or.inr rfl)) (hd : (x == ("__debug__" : Str)) = false := by decide)
    (hcd : (x == ("__classdict__" : Str)) = false := by decide) : DE c (.Name x pos) (eVar i) :=
  PE.imp (pe_var hN hv hd hcd) fun σ H Q q => by
    obtain ⟨L0, H0, L, g, Γ, fr, po⟩ := q
    obtain ⟨d, hi, po⟩ := Post.lift po fr.rel
    have hi := getV_some hi
    have hlt : i < σ.length := by rw [← fr.len]; exact (List.getElem?_eq_some_iff.mp hi).1
    obtain ⟨v, e, h⟩ := fr.sl i _ _ hi (List.getElem?_eq_getElem hlt)
    exact ⟨v, by rw [List.getElem?_eq_getElem hlt, e], po L H (Stp.refl fr.rel) fr.rel v h⟩

/-! ### operators -/
def OpS (c : Ct) (r : R2) (h : PD → PD → Option PD) : Prop := ∀ (L : Lay) (g : G) (H : Hp) (x y : V) (d e z : PD) (Q : VK), Rel c.p L g H → Dq L.S x d → Dq L.S y e → h d e = some z →
  (∀ v L' H', Stp L H L' H' → Rel c.p L' g H' → Dq L'.S v z → Q v H') → r x y H Q
def eBin (h : PD → PD → Option PD) (fa fb : List Sl → Mo PD) : List Sl → Mo PD := fun Γ => bnd (fa Γ) fun d => bnd (fb Γ) fun e => lift (h d e)
theorem bin_of {r : R2} {h : PD → PD → Option PD} {fa fb : List Sl → Mo PD} (hs : OpS c r h) {σ : St} {H : Hp} {Q : VK} (q : tE c.p c.W (eBin h fa fb) σ H Q) : tOp r (tE c.p c.W fa) (tE c.p c.W fb) σ H Q := by
  obtain ⟨L0, H0, L, g, Γ, fr, po⟩ := q
  have po := Post.bind po
  refine ⟨L0, H0, L, g, Γ, fr, po.mono fun d g1 L1 H1 st1 rel1 po1 v hv => ?_⟩
  have fr1 := fr.step st1 rel1
  have po1 := Post.bind po1
  refine ⟨L0, H0, L1, g1, Γ, fr1, po1.mono fun e g2 L2 H2 st2 rel2 po2 u hu => ?_⟩
  obtain ⟨z, hz, po2⟩ := po2.lift rel2
  exact hs L2 g2 H2 v u d e z Q rel2 (hv.mono st2.ss) hu hz fun v' L' H' st' rel' hd => po2 L' H' st' rel' v' hd
theorem de_bin {op : Operator} {r : R2} {h : PD → PD → Option PD} {fa fb : List Sl → Mo PD} {a b : Expr} {pos : Pos} (ho : OpR c.X (binaryOp op) r) (hs : OpS c r h) (ha : DE c a fa) (hb : DE c b fb) : DE c (.BinOp a op b pos) (eBin h fa fb) :=
  PE.imp (pe_op ho ha hb) fun _ _ _ q => bin_of hs q
theorem de_cmp {op : CmpOp} {r : R2} {h : PD → PD → Option PD} {fa fb : List Sl → Mo PD} {a b : Expr} {pos : Pos} (ho : OpR c.X (compareOp op) r) (hs : OpS c r h) (ha : DE c a fa) (hb : DE c b fb) (hm : behindInMarks op b = false) : DE c (.Compare a [op] [b] pos) (eBin h fa fb) :=
  PE.imp (pe_cmpR ho ha hb hm) fun _ _ _ q => bin_of hs q
def asB : PD → Option Bool
  | .bool b => some b
  | _ => none
def eTest (f : List Sl → Mo PD) : List Sl → Mo Bool := fun Γ => bnd (f Γ) fun d => lift (asB d)
theorem asB_some {d : PD} {b : Bool} (h : asB d = some b) : d = .bool b := by
  cases d with
  | bool x => cases h; rfl
  | none => cases h
  | int _ => cases h
  | str _ => cases h
  | list _ => cases h
  | tuple _ => cases h
  | dict _ => cases h
theorem test_of {f : List Sl → Mo PD} {σ : St} {H : Hp} {Q : Bool → Hp → Prop} (q : tT c.p c.W (eTest f) σ H Q) : tE c.p c.W f σ H fun x H' => ∃ k, x = .bl k ∧ Q k H' := by
  obtain ⟨L0, H0, L, g, Γ, fr, po⟩ := q
  have po := Post.bind po
  refine ⟨L0, H0, L, g, Γ, fr, po.mono fun d g1 L1 H1 st1 rel1 po1 v hv => ?_⟩
  obtain ⟨b, hb, po1⟩ := po1.lift rel1
  cases asB_some hb
  cases hv
  exact ⟨b, rfl, po1 L1 H1 (Stp.refl rel1) rel1⟩
theorem dt_cmp {op : CmpOp} {r : R2} {h : PD → PD → Option PD} {fa fb : List Sl → Mo PD} {a b : Expr} {pos : Pos} (ho : OpR c.X (compareOp op) r) (hs : OpS c r h) (ha : DE c a fa) (hb : DE c b fb) (hm : behindInMarks op b = false) : DT c (.Compare a [op] [b] pos) (eTest (eBin h fa fb)) :=
  PT.imp (pt_cmpR ho ha hb hm) fun σ H Q q => bin_of hs (test_of q)
theorem dt_val {e : Expr} {f : List Sl → Mo PD} (h : DE c e f) (he : ∀ whole, isTrue e c.X.env whole = (do let v ← whole; standAt e.pos; holding [v] (truthy v)) := by intro _; rfl) : DT c e (eTest f) :=
  PT.imp (pt_val h he) fun σ H Q q => test_of q
/-! chains -/
def eChain (h h' : PD → PD → Option PD) (fa fb fc : List Sl → Mo PD) : List Sl → Mo PD := fun Γ => bnd (fa Γ) fun x => bnd (fb Γ) fun y => bnd (lift ((h x y).bind asB)) fun k =>
  if k = true then bnd (fc Γ) fun z => lift (h' y z) else ret (.bool false)
theorem chain_of {r r' : R2} {h h' : PD → PD → Option PD} {fa fb fc : List Sl → Mo PD} (hs : OpS c r h) (hs' : OpS c r' h') {σ : St} {H : Hp} {Q : VK} (q : tE c.p c.W (eChain h h' fa fb fc) σ H Q) :
    tChain r r' (tE c.p c.W fa) (tE c.p c.W fb) (tE c.p c.W fc) σ H Q := by
  obtain ⟨L0, H0, L, g, Γ, fr, po⟩ := q
  have po := Post.bind po
  refine ⟨L0, H0, L, g, Γ, fr, po.mono fun d g1 L1 H1 st1 rel1 po1 v hv => ?_⟩
  have fr1 := fr.step st1 rel1
  have po1 := Post.bind po1
  refine ⟨L0, H0, L1, g1, Γ, fr1, po1.mono fun e g2 L2 H2 st2 rel2 po2 u hu => ?_⟩
  have po2 := Post.bind po2
  obtain ⟨k, hk, po2⟩ := po2.lift rel2
  obtain ⟨z, hz, hb⟩ := Option.bind_eq_some_iff.mp hk
  cases asB_some hb
  refine hs L2 g2 H2 v u d e _ _ rel2 (hv.mono st2.ss) hu hz fun v' L3 H3 st3 rel3 hd => ?_
  cases hd
  refine ⟨k, rfl, ?_⟩
  have po3 := po2 L3 H3 st3 rel3
  cases k with
  | true =>
    rw [if_pos rfl] at po3 ⊢
    have fr3 := (fr1.step st2 rel2).step st3 rel3
    have po3 := Post.bind po3
    refine ⟨L0, H0, L3, g2, Γ, fr3, po3.mono fun w g4 L4 H4 st4 rel4 po4 wv hw => ?_⟩
    obtain ⟨z2, hz2, po4⟩ := po4.lift rel4
    exact hs' L4 g4 H4 u wv e w z2 Q rel4 ((hu.mono st3.ss).mono st4.ss) hw hz2 fun v' L' H' st' rel' hd => po4 L' H' st' rel' v' hd
  | false =>
    rw [if_neg Bool.false_ne_true] at po3 ⊢
    exact po3.pure rel3 _ (.bl false)
theorem de_chain {op op' : CmpOp} {r r' : R2} {h h' : PD → PD → Option PD} {fa fb fc : List Sl → Mo PD} {a b d : Expr} {pos : Pos} (ho : OpR c.X (compareOp op) r) (hs : OpS c r h) (ho' : OpR c.X (compareOp op') r') (hs' : OpS c r' h')
    (ha : DE c a fa) (hb : DE c b fb) (hc : DE c d fc) (hm : lastMarks [op, op'] [b, d] = false := by rfl) : DE c (.Compare a [op, op'] [b, d] pos) (eChain h h' fa fb fc) :=
  PE.imp (pe_chain ho ho' ha hb hc hm) fun _ _ _ q => chain_of hs hs' q
theorem dt_chain {op op' : CmpOp} {r r' : R2} {h h' : PD → PD → Option PD} {fa fb fc : List Sl → Mo PD} {a b d : Expr} {pos : Pos} (ho : OpR c.X (compareOp op) r) (hs : OpS c r h) (ho' : OpR c.X (compareOp op') r') (hs' : OpS c r' h')
    (ha : DE c a fa) (hb : DE c b fb) (hc : DE c d fc) (hm : lastMarks [op, op'] [b, d] = false := by rfl) : DT c (.Compare a [op, op'] [b, d] pos) (eTest (eChain h h' fa fb fc)) :=
  PT.imp (pt_chain ho ho' ha hb hc hm) fun _ _ _ q => chain_of hs hs' (test_of q)
/-! and, or, not as tests -/
def bAnd (f1 f2 : List Sl → Mo Bool) : List Sl → Mo Bool := fun Γ => bnd (f1 Γ) fun b => if b = true then f2 Γ else ret false
def bOr (f1 f2 : List Sl → Mo Bool) : List Sl → Mo Bool := fun Γ => bnd (f1 Γ) fun b => if b = true then ret true else f2 Γ
def bNot (f : List Sl → Mo Bool) : List Sl → Mo Bool := fun Γ => bnd (f Γ) fun b => ret (!b)
theorem dw_and1 {a : Expr} {f : List Sl → Mo Bool} {pos : Pos} (ha : DT c a f) : DW c (.BoolOp .And [a] pos) f := pw_and1 ha
theorem dw_or1 {a : Expr} {f : List Sl → Mo Bool} {pos : Pos} (ha : DT c a f) : DW c (.BoolOp .Or [a] pos) f := pw_or1 ha
theorem dw_and {a b : Expr} {rest : List Expr} {f1 f2 : List Sl → Mo Bool} {pos : Pos} (ha : DT c a f1) (hb : DW c (.BoolOp .And (b :: rest) pos) f2) : DW c (.BoolOp .And (a :: b :: rest) pos) (bAnd f1 f2) :=
  PW.imp (pw_and ha hb) fun σ H Q q => by
    obtain ⟨L0, H0, L, g, Γ, fr, po⟩ := q
    have po := Post.bind po
    refine ⟨L0, H0, L, g, Γ, fr, po.mono fun b g1 L1 H1 st1 rel1 po1 => ?_⟩
    cases b with
    | true => exact ⟨L0, H0, L1, g1, Γ, fr.step st1 rel1, po1⟩
    | false => exact po1.pure rel1
theorem dw_or {a b : Expr} {rest : List Expr} {f1 f2 : List Sl → Mo Bool} {pos : Pos} (ha : DT c a f1) (hb : DW c (.BoolOp .Or (b :: rest) pos) f2) : DW c (.BoolOp .Or (a :: b :: rest) pos) (bOr f1 f2) :=
  PW.imp (pw_or ha hb) fun σ H Q q => by
    obtain ⟨L0, H0, L, g, Γ, fr, po⟩ := q
    have po := Post.bind po
    refine ⟨L0, H0, L, g, Γ, fr, po.mono fun b g1 L1 H1 st1 rel1 po1 => ?_⟩
    cases b with
    | true => exact po1.pure rel1
    | false => exact ⟨L0, H0, L1, g1, Γ, fr.step st1 rel1, po1⟩
theorem dt_w {e : Expr} {f : List Sl → Mo Bool} (h : DW c e f) : DT c e f := PW.pt h
theorem dt_not {a : Expr} {f : List Sl → Mo Bool} {pos : Pos} (ha : DT c a f) : DT c (.UnaryOp .Not a pos) (bNot f) :=
  PT.imp (pt_not ha) fun σ H Q q => by
    obtain ⟨L0, H0, L, g, Γ, fr, po⟩ := q
    have po := Post.bind po
    exact ⟨L0, H0, L, g, Γ, fr, po.mono fun b g1 L1 H1 st1 rel1 po1 => po1.pure rel1⟩
/-! .. as values -/
def eAnd (f1 f2 : List Sl → Mo PD) : List Sl → Mo PD := fun Γ => bnd (eTest f1 Γ) fun b => if b = true then f2 Γ else ret (.bool false)
def eOr (f1 f2 : List Sl → Mo PD) : List Sl → Mo PD := fun Γ => bnd (eTest f1 Γ) fun b => if b = true then ret (.bool true) else f2 Γ
def eNot (f : List Sl → Mo PD) : List Sl → Mo PD := fun Γ => bnd (eTest f Γ) fun b => ret (.bool (!b))
theorem de_one {op : BoolOp} {a : Expr} {f : List Sl → Mo PD} {pos : Pos} (h : DE c a f) : DE c (.BoolOp op [a] pos) f := pe_one h
theorem test_then {f1 : List Sl → Mo PD} {k : Bool → Mo PD} {L0 L : Lay} {H0 H : Hp} {g : G} {Γ : List Sl} {σ : St} {Q : VK} (fr : FR c.p L0 H0 L g Γ σ H)
    (po : Post c.p c.W σ L H (fun d _ L' H' => ∀ v, Dq L'.S v d → Q v H') (bnd (eTest f1 Γ) k g)) {R : Bool → Hp → Prop}
    (hk : ∀ b g1 L1 H1, FR c.p L0 H0 L1 g1 Γ σ H1 → Post c.p c.W σ L1 H1 (fun d _ L' H' => ∀ v, Dq L'.S v d → Q v H') (k b g1) → R b H1) : tE c.p c.W f1 σ H fun x H1 => ∃ b, x = .bl b ∧ R b H1 := by
  have po := Post.bind po
  refine test_of ⟨L0, H0, L, g, Γ, fr, po.mono fun b g1 L1 H1 st1 rel1 po1 => ?_⟩
  exact hk b g1 L1 H1 (fr.step st1 rel1) po1
theorem de_and {a b : Expr} {rest : List Expr} {f1 f2 : List Sl → Mo PD} {pos : Pos} (ha : DE c a f1) (hb : DE c (.BoolOp .And (b :: rest) pos) f2) : DE c (.BoolOp .And (a :: b :: rest) pos) (eAnd f1 f2) :=
  PE.imp (pe_and ha hb) fun σ H Q q => by
    obtain ⟨L0, H0, L, g, Γ, fr, po⟩ := q
    refine test_then fr po fun b g1 L1 H1 fr1 po1 => ?_
    cases b with
    | true => exact ⟨L0, H0, L1, g1, Γ, fr1, po1⟩
    | false => exact po1.pure fr1.rel _ (.bl false)
theorem de_or {a b : Expr} {rest : List Expr} {f1 f2 : List Sl → Mo PD} {pos : Pos} (ha : DE c a f1) (hb : DE c (.BoolOp .Or (b :: rest) pos) f2) : DE c (.BoolOp .Or (a :: b :: rest) pos) (eOr f1 f2) :=
  PE.imp (pe_or ha hb) fun σ H Q q => by
    obtain ⟨L0, H0, L, g, Γ, fr, po⟩ := q
    refine test_then fr po fun b g1 L1 H1 fr1 po1 => ?_
    cases b with
    | true => exact po1.pure fr1.rel _ (.bl true)
    | false => exact ⟨L0, H0, L1, g1, Γ, fr1, po1⟩
theorem de_not {a : Expr} {f : List Sl → Mo PD} {pos : Pos} (ha : DE c a f) : DE c (.UnaryOp .Not a pos) (eNot f) :=
  PE.imp (pe_not ha) fun σ H Q q => by
    obtain ⟨L0, H0, L, g, Γ, fr, po⟩ := q
    exact test_then fr po fun b g1 L1 H1 fr1 po1 => po1.pure fr1.rel _ (.bl _)
def eIf (t : List Sl → Mo Bool) (f1 f2 : List Sl → Mo PD) : List Sl → Mo PD := fun Γ => bnd (t Γ) fun b => if b = true then f1 Γ else f2 Γ
theorem de_if {t a b : Expr} {ft : List Sl → Mo Bool} {f1 f2 : List Sl → Mo PD} {pos : Pos} (ht : DT c t ft) (ha : DE c a f1) (hb : DE c b f2) : DE c (.IfExp t a b pos) (eIf ft f1 f2) :=
  PE.imp (pe_ifExp ht ha hb) fun σ H Q q => by
    obtain ⟨L0, H0, L, g, Γ, fr, po⟩ := q
    have po := Post.bind po
    refine ⟨L0, H0, L, g, Γ, fr, po.mono fun b g1 L1 H1 st1 rel1 po1 => ?_⟩
    cases b with
    | true => exact ⟨L0, H0, L1, g1, Γ, fr.step st1 rel1, po1⟩
    | false => exact ⟨L0, H0, L1, g1, Γ, fr.step st1 rel1, po1⟩
/-! ### argument lists, displays -/
def aNil : List Sl → Mo (List PD) := fun _ => ret []
def aCons (f : List Sl → Mo PD) (fr : List Sl → Mo (List PD)) : List Sl → Mo (List PD) := fun Γ => bnd (f Γ) fun d => bnd (fr Γ) fun ds => ret (d :: ds)
theorem da_nil : DA c [] aNil := PA.imp pa_nil fun σ H Q q => by
  obtain ⟨L0, H0, L, g, Γ, fr, po⟩ := q
  exact po.pure fr.rel [] .nil
theorem da_cons {e : Expr} {es : List Expr} {f : List Sl → Mo PD} {r : List Sl → Mo (List PD)} (he : DE c e f) (hr : DA c es r) (hs : starEach (e :: es) c.X.env = (false, eval e c.X.env) :: starEach es c.X.env := by rfl) : DA c (e :: es) (aCons f r) :=
  PA.imp (pa_cons he hr hs) fun σ H Q q => by
    obtain ⟨L0, H0, L, g, Γ, fr, po⟩ := q
    have po := Post.bind po
    refine ⟨L0, H0, L, g, Γ, fr, po.mono fun d g1 L1 H1 st1 rel1 po1 v hv => ?_⟩
    have po1 := Post.bind po1
    refine ⟨L0, H0, L1, g1, Γ, fr.step st1 rel1, po1.mono fun ds g2 L2 H2 st2 rel2 po2 vs hvs => ?_⟩
    exact po2.pure rel2 (v :: vs) (.cons (hv.mono st2.ss) hvs)
def sNil : List Sl → Mo (List Sl) := fun _ => ret []
def sCons (f : List Sl → Mo PD) (fr : List Sl → Mo (List Sl)) : List Sl → Mo (List Sl) := fun Γ => bnd (f Γ) fun d => bnd (fr Γ) fun ds => ret (.val d :: ds)
def sObj (i : Nat) (fr : List Sl → Mo (List Sl)) : List Sl → Mo (List Sl) := fun Γ => bnd (lift (getO Γ[i]?)) fun k => bnd (fr Γ) fun ds => ret (.obj k :: ds)
theorem ArgR.up {p : Pm} {L L' : Lay} (ss : Same L.S L'.S) (oa : L.oa <+: L'.oa) {v : V} {s : Sl} (h : ArgR p L v s) : ArgR p L' v s := by
  cases s with
  | val d => exact Dq.mono ss h
  | obj i =>
    obtain ⟨a, e, h⟩ := h
    exact ⟨a, e, prefix_get oa h⟩
  | own _ => exact h.elim
  | pin _ => exact h
  | dead => exact h.elim
theorem das_nil : DAs c [] sNil := PA.imp pa_nil fun σ H Q q => by
  obtain ⟨L0, H0, L, g, Γ, fr, po⟩ := q
  exact po.pure fr.rel [] .nil
theorem das_cons {e : Expr} {es : List Expr} {f : List Sl → Mo PD} {r : List Sl → Mo (List Sl)} (he : DE c e f) (hr : DAs c es r) (hs : starEach (e :: es) c.X.env = (false, eval e c.X.env) :: starEach es c.X.env := by rfl) : DAs c (e :: es) (sCons f r) :=
  PA.imp (pa_cons he hr hs) fun σ H Q q => by
    obtain ⟨L0, H0, L, g, Γ, fr, po⟩ := q
    have po := Post.bind po
    refine ⟨L0, H0, L, g, Γ, fr, po.mono fun d g1 L1 H1 st1 rel1 po1 v hv => ?_⟩
    have po1 := Post.bind po1
    refine ⟨L0, H0, L1, g1, Γ, fr.step st1 rel1, po1.mono fun ds g2 L2 H2 st2 rel2 po2 vs hvs => ?_⟩
    exact po2.pure rel2 (v :: vs) (.cons (Dq.mono st2.ss hv) hvs)
theorem das_obj (i : Nat) {x : Str} {pos : Pos} {es : List Expr} {r : List Sl → Mo (List Sl)} (hr : DAs c es r) (hN : c.X.N[i]? = some x := by rfl) (hv : Vis c.X.env.scope x := by first | exact Or.inl rfl | exact Or.inr (Or.inl rfl) | exact Or.inr (Or.inr rfl))
    (hd : (x == ("__debug__" : Str)) = false := by decide) (hcd : (x == ("__classdict__" : Str)) = false := by decide) (hs : starEach (.Name x pos :: es) c.X.env = (false, eval (.Name x pos) c.X.env) :: starEach es c.X.env := by rfl) :
    DAs c (.Name x pos :: es) (sObj i r) :=
  PA.imp (pa_cons (pe_var hN hv hd hcd) hr hs) fun σ H Q q => by
    obtain ⟨L0, H0, L, g, Γ, fr, po⟩ := q
    obtain ⟨k, hi, po⟩ := Post.lift (Post.bind po) fr.rel
    have hi := getO_some hi
    have po := po L H (Stp.refl fr.rel) fr.rel
    have hlt : i < σ.length := by rw [← fr.len]; exact (List.getElem?_eq_some_iff.mp hi).1
    obtain ⟨a, e, h⟩ := fr.sl i _ _ hi (List.getElem?_eq_getElem hlt)
    refine ⟨.ref a, by rw [List.getElem?_eq_getElem hlt, e], ?_⟩
    have po := Post.bind po
    refine ⟨L0, H0, L, g, Γ, fr, po.mono fun ds g2 L2 H2 st2 rel2 po2 vs hvs => ?_⟩
    exact po2.pure rel2 (.ref a :: vs) (.cons ⟨a, rfl, prefix_get st2.oa h⟩ hvs)
def small (n : Nat) : Bool := Nat.ble n 100000
theorem small_le {n : Nat} (h : small n = true) : n ≤ sizeLine := by
  have := Nat.le_of_ble_eq_true h
  rw [sizeLine_eq]
  omega
theorem small_lt {n : Nat} (h : small n = true) : n < sizeLine := by
  have := Nat.le_of_ble_eq_true h
  rw [sizeLine_eq]
  omega
def eTup (f : List Sl → Mo (List PD)) : List Sl → Mo PD := fun Γ => bnd (f Γ) fun ds => lift (if small ds.length = true then some (.tuple ds) else none)
def eLst (f : List Sl → Mo (List PD)) : List Sl → Mo PD := fun Γ => bnd (f Γ) fun ds => lift (if small ds.length = true then some (.list ds) else none)
theorem if_some {α : Type} {b : Bool} {x y : α} (h : (if b = true then some x else none) = some y) : b = true ∧ x = y := by
  cases b with
  | true => exact ⟨rfl, Option.some.inj h⟩
  | false => cases h
theorem de_tup {es : List Expr} {k : Nat} {pos : Pos} {f : List Sl → Mo (List PD)} (h : DA c es f) : DE c (.Tuple es k pos) (eTup f) :=
  PE.imp (pe_tupF h) fun σ H Q q => by
    obtain ⟨L0, H0, L, g, Γ, fr, po⟩ := q
    have po := Post.bind po
    refine ⟨L0, H0, L, g, Γ, fr, po.mono fun ds g1 L1 H1 st1 rel1 po1 vs hvs => ?_⟩
    obtain ⟨z, hz, po1⟩ := po1.lift rel1
    obtain ⟨hs, rfl⟩ := if_some hz
    refine ⟨by rw [hvs.len]; exact small_le hs, fun q o hq hN => ?_⟩
    exact po1 _ _ (Stp.new rel1 hq) (rel1.new hq) _ (.tup upd_same (hvs.mono (same_new (rel1.sq hq))) hN)
theorem de_lst {es : List Expr} {pos : Pos} {f : List Sl → Mo (List PD)} (h : DA c es f) : DE c (.List es pos) (eLst f) :=
  PE.imp (pe_lst h) fun σ H Q q => by
    obtain ⟨L0, H0, L, g, Γ, fr, po⟩ := q
    have po := Post.bind po
    refine ⟨L0, H0, L, g, Γ, fr, po.mono fun ds g1 L1 H1 st1 rel1 po1 vs hvs => ?_⟩
    obtain ⟨z, hz, po1⟩ := po1.lift rel1
    obtain ⟨hs, rfl⟩ := if_some hz
    refine ⟨by rw [hvs.len]; exact small_le hs, fun q hq => ?_⟩
    exact po1 _ _ (Stp.new rel1 hq) (rel1.new hq) _ (.lst upd_same (hvs.mono (same_new (rel1.sq hq))))
/-! ### calls of built-ins by data -/
def CallS (c : Ct) (r : List V → Hp → VK → Prop) (h : List PD → Option PD) : Prop := ∀ (L : Lay) (g : G) (H : Hp) (vs : List V) (ds : List PD) (z : PD) (Q : VK), Rel c.p L g H → DqA L.S vs ds → h ds = some z →
  (∀ v L' H', Stp L H L' H' → Rel c.p L' g H' → Dq L'.S v z → Q v H') → r vs H Q
def eCall (h : List PD → Option PD) (f : List Sl → Mo (List PD)) : List Sl → Mo PD := fun Γ => bnd (f Γ) fun ds => lift (h ds)
theorem callB_of {r : List V → Hp → VK → Prop} {h : List PD → Option PD} {f : List Sl → Mo (List PD)} (hs : CallS c r h) {σ : St} {H : Hp} {Q : VK} (q : tE c.p c.W (eCall h f) σ H Q) : tCB r (tA c.p c.W f) σ H Q := by
  obtain ⟨L0, H0, L, g, Γ, fr, po⟩ := q
  have po := Post.bind po
  refine ⟨L0, H0, L, g, Γ, fr, po.mono fun ds g1 L1 H1 st1 rel1 po1 vs hvs => ?_⟩
  obtain ⟨z, hz, po1⟩ := po1.lift rel1
  exact hs L1 g1 H1 vs ds z Q rel1 hvs hz fun v' L' H' st' rel' hd => po1 L' H' st' rel' v' hd
theorem de_callB {id : String} {x : Str} {r : List V → Hp → VK → Prop} {h : List PD → Option PD} {f : List Sl → Mo (List PD)} {e : Expr} {es : List Expr} {p pos : Pos} (hc : CallR c.X (.builtin id) r) (hs : CallS c r h) (hm : c.X.mg x = none) (hv : bootBuiltins x = some (.builtin id)) (ha : DA c (e :: es) f)
    (hg : Gl c.X x := by rfl) (hn : x ≠ "__name__" := by decide) (hdb : (x == ("__debug__" : Str)) = false := by decide)
    (he : starEach (e :: es) c.X.env = (false, eval e c.X.env) :: starEach es c.X.env := by rfl) (hpl : (backTo pos (starEach es c.X.env)).any (·.1) = false := by rfl) : DE c (.Call (.Name x p) (e :: es) [] pos) (eCall h f) :=
  PE.imp (pe_callB hc hg hm hv ha hn hdb he hpl) fun _ _ _ q => callB_of hs q
theorem de_callTy {T : String} {x : Str} {r : List V → Hp → VK → Prop} {h : List PD → Option PD} {f : List Sl → Mo (List PD)} {e : Expr} {es : List Expr} {p pos : Pos} (hc : CallR c.X (.type T) r) (hs : CallS c r h) (hm : c.X.mg x = none) (hv : bootBuiltins x = some (.type T)) (ha : DA c (e :: es) f)
    (hg : Gl c.X x := by rfl) (hn : x ≠ "__name__" := by decide) (hdb : (x == ("__debug__" : Str)) = false := by decide)
    (he : starEach (e :: es) c.X.env = (false, eval e c.X.env) :: starEach es c.X.env := by rfl) (hpl : (backTo pos (starEach es c.X.env)).any (·.1) = false := by rfl) : DE c (.Call (.Name x p) (e :: es) [] pos) (eCall h f) :=
  PE.imp (pe_callTy hc hg hm hv ha hn hdb he hpl) fun _ _ _ q => callB_of hs q
end
end Av

namespace Av
open PySem PySem.Spec L2
open PyProof.Rows hiding St
set_option autoImplicit false
/-! ### statements -/
section
variable {c : Ct} {k : Nat}
def sNext : List Sl → Mo Fl := fun Γ => ret (.next Γ)
def sSeq (f1 f2 : List Sl → Mo Fl) : List Sl → Mo Fl := fun Γ => bnd (f1 Γ) fun r => match r with
  | .next Γ' => f2 Γ'
  | .ret d => ret (.ret d)
theorem PostS.pure {p : Pm} {W : WX} {L0 L : Lay} {H0 H : Hp} {g : G} {Γ : List Sl} {σ : St} {D : Ends} (h : PostS p W L0 H0 L D (ret (.next Γ) g)) (fr : FR p L0 H0 L g Γ σ H) : D.nx σ H := h L σ H fr (Same.refl _)
theorem PostS.seq {p : Pm} {W : WX} {L0 L : Lay} {H0 : Hp} {D : Ends} {r : Res Fl} {f2 : List Sl → Mo Fl} {N : St → Hp → Prop} (h : PostS p W L0 H0 L D (r.bind fun x => match x with
  | .next Γ' => f2 Γ'
  | .ret d => ret (.ret d))) (hN : ∀ L' g' Γ' σ' H', FR p L0 H0 L' g' Γ' σ' H' → Same L.S L'.S → PostS p W L0 H0 L' D (f2 Γ' g') → N σ' H') {b ct : St → Hp → Prop} : PostS p W L0 H0 L { D with nx := N, bk := b, ct := ct } r := by
  cases r with
  | ok a g' =>
    cases a with
    | next Γ' => exact fun L' σ' H' fr ss => hN L' g' Γ' σ' H' fr ss (PostS.up ss h)
    | ret d => exact h
  | exc c g' => exact h
  | bad => exact h
theorem dss_nil : DSs c [] sNext := PSs.imp pss_nil fun D σ H q => by
  obtain ⟨L0, H0, L, g, Γ, fr, po⟩ := q
  exact PostS.pure po fr
theorem dss_cons {st : Stmt} {rest : List Stmt} {f1 f2 : List Sl → Mo Fl} (h1 : DS c st f1) (h2 : DSs c rest f2) : DSs c (st :: rest) (sSeq f1 f2) :=
  PSs.imp (pss_cons h1 h2) fun D σ H q => by
    obtain ⟨L0, H0, L, g, Γ, fr, po⟩ := q
    exact ⟨L0, H0, L, g, Γ, fr, PostS.seq (b := D.bk) (ct := D.ct) po fun L' g' Γ' σ' H' fr' _ po' => ⟨L0, H0, L', g', Γ', fr', po'⟩⟩
theorem dss_one {st : Stmt} {f1 : List Sl → Mo Fl} (h1 : DS c st f1) : DSs c [st] f1 := pss_one h1
def sRet (f : List Sl → Mo PD) : List Sl → Mo Fl := fun Γ => bnd (f Γ) fun d => ret (.ret d)
theorem ds_ret {e : Expr} {f : List Sl → Mo PD} {pos : Pos} (h : DE c e f) : DS c (.Return (some e) pos) (sRet f) :=
  PS.imp (ps_ret h) fun D σ H q => by
    obtain ⟨L0, H0, L, g, Γ, fr, po⟩ := q
    have po := PostS.bind fr po
    exact ⟨L0, H0, L, g, Γ, fr, po.mono fun d g1 L1 H1 st1 rel1 po1 v hv => po1 v L1 H1 (fr.st.trans st1) rel1 hv⟩
def sDrop (f : List Sl → Mo PD) : List Sl → Mo Fl := fun Γ => bnd (f Γ) fun _ => ret (.next Γ)
theorem ds_expr {e : Expr} {f : List Sl → Mo PD} {pos : Pos} (h : DE c e f) (hs : swapsWith e none pos.line c.X.env = pure false := by rfl) : DS c (.Expr e pos) (sDrop f) :=
  PS.imp (ps_expr h hs) fun D σ H q => by
    obtain ⟨L0, H0, L, g, Γ, fr, po⟩ := q
    have po := PostS.bind fr po
    exact ⟨L0, H0, L, g, Γ, fr, po.mono fun d g1 L1 H1 st1 rel1 po1 v hv => PostS.pure po1 (fr.step st1 rel1)⟩
def sIf (t : List Sl → Mo Bool) (f1 f2 : List Sl → Mo Fl) : List Sl → Mo Fl := fun Γ => bnd (t Γ) fun b => if b = true then f1 Γ else f2 Γ
theorem ds_if {t : Expr} {a b : List Stmt} {ft : List Sl → Mo Bool} {f1 f2 : List Sl → Mo Fl} {pos : Pos} (ht : DT c t ft) (ha : DSs c a f1) (hb : DSs c b f2) : DS c (.If t a b pos) (sIf ft f1 f2) :=
  PS.imp (ps_if ht ha hb) fun D σ H q => by
    obtain ⟨L0, H0, L, g, Γ, fr, po⟩ := q
    have po := PostS.bind fr po
    refine ⟨L0, H0, L, g, Γ, fr, po.mono fun b g1 L1 H1 st1 rel1 po1 => ?_⟩
    cases b with
    | true => exact ⟨L0, H0, L1, g1, Γ, fr.step st1 rel1, po1⟩
    | false => exact ⟨L0, H0, L1, g1, Γ, fr.step st1 rel1, po1⟩
def sAsg (i : Nat) (f : List Sl → Mo PD) : List Sl → Mo Fl := fun Γ => bnd (f Γ) fun d => ret (.next (Γ.set i (.val d)))
theorem ds_asg (i : Nat) {x : Str} {e : Expr} {f : List Sl → Mo PD} {pos pos' : Pos} (ok : c.Ok k) (h : DE c e f) (hi : c.X.N[i]? = some x := by rfl) (hx : Loc c.X.env.scope x := by first | exact Or.inl rfl | exact Or.inr rfl) (hs : swapsWith e (some (.Name x pos')) pos.line c.X.env = pure false := by rfl)
    (hf : c.X.fn x = true ∨ c.X.env.scope.names.lookup x = some .local := by first | exact .inl rfl | exact .inr rfl) : DS c (.Assign [.Name x pos'] e pos) (sAsg i f) :=
  PS.imp (ps_set ok.nd hi hx h hs hf) fun D σ H q => by
    obtain ⟨L0, H0, L, g, Γ, fr, po⟩ := q
    have po := PostS.bind fr po
    exact ⟨L0, H0, L, g, Γ, fr, po.mono fun d g1 L1 H1 st1 rel1 po1 v hv => PostS.pure po1 ((fr.step st1 rel1).set i hv)⟩
/-- x op= e, ints -/
def sAug (i : Nat) (h : PD → PD → Option PD) (f : List Sl → Mo PD) : List Sl → Mo Fl := fun Γ => bnd (eVar i Γ) fun d => bnd (f Γ) fun e => bnd (lift (h d e)) fun z => ret (.next (Γ.set i (.val z)))
def ipS (ti : TIp) (h : PD → PD → Option PD) : Prop := ∀ (S : Hp) (x y : V) (d e z : PD) (H : Hp) (Q : VK), Dq S x d → Dq S y e → h d e = some z → (∀ v, (∀ S', Dq S' v z) → Q v H) → ti x y H Q
theorem ds_aug (i : Nat) {x : Str} {e : Expr} {f : List Sl → Mo PD} {op : Operator} {ti : TIp} {h : PD → PD → Option PD} {pos pos' : Pos} (ok : c.Ok k) (he : DE c e f) (ho : PIp c.X op ti) (hh : ipS ti h) (hi : c.X.N[i]? = some x := by rfl) (hx : Loc c.X.env.scope x := by first | exact Or.inl rfl | exact Or.inr rfl)
    (hf : c.X.fn x = true ∨ c.X.env.scope.names.lookup x = some .local := by first | exact .inl rfl | exact .inr rfl) : DS c (.AugAssign (.Name x pos') op e pos) (sAug i h f) :=
  PS.imp (ps_aug ok.nd hi hx he ho hf) fun D σ H q => by
    obtain ⟨L0, H0, L, g, Γ, fr, po⟩ := q
    obtain ⟨d, hd, po⟩ := Post.lift (PostS.bind fr po) fr.rel
    have hd := getV_some hd
    have po := po L H (Stp.refl fr.rel) fr.rel
    have hlt : i < σ.length := by rw [← fr.len]; exact (List.getElem?_eq_some_iff.mp hd).1
    obtain ⟨v, e, hv⟩ := fr.sl i _ _ hd (List.getElem?_eq_getElem hlt)
    refine ⟨v, by rw [List.getElem?_eq_getElem hlt, e], ?_⟩
    have po := PostS.bind fr po
    refine ⟨L0, H0, L, g, Γ, fr, po.mono fun e g1 L1 H1 st1 rel1 po1 u hu => ?_⟩
    have fr1 := fr.step st1 rel1
    obtain ⟨z, hz, po1⟩ := Post.lift (PostS.bind fr1 po1) rel1
    have po1 := po1 L1 H1 (Stp.refl rel1) rel1
    exact hh L1.S v u d e z H1 _ (hv.mono st1.ss) hu hz fun w hw => PostS.pure po1 (fr1.set i (hw _))
/-! ### raise -/
def sRaise (i : Nat) : List Sl → Mo Fl := fun _ g => .exc i g
structure ExC (K : PySem.W.Frag) (mg : Str → Option Value) (x : Str) (C : Addr) : Prop where
  ex : PySem.W.excIn K C [.type "ValueError", .type "Exception", .type "BaseException", .type "object"] "ValueError.__new__" = true
  mg : mg x = some (.ref C)
  kp : PySem.W.keepIn K (.ref C) = true
  sb : PySem.W.subIn K (.ref C) (.type "BaseException") = some true
  ty : PySem.W.typeIn K (.ref C) = some (.type "type")
theorem ds_raise (i : Nat) {x m : Str} {j : Nat} {p p2 pos pos2 : Pos} (ok : c.Ok k) (E : ExC c.X.K c.X.mg x (c.p.cls i)) (hg : Gl c.X x := by rfl) (hdb : (x == ("__debug__" : Str)) = false := by decide) :
    DS c (.Raise (some (.Call (.Name x p) [.Constant (.str m) j p2] [] pos)) none pos2) (sRaise i) :=
  PS.imp (L2N.ps_raise ok.cm ok.tk (L2N.pmk_own PySem.F.excBase_ValueError E.ex E.mg E.kp (raises_own E.sb E.ty) hg hdb)) fun D σ H q => by
    obtain ⟨L0, H0, L, g, Γ, fr, po⟩ := q
    exact po L σ H fr.st fr.rel
/-! ### walks -/
/-- a pair of which no more is known -/
def Pw (S : Hp) (x : V) (d : PD) : Prop := ∃ T u v d1 d2, x = .ref T ∧ d = .tuple [d1, d2] ∧ S T = some (.tup [u, v]) ∧ Dq S u d1 ∧ Dq S v d2
structure WalkD (p : Pm) (wk : Bool) (S : Hp) (J : It) (ds : List PD) : Prop where
  go : ∀ (i : Nat) L g H, i < ds.length → Same S L.S → Rel p L g H → J.go i H
  stop : ∀ L g H, Same S L.S → Rel p L g H → J.stop ds.length H
  yld : ∀ (i : Nat) d L g H x H', ds[i]? = some d → Same S L.S → Rel p L g H → J.yld i H x H' → ∃ L', Stp L H L' H' ∧ Rel p L' g H' ∧ (Dq L'.S x d ∨ (wk = true ∧ Pw L'.S x d))
def isTupE : Expr → Bool
  | .Tuple _ _ _ => true
  | _ => false
def tI (p : Pm) (W : WX) (wk : Bool) (f : List Sl → Mo (List PD)) : TI := fun σ H R => ∃ L0 H0 L g Γ, FR p L0 H0 L g Γ σ H ∧ Post p W σ L H (fun ds _ L' H' => ∀ J, WalkD p wk L'.S J ds → R J H') (f Γ g)
def DI (c : Ct) (tg iter : Expr) (f : List Sl → Mo (List PD)) : Prop := PI c.X tg iter (tI c.p c.W (isTupE tg) f)
theorem PI.imp {X : Cx} {tg e : Expr} {t t' : TI} (h : PI X tg e t) (k : ∀ σ H Q, t' σ H Q → t σ H Q) : PI X tg e t' := ⟨fun pins s σ H Q I q => h.run pins s σ H Q I (k σ H Q q)⟩
inductive Tg where
  | one (i : Nat)
  | two (i j : Nat)
def Tg.set : Tg → PD → List Sl → Option (List Sl)
  | .one i, d, Γ => some (Γ.set i (.val d))
  | .two i j, .tuple [x, y], Γ => some ((Γ.set i (.val x)).set j (.val y))
  | .two _ _, _, _ => none
def tgOk (tg : Expr) : Tg → Bool
  | .one _ => !isTupE tg
  | .two _ _ => true
def Tg.isTwo : Tg → Bool
  | .one _ => false
  | .two _ _ => true
theorem tgOk_two {tg : Expr} {t : Tg} (h : tgOk tg t = true) (h' : isTupE tg = true) : t.isTwo = true := by
  cases t with
  | one i =>
    have h : (!isTupE tg) = true := h
    rw [h'] at h
    cases h
  | two i j => rfl
def Tg.slots : Tg → List Nat
  | .one i => [i]
  | .two i j => [i, j]
def tgR (K : PySem.W.Frag) : Tg → TG
  | .one i => gName i
  | .two i j => gTup K 2 (gCons (gName i) (gCons (gName j) gNil))
def DG (c : Ct) (tg : Expr) (t : Tg) : Prop := PG c.X tg (tgR c.X.K t)
def Tg.put : Tg → List V → St → St
  | .one i, v :: _, σ => σ.set i (some v)
  | .two i j, v :: w :: _, σ => (σ.set i (some v)).set j (some w)
  | _, _, σ => σ
theorem Tg.run {K : PySem.W.Frag} {t : Tg} {p : Pm} {L0 L : Lay} {H0 H : Hp} {g : G} {Γ Γ' : List Sl} {σ : St} {v : V} {d : PD} {Q : St → Hp → Prop} (fr : FR p L0 H0 L g Γ σ H) (hv : Dq L.S v d ∨ (t.isTwo = true ∧ Pw L.S v d)) (ht : t.set d Γ = some Γ')
    (h : ∀ vs, vs.length = t.slots.length → FR p L0 H0 L g Γ' (t.put vs σ) H → Q (t.put vs σ) H) : tgR K t v σ H Q := by
  cases t with
  | one i =>
    cases ht
    rcases hv with hv | ⟨z, _⟩
    · exact h [v] rfl (fr.set i hv)
    · cases z
  | two i j =>
    cases d with
    | tuple ds =>
      match ds, ht with
      | [x, y], ht =>
        cases ht
        rcases hv with hv | ⟨_, T, u, w, d1, d2, rfl, e, hS, hx, hy⟩
        · cases hv with
          | tup hS hA hN =>
            cases hA with
            | cons hx hA =>
              cases hA with
              | cons hy hA =>
                cases hA
                refine ⟨_, _, rfl, SqTF (fr.rel.s _ _ hS), rfl, _, _, rfl, _, _, rfl, rfl, ?_⟩
                exact h [_, _] rfl ((fr.set i hx).set j hy)
        · cases e
          refine ⟨_, _, rfl, SqT.of (fr.rel.s _ _ hS), rfl, _, _, rfl, _, _, rfl, rfl, ?_⟩
          exact h [_, _] rfl ((fr.set i hx).set j hy)
    | none => cases ht
    | bool _ => cases ht
    | int _ => cases ht
    | str _ => cases ht
    | list _ => cases ht
    | dict _ => cases ht
theorem dg_one (i : Nat) {x : Str} {pos : Pos} (nd : c.X.N.Nodup) (hi : c.X.N[i]? = some x := by rfl) (hx : Loc c.X.env.scope x := by first | exact Or.inl rfl | exact Or.inr rfl) (hf : c.X.fn x = true ∨ c.X.env.scope.names.lookup x = some .local := by first | exact .inl rfl | exact .inr rfl) : DG c (.Name x pos) (.one i) :=
  pg_name nd hi hx hf
theorem dg_two (i j : Nat) {x y : Str} {px py pos : Pos} {kk : Nat} (nd : c.X.N.Nodup) (cm : c.X.calm = true) (hi : c.X.N[i]? = some x := by rfl) (hx : Loc c.X.env.scope x := by first | exact Or.inl rfl | exact Or.inr rfl) (hf : c.X.fn x = true ∨ c.X.env.scope.names.lookup x = some .local := by first | exact .inl rfl | exact .inr rfl)
    (hj : c.X.N[j]? = some y := by rfl) (hy : Loc c.X.env.scope y := by first | exact Or.inl rfl | exact Or.inr rfl) (hfy : c.X.fn y = true ∨ c.X.env.scope.names.lookup y = some .local := by first | exact .inl rfl | exact .inr rfl) : DG c (.Tuple [.Name x px, .Name y py] kk pos) (.two i j) :=
  pg_tup cm (pgs_cons (pg_name nd hi hx hf) (pgs_cons (pg_name nd hj hy hfy) pgs_nil))
def forL (t : Tg) (fb : List Sl → Mo Fl) : List PD → List Sl → Mo Fl
  | [], Γ => ret (.next Γ)
  | d :: ds, Γ => bnd (lift (t.set d Γ)) fun Γ1 => bnd (fb Γ1) fun r => match r with
    | .next Γ2 => forL t fb ds Γ2
    | .ret d => ret (.ret d)
def sFor (fi : List Sl → Mo (List PD)) (t : Tg) (fb : List Sl → Mo Fl) : List Sl → Mo Fl := fun Γ => bnd (fi Γ) fun ds => forL t fb ds Γ
theorem ds_for {tg iter : Expr} {body : List Stmt} {fi : List Sl → Mo (List PD)} {t : Tg} {fb : List Sl → Mo Fl} {pos : Pos} (ok : c.Ok k) (hi : DI c tg iter fi) (hg : DG c tg t) (hb : DSs c body fb) (hs : ∀ x, foldedSetIterable iter c.X.env x = pure x := by intro _; rfl) (hk : tgOk tg t = true := by rfl) : DS c (.For tg iter body [] pos) (sFor fi t fb) :=
  PS.imp (ps_for ok.po ok.cm hi hg hb hs) fun D σ H q => by
    obtain ⟨L0, H0, L, g, Γ, fr, po⟩ := q
    have po := PostS.bind fr po
    refine ⟨L0, H0, L, g, Γ, fr, po.mono fun ds g1 L1 H1 st1 rel1 po1 J wd => ?_⟩
    have fr1 := fr.step st1 rel1
    refine ⟨fun i m σ' H' => m = ds.length - i ∧ i ≤ ds.length ∧ ∃ L' g' Γ', FR c.p L0 H0 L' g' Γ' σ' H' ∧ Same L1.S L'.S ∧ PostS c.p c.W L0 H0 L' D (forL t fb (ds.drop i) Γ' g'), ⟨_, rfl, Nat.zero_le _, L1, g1, Γ, fr1, Same.refl _, po1⟩, ?_⟩
    rintro i m σ' H' ⟨rfl, hi, L', g', Γ', fr', ss', po'⟩
    by_cases hlt : i < ds.length
    · refine .inr ⟨wd.go i L' g' H' hlt ss' fr'.rel, fun σ2 H2 => ∃ L2 g2 Γ2, FR c.p L0 H0 L2 g2 Γ2 σ2 H2 ∧ Same L1.S L2.S ∧ PostS c.p c.W L0 H0 L2 D (forL t fb (ds.drop (i + 1)) Γ2 g2), fun σ2 H2 h2 => ⟨ds.length - (i + 1), by omega, rfl, hlt, h2⟩, fun x H2 hy => ?_⟩
      have hd : ds[i]? = some ds[i] := List.getElem?_eq_getElem hlt
      obtain ⟨L2, st2, rel2, hx⟩ := wd.yld i ds[i] L' g' H' x H2 hd ss' fr'.rel hy
      have fr2 := fr'.step st2 rel2
      rw [List.drop_eq_getElem_cons hlt] at po'
      have po2 := PostS.up st2.ss po'
      obtain ⟨Γ1, hΓ, po2⟩ := Post.lift (PostS.bind fr2 po2) rel2
      have po2 := po2 L2 H2 (Stp.refl rel2) rel2
      refine Tg.run fr2 (hx.imp_right fun z => ⟨tgOk_two hk z.1, z.2⟩) hΓ fun vs _ fr3 => ⟨L0, H0, L2, g', Γ1, fr3, PostS.seq (f2 := forL t fb (ds.drop (i + 1))) po2 fun L4 g4 Γ4 σ4 H4 fr4 ss4 po4 => ⟨L4, g4, Γ4, fr4, (ss'.trans st2.ss).trans ss4, po4⟩⟩
    · have e : i = ds.length := by omega
      subst e
      refine .inl ⟨wd.stop L' g' H' ss' fr'.rel, ?_⟩
      rw [List.drop_length] at po'
      exact PostS.pure po' fr'
/-! ### while -/
def sWhile (ft : List Sl → Mo Bool) (fb : List Sl → Mo Fl) : Nat → List Sl → Mo Fl
  | 0, _ => fail
  | n + 1, Γ => bnd (ft Γ) fun b => if b = true then bnd (fb Γ) fun r => match r with
      | .next Γ2 => sWhile ft fb n Γ2
      | .ret d => ret (.ret d)
    else ret (.next Γ)
theorem ds_while (n : Nat) {t : Expr} {body : List Stmt} {ft : List Sl → Mo Bool} {fb : List Sl → Mo Fl} {pos : Pos} (ok : c.Ok k) (ht : DT c t ft) (hb : DSs c body fb) : DS c (.While t body [] pos) (sWhile ft fb n) :=
  PS.imp (ps_while ok.po ht hb) fun D σ H q => by
    obtain ⟨L0, H0, L, g, Γ, fr, po⟩ := q
    refine ⟨fun m σ' H' => ∃ L' g' Γ', FR c.p L0 H0 L' g' Γ' σ' H' ∧ PostS c.p c.W L0 H0 L' D (sWhile ft fb m Γ' g'), ⟨n, L, g, Γ, fr, po⟩, ?_⟩
    rintro m σ' H' ⟨L', g', Γ', fr', po'⟩
    cases m with
    | zero => exact po'.elim
    | succ m =>
      have po' := PostS.bind fr' po'
      refine ⟨L0, H0, L', g', Γ', fr', po'.mono fun b g1 L1 H1 st1 rel1 po1 => ?_⟩
      have fr1 := fr'.step st1 rel1
      cases b with
      | true =>
        refine ⟨fun σ2 H2 => ∃ L2 g2 Γ2, FR c.p L0 H0 L2 g2 Γ2 σ2 H2 ∧ PostS c.p c.W L0 H0 L2 D (sWhile ft fb m Γ2 g2), fun σ2 H2 h2 => ⟨m, Nat.lt_succ_self m, h2⟩, ?_⟩
        exact ⟨L0, H0, L1, g1, Γ', fr1, PostS.seq (f2 := sWhile ft fb m) po1 fun L4 g4 Γ4 σ4 H4 fr4 ss4 po4 => ⟨L4, g4, Γ4, fr4, po4⟩⟩
      | false => exact PostS.pure po1 fr1
/-! ### a comprehension -/
def nx {α : Type} (x : Mo α) : Mo α := fun g => match x g with
  | .ok a g' => .ok a g'
  | _ => .bad
def lcL (t : Tg) (ft : List Sl → Mo Bool) (fe : List Sl → Mo PD) (Γ : List Sl) : List PD → Mo (List PD)
  | [] => ret []
  | d :: ds => bnd (lift (t.set d Γ)) fun Γ1 => bnd (nx (ft Γ1)) fun b => if b = true then bnd (nx (fe Γ1)) fun x => bnd (lcL t ft fe Γ ds) fun r => ret (x :: r) else lcL t ft fe Γ ds
def wipeG (Γ : List Sl) : List Nat → List Sl
  | [] => Γ
  | v :: vs => (wipeG Γ vs).set v .dead
def eLc (fi : List Sl → Mo (List PD)) (t : Tg) (ft : List Sl → Mo Bool) (fe : List Sl → Mo PD) : List Sl → Mo PD := fun Γ => bnd (fi Γ) fun ds => bnd (lift (if small ds.length = true then some () else none)) fun _ =>
  bnd (lcL t ft fe (wipeG Γ t.slots) ds) fun r => ret (.list r)
def tYesM : List Sl → Mo Bool := fun _ => ret true
def DTs (c : Ct) (ifs : List Expr) (f : List Sl → Mo Bool) : Prop := PTs c.X ifs (tT c.p c.W f)
theorem PTs.imp {X : Cx} {e : List Expr} {t t' : TT} (h : PTs X e t) (k : ∀ σ H Q, t' σ H Q → t σ H Q) : PTs X e t' := ⟨fun pins s σ H Q I q => h.run pins s σ H Q I (k σ H Q q)⟩
theorem dts_nil : DTs c [] tYesM := PTs.imp pts_nil fun σ H Q q => by
  obtain ⟨L0, H0, L, g, Γ, fr, po⟩ := q
  exact po.pure fr.rel
theorem dts_one {e : Expr} {f : List Sl → Mo Bool} (h : DT c e f) : DTs c [e] f := pts_one h
theorem FR.wipe {p : Pm} {L0 L : Lay} {H0 H : Hp} {g : G} {Γ : List Sl} {σ : St} (fr : FR p L0 H0 L g Γ σ H) : ∀ vs : List Nat, FR p L0 H0 L g (wipeG Γ vs) (wipe σ vs) H
  | [] => fr
  | v :: vs => (FR.wipe fr vs).kill v
theorem wipe_set_self (σ : St) (j : Nat) (o : Option V) : ∀ vs : List Nat, j ∈ vs → wipe (σ.set j o) vs = wipe σ vs
  | v :: vs, h => by
    show (wipe (σ.set j o) vs).set v none = (wipe σ vs).set v none
    by_cases e : j = v
    · subst e
      by_cases hm : j ∈ vs
      · rw [wipe_set_self σ j o vs hm]
      · have aux : ∀ vs : List Nat, j ∉ vs → wipe (σ.set j o) vs = (wipe σ vs).set j o := by
          intro vs
          induction vs with
          | nil => intro _; rfl
          | cons u us ih =>
            intro hn
            show (wipe (σ.set j o) us).set u none = ((wipe σ us).set u none).set j o
            rw [ih (fun z => hn (List.mem_cons_of_mem _ z)), List.set_comm _ _ (fun z => hn (by rw [z]; exact List.mem_cons_self))]
        rw [aux vs hm, List.set_set]
    · have hm : j ∈ vs := by
        rcases List.mem_cons.mp h with z | z
        · exact absurd z e
        · exact z
      rw [wipe_set_self σ j o vs hm]
theorem wipe_idem (σ : St) (vs : List Nat) : ∀ us : List Nat, (∀ u ∈ us, u ∈ vs) → wipe (wipe σ us) vs = wipe σ vs
  | [], _ => rfl
  | u :: us, h => by
    show wipe ((wipe σ us).set u none) vs = wipe σ vs
    rw [wipe_set_self _ u none vs (h u List.mem_cons_self)]
    exact wipe_idem σ vs us fun x hx => h x (List.mem_cons_of_mem _ hx)
theorem wipe_put (t : Tg) (vs : List V) (σ : St) : wipe (t.put vs (wipe σ t.slots)) t.slots = wipe σ t.slots := by
  cases t with
  | one i =>
    cases vs with
    | nil => exact wipe_idem σ [i] [i] fun u h => h
    | cons v vs =>
      show wipe ((wipe σ [i]).set i (some v)) [i] = wipe σ [i]
      rw [wipe_set_self _ i _ [i] List.mem_cons_self]
      exact wipe_idem σ [i] [i] fun u h => h
  | two i j =>
    have idem := wipe_idem σ [i, j] [i, j] fun u h => h
    match vs with
    | [] => exact idem
    | [v] => exact idem
    | v :: w :: _ =>
      show wipe (((wipe σ [i, j]).set i (some v)).set j (some w)) [i, j] = wipe σ [i, j]
      rw [wipe_set_self _ j _ [i, j] (List.mem_cons_of_mem _ List.mem_cons_self), wipe_set_self _ i _ [i, j] List.mem_cons_self]
      exact idem
def W0 : WX := fun _ _ _ _ => False
theorem Post.nx {p : Pm} {W : WX} {σ σ' : St} {L : Lay} {H : Hp} {α : Type} {ok : α → G → Lay → Hp → Prop} {x : Mo α} {g : G} (h : Post p W σ L H ok (nx x g)) : Post p W0 σ' L H ok (x g) := by
  unfold Av.nx at h
  cases e : x g with
  | ok a g' => rw [e] at h; exact h
  | exc c g' => rw [e] at h; exact h.elim
  | bad => rw [e] at h; exact h.elim
/-- the context of a comprehension's block -/
abbrev Ct.blk (c : Ct) (s : Shared) (H : Hp) (scope : Scope) (C : Addr) (cl : List (Str × Addr)) (fp : List Addr) : Ct := ⟨c.X.blk s H scope (compEnvC scope cl C c.X.env) fp, c.p, W0⟩
theorem Rel.at {p : Pm} {L : Lay} {g : G} {H : Hp} {D : Addr} {o : HO} (rel : Rel p L g H) (h1 : L.S D = none) (h2 : L.M D = none) : Rel p L g (upd H D o) :=
  ⟨fun a u e => by rw [upd_ne (ne_of_none e h1)]; exact rel.s a u e, fun a u e => by rw [upd_ne (ne_of_none e h2)]; exact rel.m a u e, rel.sm, rel.gi⟩
theorem Stp.at {L L' : Lay} {H H' : Hp} {D : Addr} {o : HO} (st : Stp L H L' H') (hD : H D = none) : Stp L H L' (upd H' D o) :=
  ⟨st.ss, st.oa, fun b u hm e => by rw [upd_ne (ne_of_none e hD)]; exact st.keep b u hm e, st.sfr, st.mfr, fun b hm => by
    by_cases e : b = D
    · subst e; rw [upd_same]; exact fun z => nomatch z
    · rw [upd_ne e]; exact st.mm b hm⟩
/-- what stands apart stays apart -/
theorem Stp.apart {L L' : Lay} {H H' : Hp} {D : Addr} {o : HO} (st : Stp L H L' H') (hD : H D = some o) (h1 : L.S D = none) (h2 : L.M D = none) : H' D = some o ∧ L'.S D = none ∧ L'.M D = none := by
  refine ⟨st.keep D o h2 hD, opt_none fun q => ?_, opt_none fun q => ?_⟩
  · rcases st.sfr D q with z | z
    · exact z h1
    · rw [hD] at z; cases z
  · rcases st.mfr D q with z | z
    · exact z h2
    · rw [hD] at z; cases z
theorem Post.bind0 {p : Pm} {W : WX} {L L2 : Lay} {H H2 : Hp} {σ : St} {α β : Type} {ok : β → G → Lay → Hp → Prop} {x : Res α} {k : α → Mo β} (st : Stp L H L2 H2) (h : Post p W σ L H ok (x.bind k)) : Post p W σ L2 H2 (fun a g1 _ _ => Post p W σ L H ok (k a g1)) x := by
  cases x with
  | ok a g1 => exact fun _ _ _ _ => h
  | exc c g' => exact fun L' H' s r => h L' H' (st.trans s) r
  | bad => exact h
/-- an own list comes to stay -/
theorem Rel.fix {p : Pm} {L : Lay} {g : G} {H : Hp} {D : Addr} {o : HO} (rel : Rel p L g H) (hD : H D = some o) (h1 : L.S D = none) (h2 : L.M D = none) : Rel p { L with S := upd L.S D o } g H where
  s := fun a u e => by
    have e' : upd L.S D o a = some u := e
    by_cases h : a = D
    · subst h; rw [upd_same] at e'; rw [hD]; exact e'
    · rw [upd_ne h] at e'; exact rel.s a u e'
  m := rel.m
  sm := fun a h => by
    have h' : upd L.S D o a ≠ none := h
    by_cases z : a = D
    · subst z; exact h2
    · rw [upd_ne z] at h'; exact rel.sm a h'
  gi := rel.gi.up (same_new h1)
theorem Stp.fix {L L' : Lay} {H H' : Hp} {D : Addr} {o : HO} (st : Stp L H L' H') (hD : H D = none) (h1 : L'.S D = none) : Stp L H { L' with S := upd L'.S D o } H' :=
  ⟨st.ss.trans (same_new h1), st.oa, st.keep, fun b h => by
    have h' : upd L'.S D o b ≠ none := h
    by_cases z : b = D
    · subst z; exact .inr hD
    · rw [upd_ne z] at h'; exact st.sfr b h', st.mfr, st.mm⟩
theorem lc_of {tg : Expr} {fi : List Sl → Mo (List PD)} {t : Tg} {ft : List Sl → Mo Bool} {fe : List Sl → Mo PD} {σ : St} {H : Hp} {Q : VK} (hk : tgOk tg t = true) (q : tE c.p c.W (eLc fi t ft fe) σ H Q) :
    tLc (tI c.p c.W (isTupE tg) fi) (tgR c.X.K t) (tT c.p W0 ft) (tE c.p W0 fe) t.slots σ H Q := by
  obtain ⟨L0, H0, L, g, Γ, fr, po⟩ := q
  have po := Post.bind po
  refine ⟨L0, H0, L, g, Γ, fr, po.mono fun ds g1 L1 H1 st1 rel1 po1 J wd D hD => ?_⟩
  obtain ⟨_, hsm, po1⟩ := Post.lift (Post.bind po1) rel1
  have po1 := Post.bind (po1 L1 H1 (Stp.refl rel1) rel1)
  have hsmall : small ds.length = true := (if_some hsm).1
  have fr1 := (fr.step st1 rel1).wipe t.slots
  have hDS := rel1.sq hD
  have hDM := rel1.mq hD
  refine ⟨fun i m H' => m = ds.length - i ∧ i ≤ ds.length ∧ ∃ L' g' xs acc, Stp L1 H1 L' H' ∧ Rel c.p L' g' H' ∧ H' D = some (.lst xs) ∧ DqA L'.S xs acc ∧ L'.S D = none ∧ L'.M D = none ∧ acc.length ≤ i ∧
    Post c.p c.W σ L1 H1 (fun r _ L2 H2 => ∀ v, Dq L2.S v (.list (acc ++ r)) → Q v H2) (lcL t ft fe (wipeG Γ t.slots) (ds.drop i) g'), ⟨_, rfl, Nat.zero_le _, L1, g1, [], [], (Stp.refl rel1).at hD, rel1.at hDS hDM, upd_same, .nil, hDS, hDM, Nat.le_refl _, po1.mono fun r g2 L2 H2 st2 rel2 po2 v hv => po2.pure rel2 v hv⟩, ?_⟩
  rintro i m H' ⟨rfl, hi, L', g', xs, acc, st', rel', hDl, hA, hS', hM', hlen, po'⟩
  have ss' := st'.ss
  have fr' := fr1.step st' rel'
  by_cases hlt : i < ds.length
  · refine .inr ⟨wd.go i L' g' H' hlt ss' rel', fun H2 => ∃ L2 g2 xs acc, Stp L1 H1 L2 H2 ∧ Rel c.p L2 g2 H2 ∧ H2 D = some (.lst xs) ∧ DqA L2.S xs acc ∧ L2.S D = none ∧ L2.M D = none ∧ acc.length ≤ i + 1 ∧
        Post c.p c.W σ L1 H1 (fun r _ L2 H2 => ∀ v, Dq L2.S v (.list (acc ++ r)) → Q v H2) (lcL t ft fe (wipeG Γ t.slots) (ds.drop (i + 1)) g2), fun H2 h2 => ⟨ds.length - (i + 1), by omega, rfl, hlt, h2⟩, fun x H2 hy => ?_⟩
    have hd : ds[i]? = some ds[i] := List.getElem?_eq_getElem hlt
    obtain ⟨L2, st2, rel2, hx⟩ := wd.yld i ds[i] L' g' H' x H2 hd ss' rel' hy
    have fr2 := fr'.step st2 rel2
    rw [List.drop_eq_getElem_cons hlt] at po'
    obtain ⟨Γ1, hΓ, po2⟩ := Post.lift (Post.bind0 (st'.trans st2) po') rel2
    have po2 := Post.bind0 (st'.trans st2) (po2 L2 H2 (Stp.refl rel2) rel2)
    obtain ⟨hD2, hS2, hM2⟩ := st2.apart hDl hS' hM'
    refine Tg.run fr2 (hx.imp_right fun z => ⟨tgOk_two hk z.1, z.2⟩) hΓ fun vs _ fr3 => ⟨wipe_put t vs σ, L0, H0, L2, g', Γ1, fr3, (Post.nx po2).mono fun b g3 L3 H3 st3 rel3 po3 => ?_⟩
    obtain ⟨hD3, hS3, hM3⟩ := st3.apart hD2 hS2 hM2
    cases b with
    | false => exact ⟨L3, g3, xs, acc, (st'.trans st2).trans st3, rel3, hD3, (hA.mono st2.ss).mono st3.ss, hS3, hM3, Nat.le_succ_of_le hlen, po3⟩
    | true =>
      have po3 := Post.bind0 ((st'.trans st2).trans st3) po3
      refine ⟨L0, H0, L3, g3, Γ1, fr3.step st3 rel3, (Post.nx po3).mono fun d g4 L4 H4 st4 rel4 po4 y hy => ?_⟩
      obtain ⟨hD4, hS4, hM4⟩ := st4.apart hD3 hS3 hM3
      have hA4 : DqA L4.S xs acc := ((hA.mono st2.ss).mono st3.ss).mono st4.ss
      have hl : xs.length ≤ i := by rw [hA.len]; exact hlen
      refine ⟨xs, hD4, ?_, L4, g4, xs ++ [y], acc ++ [d], (((st'.trans st2).trans st3).trans st4).at hD, rel4.at hS4 hM4, upd_same, hA4.app (.cons hy .nil), hS4, hM4, ?_, ?_⟩
      · have h1 := Nat.le_of_ble_eq_true hsmall
        have h2 := sizeLine_eq
        omega
      · rw [List.length_append, List.length_singleton]
        omega
      · refine (Post.bind po4).mono fun r g5 L5 H5 st5 rel5 po5 v hv => ?_
        rw [List.append_assoc] at hv
        exact po5.pure rel5 v hv
  · have e : i = ds.length := by omega
    subst e
    refine .inl ⟨wd.stop L' g' H' ss' rel', ?_⟩
    rw [List.drop_length] at po'
    have hv := po' _ _ (st'.fix (o := .lst xs) hD hS') (rel'.fix hDl hS' hM') (.ref D)
    rw [List.append_nil] at hv
    exact hv (.lst upd_same (hA.mono (same_new hS')))
theorem de_lc {elt tg iter : Expr} {ifs : List Expr} {scope : Scope} {own : List (Str × Nat)} {pos : Pos} {fi : List Sl → Mo (List PD)} {t : Tg} {ft : List Sl → Mo Bool} {fe : List Sl → Mo PD} (ok : c.Ok k) (hi : DI c tg iter fi) (bo : BlkOk c.X.N c.X.env.scope scope own) (hv : own.map (·.2) = t.slots)
    (hg : ∀ (s : Shared) (H : Hp) (C : Addr) (cl : List (Str × Addr)) (fp : List Addr), DG (c.blk s H scope C cl fp) tg t) (ht : ∀ (s : Shared) (H : Hp) (C : Addr) (cl : List (Str × Addr)) (fp : List Addr), DTs (c.blk s H scope C cl fp) ifs ft)
    (he : ∀ (s : Shared) (H : Hp) (C : Addr) (cl : List (Str × Addr)) (fp : List Addr), DE (c.blk s H scope C cl fp) elt fe) (hs : ∀ x, foldedSetIterable iter c.X.env x = pure x := by intro _; rfl) (hk : tgOk tg t = true := by rfl) :
    DE c (.ListComp elt [⟨tg, iter, ifs, 0⟩] scope pos) (eLc fi t ft fe) := by
  have h := pe_lc (pos := pos) (g := tgR c.X.K t) (tt := tT c.p W0 ft) (te := tE c.p W0 fe) ok.cm ok.nd hi bo hg ht he hs
  rw [hv] at h
  exact PE.imp h fun σ H Q q => lc_of hk q
theorem ds_setLc (i : Nat) {y : Str} {py : Pos} {elt tg iter : Expr} {ifs : List Expr} {scope : Scope} {own : List (Str × Nat)} {pos spos : Pos} {fi : List Sl → Mo (List PD)} {t : Tg} {ft : List Sl → Mo Bool} {fe : List Sl → Mo PD} (ok : c.Ok k) (hi : DI c tg iter fi) (bo : BlkOk c.X.N c.X.env.scope scope own) (hv : own.map (·.2) = t.slots)
    (hg : ∀ (s : Shared) (H : Hp) (C : Addr) (cl : List (Str × Addr)) (fp : List Addr), DG (c.blk s H scope C cl fp) tg t) (ht : ∀ (s : Shared) (H : Hp) (C : Addr) (cl : List (Str × Addr)) (fp : List Addr), DTs (c.blk s H scope C cl fp) ifs ft)
    (he : ∀ (s : Shared) (H : Hp) (C : Addr) (cl : List (Str × Addr)) (fp : List Addr), DE (c.blk s H scope C cl fp) elt fe)
    (hsw : swapsWith (.ListComp elt [⟨tg, iter, ifs, 0⟩] scope pos) (some (.Name y py)) spos.line c.X.env = pure true) (hy : c.X.N[i]? = some y := by rfl) (hyl : c.X.env.scope.names.lookup y = some .local := by rfl)
    (hs : ∀ x, foldedSetIterable iter c.X.env x = pure x := by intro _; rfl) (hk : tgOk tg t = true := by rfl) :
    DS c (.Assign [.Name y py] (.ListComp elt [⟨tg, iter, ifs, 0⟩] scope pos) spos) (sAsg i (eLc fi t ft fe)) := by
  have h := ps_setLc (pos := pos) (spos := spos) (g := tgR c.X.K t) (tt := tT c.p W0 ft) (te := tE c.p W0 fe) ok.cm ok.nd hy hyl hsw hi bo hg ht he hs
  rw [hv] at h
  refine PS.imp h fun D σ H q => ?_
  obtain ⟨L0, H0, L, g, Γ, fr, po⟩ := q
  have po := PostS.bind fr po
  exact lc_of hk ⟨L0, H0, L, g, Γ, fr, po.mono fun d g1 L1 H1 st1 rel1 po1 v hv => PostS.pure po1 ((fr.step st1 rel1).set i hv)⟩
/-! ### defs -/
def runB (np n : Nat) (m : List Sl → Mo Fl) (as : List Sl) : Mo PD := if Nat.beq as.length np = true then bnd (m (as ++ List.replicate (n - as.length) .dead)) fun r => match r with
  | .next _ => ret .none
  | .ret d => ret d
  else fail
def spF (p : Pm) (F : List Sl → Mo PD) : Sp := fun vs H Q E => ∃ L g as, Rel p L g H ∧ Paired (ArgR p L) vs as ∧ Post p (fun cls d _ H' => E cls d H') [] L H (fun d _ L' H' => ∀ v, Dq L'.S v d → Q v H') (F as g)
theorem paired_len {α β : Type} {R : α → β → Prop} : ∀ {xs : List α} {ys : List β}, Paired R xs ys → xs.length = ys.length
  | _, _, .nil => rfl
  | _, _, .cons _ t => by simp [paired_len t]
theorem paired_get {α β : Type} {R : α → β → Prop} : ∀ {xs : List α} {ys : List β} {i : Nat} {x : α} {y : β}, Paired R xs ys → xs[i]? = some x → ys[i]? = some y → R x y
  | _, _, _, _, _, .nil, e, _ => by simp at e
  | _, _, 0, _, _, .cons r _, e, e' => by
    simp at e e'
    subst e
    subst e'
    exact r
  | _, _, i + 1, x, y, .cons _ t, e, e' => paired_get (i := i) t (by simpa using e) (by simpa using e')
theorem FR.start {p : Pm} {L : Lay} {g : G} {H : Hp} {N : List Str} {vs : List V} {as : List Sl} (rel : Rel p L g H) (ha : Paired (ArgR p L) vs as) : FR p L H L g (as ++ List.replicate (N.length - as.length) .dead) (start N vs) H := by
  have hl := paired_len ha
  refine ⟨rel, Stp.refl rel, ?_, fun i s o h1 h2 => ?_, fun i j ds es a hij h1 h2 h3 => ?_⟩
  · unfold L2.start
    rw [List.length_append, List.length_append, List.length_map, List.length_replicate, List.length_replicate, hl]
  · by_cases hi : i < as.length
    · rw [List.getElem?_append_left hi] at h1
      unfold L2.start at h2
      rw [List.getElem?_append_left (by rw [List.length_map, hl]; exact hi), List.getElem?_map] at h2
      obtain ⟨v, hv, rfl⟩ := Option.map_eq_some_iff.mp h2
      have r := paired_get ha hv h1
      cases s with
      | val d => exact ⟨v, rfl, r⟩
      | obj i =>
        obtain ⟨a, e, r⟩ := r
        exact ⟨a, by rw [e], r⟩
      | pin a => exact congrArg some r
      | own _ => exact r.elim
      | dead => exact r.elim
    · rw [List.getElem?_append_right (by omega), List.getElem?_replicate] at h1
      split at h1
      · cases h1; trivial
      · cases h1
  · exfalso
    by_cases hi : i < as.length
    · rw [List.getElem?_append_left hi] at h1
      have hlt : i < vs.length := by rw [hl]; exact hi
      exact paired_get ha (List.getElem?_eq_getElem hlt) h1
    · rw [List.getElem?_append_right (by omega), List.getElem?_replicate] at h1
      split at h1
      · cases h1
      · cases h1
theorem fnOkN {P : Program} {w : World} {K : PySem.W.Frag} {mg : Str → Option Value} {base : Heap} {x qual : Str} {st : Stmt} {f : Addr} {fd : FuncData} {N ps : List Str} {k : Nat} {sp : Sp} (F : Fun K x qual st f fd) (S : FnScope N ps (defScope st)) (len : ∀ vs H Q E, sp vs H Q E → vs.length = ps.length)
    (hb : ∀ (cdv : Value) (A : Around) (outer : List Env) (s : Shared) (H : Hp) (vs : List V) (Q : VK) (E : XK), Room k (A.deeper (envOfC qual (defScope st) s.heap.objs.size f cdv)) → sp vs H Q E →
      ∃ t, PSs (cxOf (L2N.CX P w) P w K mg base N qual (defScope st) f cdv A outer s H E) (defBody st) t ∧ t { nx := fun _ H' => Q .non H', rt := Q } (L2.start N vs) H) : FnOk P w K mg base (L2N.CX P w) (k + 1) f fd ps sp := by
  obtain ⟨oc, od, kV, doc, pm, an, cdv, ct, osl, rfl, lk, hcd⟩ := F.ex
  exact fn_of lk hcd S len fun A outer s H vs Q E hr hsp => hb cdv A outer s H vs Q E hr hsp
theorem takes0N {X : Cx} : L2N.Takes X (fun _ _ _ _ => False) := fun u s' x => by
  obtain ⟨a, B, sI, pins, σ, H, cls, d, _, _, _, _, _, _, _, _, z⟩ := x
  exact z.elim
theorem fn_of_body {P : Program} {w : World} {K : PySem.W.Frag} {mg : Str → Option Value} {base : Heap} {x qual : Str} {st : Stmt} {f : Addr} {fd : FuncData} {N ps : List Str} {k : Nat} {p : Pm} {m : List Sl → Mo Fl} (F : Fun K x qual st f fd) (S : FnScope N ps (defScope st))
    (hb : ∀ (cdv : Value) (A : Around) (outer : List Env) (s : Shared) (H : Hp) (E : XK), Room k (A.deeper (envOfC qual (defScope st) s.heap.objs.size f cdv)) →
      DSs ⟨cxOf (L2N.CX P w) P w K mg base N qual (defScope st) f cdv A outer s H E, p, fun cls d _ H' => E cls d H'⟩ (defBody st) m) :
    FnOk P w K mg base (L2N.CX P w) (k + 1) f fd ps (spF p (runB ps.length N.length m)) := by
  refine fnOkN F S (fun vs H Q E h => ?_) fun cdv A outer s H vs Q E hr h => ⟨_, hb cdv A outer s H E hr, ?_⟩
  · obtain ⟨L, g, as, _, ha, po⟩ := h
    unfold runB at po
    split at po
    · rename_i he
      rw [paired_len ha]
      exact Nat.eq_of_beq_eq_true he
    · exact po.elim
  · obtain ⟨L, g, as, rel, ha, po⟩ := h
    refine ⟨L, H, L, g, _, FR.start rel ha, ?_⟩
    unfold runB at po
    split at po
    case isFalse => exact po.elim
    have po := Post.bind po
    cases e : m (as ++ List.replicate (N.length - as.length) .dead) g with
    | ok r g' =>
      rw [e] at po
      cases r with
      | next Γ' => exact fun L' σ' H' fr _ => (po L' H' fr.st fr.rel).pure fr.rel .non .non
      | ret d => exact fun v L' H' st' rel' hv => (po L' H' st' rel').pure rel' v hv
    | exc i g' =>
      rw [e] at po
      exact fun L' σ' H' st' rel' => po L' H' st' rel'
    | bad => rw [e] at po; exact po
/-- the facts of a def that is called -/
structure FnD (P : Program) (w : World) (K : PySem.W.Frag) (mg : Str → Option Value) (base : Heap) (p : Pm) (k : Nat) (x : Str) (F : List Sl → Mo PD) : Prop where
  ex : ∃ f fd ps, FnOk P w K mg base (L2N.CX P w) k f fd ps (spF p F) ∧ mg x = some (.ref f) ∧ PySem.W.keepIn K (.ref f) = true ∧ Binds K fd ps []
theorem FnD.mono {P : Program} {w : World} {K : PySem.W.Frag} {mg : Str → Option Value} {base : Heap} {p : Pm} {j k : Nat} {x : Str} {F : List Sl → Mo PD} (h : FnD P w K mg base p j x F) (e : j ≤ k) : FnD P w K mg base p k x F := by
  obtain ⟨f, fd, ps, h1, h2, h3, h4⟩ := h.ex
  exact ⟨f, fd, ps, h1.mono e, h2, h3, h4⟩
/-- a mirror in other words, where it says something -/
theorem FnD.re {P : Program} {w : World} {K : PySem.W.Frag} {mg : Str → Option Value} {base : Heap} {p : Pm} {k : Nat} {x : Str} {F F' : List Sl → Mo PD} (h : FnD P w K mg base p k x F) (e : ∀ as g, F' as g = .bad ∨ F as g = F' as g) : FnD P w K mg base p k x F' := by
  obtain ⟨f, fd, ps, h1, h2, h3, h4⟩ := h.ex
  refine ⟨f, fd, ps, h1.imp fun vs H Q E q => ?_, h2, h3, h4⟩
  obtain ⟨L, g, as, rel, ha, po⟩ := q
  rcases e as g with z | z
  · rw [z] at po; exact po.elim
  · exact ⟨L, g, as, rel, ha, by rw [z]; exact po⟩
def eCallF (F : List Sl → Mo PD) (fa : List Sl → Mo (List Sl)) : List Sl → Mo PD := fun Γ => bnd (fa Γ) F
theorem de_call {x : Str} {F : List Sl → Mo PD} {e : Expr} {es : List Expr} {fa : List Sl → Mo (List Sl)} {p pos : Pos} (ok : c.Ok k) (fn : FnD c.X.prog c.X.w c.X.K c.X.mg c.X.base c.p k x F) (ha : DAs c (e :: es) fa) (hg : Gl c.X x := by rfl) (hdb : (x == ("__debug__" : Str)) = false := by decide)
    (he : starEach (e :: es) c.X.env = (false, eval e c.X.env) :: starEach es c.X.env := by rfl) (hpl : (backTo pos (starEach es c.X.env)).any (·.1) = false := by rfl) : DE c (.Call (.Name x p) (e :: es) [] pos) (eCallF F fa) := by
  obtain ⟨f, fd, ps, FO, hm, hk, hb⟩ := fn.ex
  refine PE.imp (pe_callS FO ok.rm hg hm hk hb (fun σ => L2N.passAt ok.tk σ) ha hdb he hpl) fun σ H Q q => ?_
  obtain ⟨L0, H0, L, g, Γ, fr, po⟩ := q
  have po := Post.bind po
  refine ⟨L0, H0, L, g, Γ, fr, po.mono fun as g1 L1 H1 st1 rel1 po1 vs hvs => ⟨L1, g1, as, rel1, hvs, ?_⟩⟩
  cases e2 : F as g1 with
  | ok d g2 => rw [e2] at po1; exact po1
  | exc i g2 => rw [e2] at po1; exact po1
  | bad => rw [e2] at po1; exact po1
end
end Av

namespace Av
open PySem PySem.Spec L2
open PyProof.Rows hiding St
set_option autoImplicit false
section
variable {c : Ct} {k : Nat}
/-! ### what is walked -/
def rangeL : Int → Nat → List PD
  | _, 0 => []
  | lo, n + 1 => .int lo :: rangeL (lo + 1) n
theorem rangeL_len : ∀ (n : Nat) (lo : Int), (rangeL lo n).length = n
  | 0, _ => rfl
  | n + 1, lo => by show (rangeL (lo + 1) n).length + 1 = n + 1; rw [rangeL_len n]
theorem rangeL_get : ∀ (n i : Nat) (lo : Int) (d : PD), (rangeL lo n)[i]? = some d → d = .int (lo + i)
  | 0, i, lo, d, h => by simp [rangeL] at h
  | n + 1, 0, lo, d, h => by simp [rangeL] at h; subst h; simp
  | n + 1, i + 1, lo, d, h => by
    have h' : (rangeL (lo + 1) n)[i]? = some d := by simpa [rangeL] using h
    rw [rangeL_get n i (lo + 1) d h']
    congr 1
    omega
def rOk (i : Int) : Bool := decide (-1000000 ≤ i) && decide (i ≤ 1000000)
theorem rOk_b {i : Int} (h : rOk i = true) : -1000000 ≤ i ∧ i ≤ 1000000 := by
  unfold rOk at h
  rw [Bool.and_eq_true, decide_eq_true_eq, decide_eq_true_eq] at h
  exact h
def rng1 : List PD → Option (List PD)
  | [.int j] => if rOk j = true then some (rangeL 0 j.toNat) else none
  | _ => none
def rng2 : List PD → Option (List PD)
  | [.int i, .int j] => if (rOk i && rOk j) = true then some (rangeL i (j - i).toNat) else none
  | _ => none
def iVia (h : List PD → Option (List PD)) (f : List Sl → Mo (List PD)) : List Sl → Mo (List PD) := fun Γ => bnd (f Γ) fun ds => lift (h ds)
theorem walkD_range {p : Pm} {wk : Bool} {S : Hp} {lo : Int} {n : Nat} : WalkD p wk S (Itr lo n) (rangeL lo n) where
  go := fun i L g H h _ _ => by rw [rangeL_len] at h; exact h
  stop := fun L g H _ _ => by rw [rangeL_len]; exact Nat.le_refl _
  yld := fun i d L g H x H' hd _ rel y => by
    obtain ⟨rfl, rfl⟩ := y
    cases rangeL_get n i lo d hd
    exact ⟨L, Stp.refl rel, rel, .inl (.int _)⟩
theorem di_range1 {tg a : Expr} {f : List Sl → Mo (List PD)} {p pos : Pos} (hm : c.X.mg "range" = none) (ha : DA c [a] f) (hg : Gl c.X "range" := by rfl) (hs : starEach [a] c.X.env = [(false, eval a c.X.env)] := by rfl) : DI c tg (.Call (.Name "range" p) [a] [] pos) (iVia rng1 f) :=
  PI.imp (pi_range1 hg hm ha hs) fun σ H R q => by
    obtain ⟨L0, H0, L, g, Γ, fr, po⟩ := q
    have po := Post.bind po
    refine ⟨L0, H0, L, g, Γ, fr, po.mono fun ds g1 L1 H1 st1 rel1 po1 vs hvs => ?_⟩
    obtain ⟨z, hz, po1⟩ := po1.lift rel1
    have po1 := po1 L1 H1 (Stp.refl rel1) rel1
    match ds, hz with
    | [.int j], hz =>
      obtain ⟨hb, rfl⟩ := if_some hz
      have b := rOk_b hb
      cases hvs with
      | cons hv ht =>
        cases ht
        cases hv
        exact ⟨j, rfl, by omega, by omega, po1 _ walkD_range⟩
theorem di_range2 {tg a b : Expr} {f : List Sl → Mo (List PD)} {p pos : Pos} (hm : c.X.mg "range" = none) (ha : DA c [a, b] f) (hg : Gl c.X "range" := by rfl) (hs : starEach [a, b] c.X.env = [(false, eval a c.X.env), (false, eval b c.X.env)] := by rfl) (hs2 : starEach [b] c.X.env = [(false, eval b c.X.env)] := by rfl) : DI c tg (.Call (.Name "range" p) [a, b] [] pos) (iVia rng2 f) :=
  PI.imp (pi_range2 hg hm ha hs hs2) fun σ H R q => by
    obtain ⟨L0, H0, L, g, Γ, fr, po⟩ := q
    have po := Post.bind po
    refine ⟨L0, H0, L, g, Γ, fr, po.mono fun ds g1 L1 H1 st1 rel1 po1 vs hvs => ?_⟩
    obtain ⟨z, hz, po1⟩ := po1.lift rel1
    have po1 := po1 L1 H1 (Stp.refl rel1) rel1
    match ds, hz with
    | [.int i, .int j], hz =>
      obtain ⟨hb, rfl⟩ := if_some hz
      rw [Bool.and_eq_true] at hb
      have b := rOk_b hb.1
      have b2 := rOk_b hb.2
      cases hvs with
      | cons hv ht =>
        cases ht with
        | cons hv2 ht =>
          cases ht
          cases hv
          cases hv2
          exact ⟨i, j, rfl, ⟨by omega, by omega, by omega, by omega⟩, po1 _ walkD_range⟩
theorem walkD_list {p : Pm} {wk : Bool} {K : PySem.W.Frag} {S : Hp} {a : Addr} {xs : List V} {ds : List PD} (hS : S a = some (.lst xs)) (hA : DqA S xs ds) : WalkD p wk S (Itl K a) ds where
  go := fun i L g H h ss rel => by
    have hl : i < xs.length := by rw [hA.len]; exact h
    exact ⟨xs, xs[i], SqL.of (rel.s _ _ (ss _ _ hS)), List.getElem?_eq_getElem hl⟩
  stop := fun L g H ss rel => ⟨xs, SqL.of (rel.s _ _ (ss _ _ hS)), by rw [hA.len]; exact Nat.le_refl _⟩
  yld := fun i d L g H x H' hd ss rel y => by
    obtain ⟨rfl, y⟩ := y
    obtain ⟨v, hv, hq⟩ := hA.get hd
    have e := y xs (SqL.of (rel.s _ _ (ss _ _ hS)))
    rw [hv] at e
    cases e
    exact ⟨L, Stp.refl rel, rel, .inl (hq.mono ss)⟩
theorem walkD_tup {p : Pm} {wk : Bool} {K : PySem.W.Frag} {S : Hp} {a : Addr} {xs : List V} {ds : List PD} {o : Obj} (hS : S a = some (.frz o (.tup xs))) (hA : DqA S xs ds) : WalkD p wk S (Itt K a) ds where
  go := fun i L g H h ss rel => by
    have hl : i < xs.length := by rw [hA.len]; exact h
    exact ⟨xs, xs[i], SqTF (rel.s _ _ (ss _ _ hS)), List.getElem?_eq_getElem hl⟩
  stop := fun L g H ss rel => ⟨xs, SqTF (rel.s _ _ (ss _ _ hS)), by rw [hA.len]; exact Nat.le_refl _⟩
  yld := fun i d L g H x H' hd ss rel y => by
    obtain ⟨rfl, y⟩ := y
    obtain ⟨v, hv, hq⟩ := hA.get hd
    have e := y xs (SqTF (rel.s _ _ (ss _ _ hS)))
    rw [hv] at e
    cases e
    exact ⟨L, Stp.refl rel, rel, .inl (hq.mono ss)⟩
def charsD (x : Str) : List PD := x.cps.toList.map fun n => .str ⟨#[n]⟩
theorem walkD_str {p : Pm} {wk : Bool} {S : Hp} {x : Str} : WalkD p wk S (Its x) (charsD x) where
  go := fun i L g H h _ _ => by
    have h' : i < x.cps.size := by simpa [charsD] using h
    exact h'
  stop := fun L g H _ _ => by
    have : (charsD x).length = x.cps.size := by simp [charsD]
    rw [this]
    exact Nat.le_refl _
  yld := fun i d L g H v H' hd _ rel y => by
    obtain ⟨rfl, n, hn, rfl⟩ := y
    have e : d = .str ⟨#[n]⟩ := by
      unfold charsD at hd
      rw [List.getElem?_map, Array.getElem?_toList, hn] at hd
      exact (Option.some.inj hd).symm
    subst e
    exact ⟨L, Stp.refl rel, rel, .inl (.str _)⟩
def itemsD : PD → Option (List PD)
  | .list ds => some ds
  | .tuple ds => some ds
  | .str x => some (charsD x)
  | _ => none
def iSeq (f : List Sl → Mo PD) : List Sl → Mo (List PD) := fun Γ => bnd (f Γ) fun d => lift (itemsD d)
theorem PI.or {X : Cx} {tg e : Expr} {t t' : TI} (h : PI X tg e t) (h' : PI X tg e t') : PI X tg e (fun σ H R => t σ H R ∨ t' σ H R) :=
  ⟨fun pins s σ H R I q => q.elim (h.run pins s σ H R I) (h'.run pins s σ H R I)⟩
theorem di_seq {tg e : Expr} {f : List Sl → Mo PD} (h : DE c e f) : DI c tg e (iSeq f) :=
  PI.imp (PI.or (pi_list h) (PI.or (pi_tup h) (pi_str h))) fun σ H R q => by
    obtain ⟨L0, H0, L, g, Γ, fr, po⟩ := q
    have po := Post.bind po
    cases e : f Γ g with
    | bad => rw [e] at po; exact po.elim
    | exc i g1 => rw [e] at po; exact .inl ⟨L0, H0, L, g, Γ, fr, by rw [e]; exact po⟩
    | ok d g1 =>
      rw [e] at po
      cases d with
      | list ds =>
        refine .inl ⟨L0, H0, L, g, Γ, fr, ?_⟩
        rw [e]
        intro L1 H1 st1 rel1 v hv
        have po1 := (po L1 H1 st1 rel1).pure rel1
        cases hv with
        | lst hS hA => exact ⟨_, rfl, ⟨_, SqL.of (rel1.s _ _ hS)⟩, po1 _ (walkD_list hS hA)⟩
      | tuple ds =>
        refine .inr (.inl ⟨L0, H0, L, g, Γ, fr, ?_⟩)
        rw [e]
        intro L1 H1 st1 rel1 v hv
        have po1 := (po L1 H1 st1 rel1).pure rel1
        cases hv with
        | tup hS hA hN => exact ⟨_, rfl, ⟨_, SqTF (rel1.s _ _ hS)⟩, po1 _ (walkD_tup hS hA)⟩
      | str x =>
        refine .inr (.inr ⟨L0, H0, L, g, Γ, fr, ?_⟩)
        rw [e]
        intro L1 H1 st1 rel1 v hv
        have po1 := (po L1 H1 st1 rel1).pure rel1
        cases hv
        exact ⟨x, rfl, po1 _ walkD_str⟩
      | none => exact .inl ⟨L0, H0, L, g, Γ, fr, by rw [e]; exact fun L1 H1 st1 rel1 v _ => (po L1 H1 st1 rel1).elim⟩
      | bool _ => exact .inl ⟨L0, H0, L, g, Γ, fr, by rw [e]; exact fun L1 H1 st1 rel1 v _ => (po L1 H1 st1 rel1).elim⟩
      | int _ => exact .inl ⟨L0, H0, L, g, Γ, fr, by rw [e]; exact fun L1 H1 st1 rel1 v _ => (po L1 H1 st1 rel1).elim⟩
      | dict _ => exact .inl ⟨L0, H0, L, g, Γ, fr, by rw [e]; exact fun L1 H1 st1 rel1 v _ => (po L1 H1 st1 rel1).elim⟩
/-! ### operators on data -/
def int2 (h : Int → Int → Option PD) : PD → PD → Option PD
  | .int i, .int j => h i j
  | _, _ => none
theorem int2_some {h : Int → Int → Option PD} {d e z : PD} (q : int2 h d e = some z) : ∃ i j, d = .int i ∧ e = .int j ∧ h i j = some z := by
  match d, e, q with
  | .int i, .int j, q => exact ⟨i, j, rfl, rfl, q⟩
theorem ops_I0 {g : Int → Int → V} {h : Int → Int → PD} (hq : ∀ i j S, Dq S (g i j) (h i j)) : OpS c (rI0 g) (int2 fun i j => some (h i j)) := fun L gs H x y d e z Q rel hx hy hz k => by
  obtain ⟨i, j, rfl, rfl, hz⟩ := int2_some hz
  cases hz
  cases hx
  cases hy
  exact ⟨i, j, rfl, rfl, k _ L H (Stp.refl rel) rel (hq i j _)⟩
theorem ops_I {C : Int → Int → Prop} {cb : Int → Int → Bool} {g : Int → Int → V} {h : Int → Int → PD} (hc : ∀ i j, cb i j = true → C i j) (hq : ∀ i j S, Dq S (g i j) (h i j)) : OpS c (rI C g) (int2 fun i j => if cb i j = true then some (h i j) else none) := fun L gs H x y d e z Q rel hx hy hz k => by
  obtain ⟨i, j, rfl, rfl, hz⟩ := int2_some hz
  obtain ⟨hb, rfl⟩ := if_some hz
  cases hx
  cases hy
  exact ⟨i, j, rfl, rfl, hc i j hb, k _ L H (Stp.refl rel) rel (hq i j _)⟩
def subD : PD → PD → Option PD := int2 fun i j => some (.int (i - j))
theorem ops_sub : OpS c (rI0 fun i j => .int (i - j)) subD := ops_I0 fun i j _ => .int _
def fdivB (_ j : Int) : Bool := decide (0 < j) && decide (j < 1073741824)
def fdivD : PD → PD → Option PD := int2 fun i j => if fdivB i j = true then some (.int (i / j)) else none
theorem ops_fdiv : OpS c (rI CDiv fun i j => .int (i / j)) fdivD := ops_I (fun i j h => by
  unfold fdivB at h
  rw [Bool.and_eq_true, decide_eq_true_eq, decide_eq_true_eq] at h
  exact h) fun i j _ => .int _
def modB (_ j : Int) : Bool := decide (0 < j)
def modD : PD → PD → Option PD := int2 fun i j => if modB i j = true then some (.int (i % j)) else none
theorem ops_mod : OpS c (rI (fun _ j => 0 < j) fun i j => .int (i % j)) modD := ops_I (fun i j h => of_decide_eq_true h) fun i j _ => .int _
def powB (i j : Int) : Bool := decide (0 ≤ j) && decide (j ≤ 100) && decide (i.natAbs < 18446744073709551616)
def powD : PD → PD → Option PD := int2 fun i j => if powB i j = true then some (.int (i ^ j.toNat)) else none
theorem ops_pow : OpS c (rI CPow fun i j => .int (i ^ j.toNat)) powD := ops_I (fun i j h => by
  unfold powB at h
  rw [Bool.and_eq_true, Bool.and_eq_true, decide_eq_true_eq, decide_eq_true_eq, decide_eq_true_eq] at h
  exact ⟨h.1.1, by omega, h.2⟩) fun i j _ => .int _
theorem de_sub {a b : Expr} {fa fb : List Sl → Mo PD} {pos : Pos} (ha : DE c a fa) (hb : DE c b fb) : DE c (.BinOp a .Sub b pos) (eBin subD fa fb) := de_bin op_sub ops_sub ha hb
theorem de_fdiv {a b : Expr} {fa fb : List Sl → Mo PD} {pos : Pos} (ha : DE c a fa) (hb : DE c b fb) : DE c (.BinOp a .FloorDiv b pos) (eBin fdivD fa fb) := de_bin op_fdiv ops_fdiv ha hb
theorem de_mod {a b : Expr} {fa fb : List Sl → Mo PD} {pos : Pos} (ha : DE c a fa) (hb : DE c b fb) : DE c (.BinOp a .Mod b pos) (eBin modD fa fb) := de_bin op_mod ops_mod ha hb
theorem de_pow {a b : Expr} {fa fb : List Sl → Mo PD} {pos : Pos} (ha : DE c a fa) (hb : DE c b fb) : DE c (.BinOp a .Pow b pos) (eBin powD fa fb) := de_bin op_pow ops_pow ha hb
/-! + : ints, texts, tuples, lists -/
def addD : PD → PD → Option PD
  | .int i, .int j => some (.int (i + j))
  | .str x, .str y => if small (x.length + y.length) = true then some (.str (x ++ y)) else none
  | .tuple xs, .tuple ys => if small (xs.length + ys.length) = true then some (.tuple (xs ++ ys)) else none
  | .list xs, .list ys => if small (xs.length + ys.length) = true then some (.list (xs ++ ys)) else none
  | _, _ => none
def rAddA (K : PySem.W.Frag) : R2 := fun x y H Q => rI0 (fun i j => .int (i + j)) x y H Q ∨ (∃ i j, x = .str i ∧ y = .str j ∧ i.length + j.length ≤ sizeLine ∧ Q (.str (i ++ j)) H) ∨ rCatF K x y H Q ∨ rCat x y H Q
theorem op_addA {X : Cx} : OpR X (binaryOp .Add) (rAddA X.K) := op_add.or (op_add_str.or (op_catF.or op_cat))
theorem ops_add (hK : c.p.K = c.X.K) : OpS c (rAddA c.X.K) addD := fun L gs H x y d e z Q rel hx hy hz k => by
  match d, e, hz with
  | .int i, .int j, hz =>
    cases hz
    cases hx
    cases hy
    exact .inl ⟨i, j, rfl, rfl, k _ L H (Stp.refl rel) rel (.int _)⟩
  | .str a, .str b, hz =>
    obtain ⟨hb, rfl⟩ := if_some hz
    cases hx
    cases hy
    exact .inr (.inl ⟨a, b, rfl, rfl, small_le hb, k _ L H (Stp.refl rel) rel (.str _)⟩)
  | .tuple as, .tuple bs, hz =>
    obtain ⟨hb, rfl⟩ := if_some hz
    cases hx with
    | tup hS hA hN =>
      cases hy with
      | tup hS' hA' hN' =>
        rename_i a _ xs b _ ys
        have la := hA.len
        have lb := hA'.len
        refine .inr (.inr (.inl ⟨a, b, xs, ys, rfl, rfl, SqTF (rel.s _ _ hS), SqTF (rel.s _ _ hS'), by rw [la, lb]; exact small_le hb, fun e => ?_, fun _ e => ?_, fun _ _ q o hq hN => ?_⟩))
        · subst e
          cases hA
          exact k _ L H (Stp.refl rel) rel (.tup hS' hA' hN')
        · subst e
          cases hA'
          rw [List.append_nil] at k
          exact k _ L H (Stp.refl rel) rel (.tup hS hA hN)
        · exact k _ _ _ (Stp.new rel hq) (rel.new hq) (.tup upd_same ((hA.app hA').mono (same_new (rel.sq hq))) hN)
  | .list as, .list bs, hz =>
    obtain ⟨hb, rfl⟩ := if_some hz
    cases hx with
    | lst hS hA =>
      cases hy with
      | lst hS' hA' =>
        rename_i a xs b ys
        have la := hA.len
        have lb := hA'.len
        refine .inr (.inr (.inr ⟨a, b, xs, ys, rfl, rfl, rel.s _ _ hS, rel.s _ _ hS', by rw [la, lb]; exact small_le hb, fun q hq => ?_⟩))
        exact k _ _ _ (Stp.new rel hq) (rel.new hq) (.lst upd_same ((hA.app hA').mono (same_new (rel.sq hq))))
theorem de_add {a b : Expr} {fa fb : List Sl → Mo PD} {pos : Pos} (ok : c.Ok k) (ha : DE c a fa) (hb : DE c b fb) : DE c (.BinOp a .Add b pos) (eBin addD fa fb) := de_bin op_addA (ops_add ok.K) ha hb
/-! * : ints; a list by an int -/
def mulB (i j : Int) : Bool := (decide (-18446744073709551616 < i) && decide (i < 18446744073709551616)) || (decide (-18446744073709551616 < j) && decide (j < 18446744073709551616))
theorem mulB_ok {i j : Int} (h : mulB i j = true) : CMul i j := by
  unfold mulB at h
  rw [Bool.or_eq_true, Bool.and_eq_true, Bool.and_eq_true, decide_eq_true_eq, decide_eq_true_eq, decide_eq_true_eq, decide_eq_true_eq] at h
  exact h
def mulD : PD → PD → Option PD
  | .int i, .int j => if mulB i j = true then some (.int (i * j)) else none
  | .list xs, .int j => if (decide (0 ≤ j) && decide (j ≤ 1000) && Nat.ble xs.length 1000) = true then some (.list (List.replicate j.toNat xs).flatten) else none
  | _, _ => none
def rMulA : R2 := fun x y H Q => rI CMul (fun i j => .int (i * j)) x y H Q ∨ rRep x y H Q
theorem op_mulA {X : Cx} : OpR X (binaryOp .Mult) rMulA := op_mul.or op_rep
theorem ops_mul : OpS c rMulA mulD := fun L gs H x y d e z Q rel hx hy hz k => by
  match d, e, hz with
  | .int i, .int j, hz =>
    obtain ⟨hb, rfl⟩ := if_some hz
    cases hx
    cases hy
    exact .inl ⟨i, j, rfl, rfl, mulB_ok hb, k _ L H (Stp.refl rel) rel (.int _)⟩
  | .list as, .int j, hz =>
    obtain ⟨hb, rfl⟩ := if_some hz
    rw [Bool.and_eq_true, Bool.and_eq_true, decide_eq_true_eq, decide_eq_true_eq] at hb
    obtain ⟨⟨h1, h2⟩, h3⟩ := hb
    have h3 := Nat.le_of_ble_eq_true h3
    cases hy
    cases hx with
    | lst hS hA =>
      rename_i a xs
      have la := hA.len
      have hm : xs.length * j.toNat ≤ 1000 * 1000 := Nat.mul_le_mul (by omega) (by omega)
      refine .inr ⟨a, j, xs, rfl, rfl, rel.s _ _ hS, by omega, by omega, by rw [sizeLine_eq]; omega, fun q hq => ?_⟩
      exact k _ _ _ (Stp.new rel hq) (rel.new hq) (.lst upd_same ((hA.rep _).mono (same_new (rel.sq hq))))
theorem de_mul {a b : Expr} {fa fb : List Sl → Mo PD} {pos : Pos} (ha : DE c a fa) (hb : DE c b fb) : DE c (.BinOp a .Mult b pos) (eBin mulD fa fb) := de_bin op_mulA ops_mul ha hb
/-! ### comparisons -/
def leD : PD → PD → Option PD := int2 fun i j => some (.bool (decide (i ≤ j)))
def gtD : PD → PD → Option PD := int2 fun i j => some (.bool (decide (j < i)))
def geD : PD → PD → Option PD := int2 fun i j => some (.bool (decide (j ≤ i)))
theorem ops_le : OpS c (rI0 fun i j => .bl (decide (i ≤ j))) leD := ops_I0 fun i j _ => .bl _
theorem ops_gt : OpS c (rI0 fun i j => .bl (decide (j < i))) gtD := ops_I0 fun i j _ => .bl _
theorem ops_ge : OpS c (rI0 fun i j => .bl (decide (j ≤ i))) geD := ops_I0 fun i j _ => .bl _
def intsD : List PD → Option (List Int)
  | [] => some []
  | .int i :: r => (intsD r).map (i :: ·)
  | _ :: _ => none
theorem intsD_some : ∀ {ds : List PD} {ns : List Int}, intsD ds = some ns → ds = ns.map PyData.int
  | [], ns, h => by cases h; rfl
  | .int i :: r, ns, h => by
    obtain ⟨m, hm, rfl⟩ := Option.map_eq_some_iff.mp h
    rw [intsD_some hm]
    rfl
  | .none :: _, _, h => by cases h
  | .bool _ :: _, _, h => by cases h
  | .str _ :: _, _, h => by cases h
  | .list _ :: _, _, h => by cases h
  | .tuple _ :: _, _, h => by cases h
  | .dict _ :: _, _, h => by cases h
theorem DqA.ints {S : Hp} : ∀ {vs : List V} {ns : List Int}, DqA S vs (ns.map PyData.int) → vs = ns.map V.int
  | _, [], .nil => rfl
  | _, n :: ns, .cons (.int _) r => by rw [DqA.ints r]; rfl
def lt2 : Option (List Int) → Option (List Int) → Option PD
  | some a, some b => some (.bool (HT.lexLt a b))
  | _, _ => none
def ltD : PD → PD → Option PD
  | .int i, .int j => some (.bool (decide (i < j)))
  | .tuple xs, .tuple ys => lt2 (intsD xs) (intsD ys)
  | _, _ => none
def rLtA (K : PySem.W.Frag) : R2 := fun x y H Q => rI0 (fun i j => .bl (decide (i < j))) x y H Q ∨ rLtT K x y H Q
theorem op_ltA {X : Cx} (hu : X.A.units < cLine) : OpR X (compareOp .Lt) (rLtA X.K) := op_lt.or (op_ltT hu)
theorem ops_lt : OpS c (rLtA c.X.K) ltD := fun L gs H x y d e z Q rel hx hy hz k => by
  match d, e, hz with
  | .int i, .int j, hz =>
    cases hz
    cases hx
    cases hy
    exact .inl ⟨i, j, rfl, rfl, k _ L H (Stp.refl rel) rel (.bl _)⟩
  | .tuple as, .tuple bs, hz =>
    have hz : lt2 (intsD as) (intsD bs) = some z := hz
    cases ea : intsD as with
    | none => rw [ea] at hz; cases hz
    | some a =>
      cases eb : intsD bs with
      | none => rw [ea, eb] at hz; cases hz
      | some b =>
        rw [ea, eb] at hz
        cases hz
        cases intsD_some ea
        cases intsD_some eb
        cases hx with
        | tup hS hA hN =>
          cases hy with
          | tup hS' hA' hN' =>
            rw [hA.ints] at hS
            rw [hA'.ints] at hS'
            exact .inr ⟨_, _, a, b, rfl, rfl, SqTF (rel.s _ _ hS), SqTF (rel.s _ _ hS'), k _ L H (Stp.refl rel) rel (.bl _)⟩
def eqD (d e : PD) : Option PD := if (SeqAt.shaped d && SeqAt.shaped e) = true then some (.bool (PyData.eqv d e)) else none
def neD (d e : PD) : Option PD := if (SeqAt.shaped d && SeqAt.shaped e) = true then some (.bool (!PyData.eqv d e)) else none
theorem ops_eq {K : PySem.W.Frag} : OpS c (rEqD K) eqD := fun L gs H x y d e z Q rel hx hy hz k => by
  obtain ⟨hb, rfl⟩ := if_some hz
  rw [Bool.and_eq_true] at hb
  exact ⟨d, e, (hx.mono rel.s).dp, (hy.mono rel.s).dp, hb.1, hb.2, k _ L H (Stp.refl rel) rel (.bl _)⟩
theorem ops_ne {K : PySem.W.Frag} : OpS c (rNeD K) neD := fun L gs H x y d e z Q rel hx hy hz k => by
  obtain ⟨hb, rfl⟩ := if_some hz
  rw [Bool.and_eq_true] at hb
  exact ⟨d, e, (hx.mono rel.s).dp, (hy.mono rel.s).dp, hb.1, hb.2, k _ L H (Stp.refl rel) rel (.bl _)⟩
def isNone : PD → Bool
  | .none => true
  | _ => false
def isD : PD → PD → Option PD
  | .bool a, .bool b => some (.bool (decide (a = b)))
  | d, .none => some (.bool (isNone d))
  | _, _ => none
def isNotD : PD → PD → Option PD
  | .bool a, .bool b => some (.bool (!decide (a = b)))
  | d, .none => some (.bool (!isNone d))
  | _, _ => none
theorem non_iff {S : Hp} {x : V} {d : PD} (h : Dq S x d) : decide (x = .non) = isNone d := by
  cases h <;> rfl
def rIsA : R2 := fun x y H Q => (∃ a b, x = .bl a ∧ y = .bl b ∧ Q (.bl (decide (a = b))) H) ∨ (y = .non ∧ Q (.bl (decide (x = .non))) H)
def rIsNotA : R2 := fun x y H Q => (∃ a b, x = .bl a ∧ y = .bl b ∧ Q (.bl (!decide (a = b))) H) ∨ (y = .non ∧ Q (.bl (!decide (x = .non))) H)
theorem op_isA {X : Cx} : OpR X (compareOp .Is) rIsA := op_is_bl.or op_isN
theorem op_isNotA {X : Cx} : OpR X (compareOp .IsNot) rIsNotA := op_isnot_bl.or op_notN
theorem ops_is : OpS c rIsA isD := fun L gs H x y d e z Q rel hx hy hz k => by
  cases hy with
  | bl b =>
    cases hx with
    | bl a => cases hz; exact .inl ⟨a, b, rfl, rfl, k _ L H (Stp.refl rel) rel (.bl _)⟩
    | non => cases hz
    | int _ => cases hz
    | str _ => cases hz
    | lst _ _ => cases hz
    | tup _ _ _ => cases hz
  | non =>
    refine .inr ⟨rfl, ?_⟩
    rw [non_iff hx]
    have e : z = .bool (isNone d) := by
      cases d <;> cases hz <;> rfl
    subst e
    exact k _ L H (Stp.refl rel) rel (.bl _)
  | int _ => cases hx <;> cases hz
  | str _ => cases hx <;> cases hz
  | lst _ _ => cases hx <;> cases hz
  | tup _ _ _ => cases hx <;> cases hz
theorem ops_isNot : OpS c rIsNotA isNotD := fun L gs H x y d e z Q rel hx hy hz k => by
  cases hy with
  | bl b =>
    cases hx with
    | bl a => cases hz; exact .inl ⟨a, b, rfl, rfl, k _ L H (Stp.refl rel) rel (.bl _)⟩
    | non => cases hz
    | int _ => cases hz
    | str _ => cases hz
    | lst _ _ => cases hz
    | tup _ _ _ => cases hz
  | non =>
    refine .inr ⟨rfl, ?_⟩
    rw [non_iff hx]
    have e : z = .bool (!isNone d) := by
      cases d <;> cases hz <;> rfl
    subst e
    exact k _ L H (Stp.refl rel) rel (.bl _)
  | int _ => cases hx <;> cases hz
  | str _ => cases hx <;> cases hz
  | lst _ _ => cases hx <;> cases hz
  | tup _ _ _ => cases hx <;> cases hz
/-! ### subscripts -/
def ixD : PD → PD → Option PD
  | .list ds, .int i => atI ds i
  | .tuple ds, .int i => atI ds i
  | .str x, .int i => if small x.length = true then (atI x.cps.toList i).map fun n => .str ⟨#[n]⟩ else none
  | _, _ => none
theorem DqA.atI {S : Hp} {vs : List V} {ds : List PD} {i : Int} {d : PD} (h : DqA S vs ds) (e : L2.atI ds i = some d) : ∃ v, L2.atI vs i = some v ∧ Dq S v d := by
  unfold L2.atI at e ⊢
  obtain ⟨j, hj, e⟩ := Option.bind_eq_some_iff.mp e
  obtain ⟨v, hv, hq⟩ := h.get e
  rw [h.len, hj]
  exact ⟨v, hv, hq⟩
theorem ops_ix : OpS c (rIx c.X.K) ixD := fun L gs H x y d e z Q rel hx hy hz k => by
  match d, e, hz with
  | .list ds, .int i, hz =>
    cases hy
    cases hx with
    | lst hS hA =>
      obtain ⟨v, hv, hq⟩ := hA.atI hz
      exact .inl ⟨_, _, i, v, rfl, rfl, SqL.of (rel.s _ _ hS), hv, k _ L H (Stp.refl rel) rel hq⟩
  | .tuple ds, .int i, hz =>
    cases hy
    cases hx with
    | tup hS hA hN =>
      obtain ⟨v, hv, hq⟩ := hA.atI hz
      exact .inr (.inl ⟨_, _, i, v, rfl, rfl, SqTF (rel.s _ _ hS), hv, k _ L H (Stp.refl rel) rel hq⟩)
  | .str x, .int i, hz =>
    cases hy
    cases hx
    have hz : (if small x.length = true then (atI x.cps.toList i).map fun n => PyData.str ⟨#[n]⟩ else none) = some z := hz
    cases hs : small x.length with
    | true =>
      rw [hs, if_pos rfl] at hz
      obtain ⟨n, hn, rfl⟩ := Option.map_eq_some_iff.mp hz
      exact .inr (.inr ⟨x, i, n, rfl, rfl, small_le hs, hn, k _ L H (Stp.refl rel) rel (.str _)⟩)
    | false =>
      rw [hs, if_neg Bool.false_ne_true] at hz
      cases hz
theorem de_ix {a b : Expr} {fa fb : List Sl → Mo PD} {pos : Pos} (ha : DE c a fa) (hb : DE c b fb) (hs : PlainIx b := by exact fun _ _ => rfl) : DE c (.Subscript a b pos) (eBin ixD fa fb) :=
  PE.imp (pe_ix ix_seq ha hb hs) fun _ _ _ q => bin_of ops_ix q
/-! ### built-ins -/
def lenD : List PD → Option PD
  | [.list ds] => some (.int ds.length)
  | [.tuple ds] => some (.int ds.length)
  | [.str x] => if small x.length = true then some (.int x.length) else none
  | _ => none
def rLenA (K : PySem.W.Frag) : List V → Hp → VK → Prop := fun xs H Q => (∃ p ys, xs = [.ref p] ∧ (SqL K H p ys ∨ SqT K H p ys) ∧ Q (.int ys.length) H) ∨ ∃ z, xs = [.str z] ∧ z.length ≤ sizeLine ∧ Q (.int z.length) H
theorem call_lenA {X : Cx} : CallR X (.builtin "len") (rLenA X.K) := call_len_seq.or call_len_str
theorem calls_len : CallS c (rLenA c.X.K) lenD := fun L g H vs ds z Q rel hvs hz k => by
  match ds, hz with
  | [.list ds], hz =>
    cases hz
    cases hvs with
    | cons hv ht =>
      cases ht
      cases hv with
      | lst hS hA => exact .inl ⟨_, _, rfl, .inl (SqL.of (rel.s _ _ hS)), by rw [hA.len]; exact k _ L H (Stp.refl rel) rel (.int _)⟩
  | [.tuple ds], hz =>
    cases hz
    cases hvs with
    | cons hv ht =>
      cases ht
      cases hv with
      | tup hS hA hN => exact .inl ⟨_, _, rfl, .inr (SqTF (rel.s _ _ hS)), by rw [hA.len]; exact k _ L H (Stp.refl rel) rel (.int _)⟩
  | [.str x], hz =>
    obtain ⟨hs, rfl⟩ := if_some hz
    cases hvs with
    | cons hv ht =>
      cases ht
      cases hv
      exact .inr ⟨x, rfl, small_le hs, k _ L H (Stp.refl rel) rel (.int _)⟩
theorem de_len {e : Expr} {f : List Sl → Mo PD} {p pos : Pos} (hm : c.X.mg "len" = none) (h : DE c e f) (hg : Gl c.X "len" := by rfl) (hs : starEach [e] c.X.env = (false, eval e c.X.env) :: starEach [] c.X.env := by rfl) (hpl : (backTo pos (starEach [] c.X.env)).any (·.1) = false := by rfl) :
    DE c (.Call (.Name "len" p) [e] [] pos) (eCall lenD (aCons f aNil)) := de_callB call_lenA calls_len hm PySem.boot_len (da_cons h da_nil hs) hg (by decide) (by decide) hs hpl
def sumD : List PD → Option PD
  | [.list ds] => (intsD ds).map fun ns => .int ns.sum
  | _ => none
theorem calls_sum : CallS c (rSum c.X.K) sumD := fun L g H vs ds z Q rel hvs hz k => by
  match ds, hz with
  | [.list ds], hz =>
    obtain ⟨ns, hn, rfl⟩ := Option.map_eq_some_iff.mp hz
    cases intsD_some hn
    cases hvs with
    | cons hv ht =>
      cases ht
      cases hv with
      | lst hS hA =>
        rw [hA.ints] at hS
        exact ⟨_, ns, rfl, SqL.of (rel.s _ _ hS), k _ L H (Stp.refl rel) rel (.int _)⟩
def mm2D (lt : Bool) : List PD → Option PD
  | [.int i, .int j] => some (.int (if (if lt then decide (j < i) else decide (j > i)) = true then j else i))
  | _ => none
theorem calls_min2 : CallS c (fun xs H Q => ∃ i j, xs = [.int i, .int j] ∧ Q (.int (if j < i then j else i)) H) (mm2D true) := fun L g H vs ds z Q rel hvs hz k => by
  match ds, hz with
  | [.int i, .int j], hz =>
    cases hz
    cases hvs with
    | cons hv ht =>
      cases ht with
      | cons hv2 ht =>
        cases ht
        cases hv
        cases hv2
        refine ⟨i, j, rfl, ?_⟩
        have e : (if j < i then j else i) = (if (if true = true then decide (j < i) else decide (j > i)) = true then j else i) := by simp
        rw [e]
        exact k _ L H (Stp.refl rel) rel (.int _)
theorem calls_max2 : CallS c (fun xs H Q => ∃ i j, xs = [.int i, .int j] ∧ Q (.int (if j > i then j else i)) H) (mm2D false) := fun L g H vs ds z Q rel hvs hz k => by
  match ds, hz with
  | [.int i, .int j], hz =>
    cases hz
    cases hvs with
    | cons hv ht =>
      cases ht with
      | cons hv2 ht =>
        cases ht
        cases hv
        cases hv2
        refine ⟨i, j, rfl, ?_⟩
        have e : (if j > i then j else i) = (if (if false = true then decide (j < i) else decide (j > i)) = true then j else i) := by simp
        rw [e]
        exact k _ L H (Stp.refl rel) rel (.int _)
/-! isinstance(e, T), T a built-in type -/
def tyD : PD → Option String
  | .none => some "NoneType"
  | .bool _ => some "bool"
  | .int _ => some "int"
  | .str _ => some "str"
  | .list _ => some "list"
  | .tuple _ => some "tuple"
  | .dict _ => none
def isiT (T : String) : List (String × Bool) := if T = "int" then [("NoneType", false), ("bool", true), ("int", true), ("str", false), ("list", false), ("tuple", false)]
  else if T = "bool" then [("NoneType", false), ("bool", true), ("int", false), ("str", false), ("list", false), ("tuple", false)]
  else if T = "tuple" then [("NoneType", false), ("bool", false), ("int", false), ("str", false), ("list", false), ("tuple", true)]
  else if T = "str" then [("NoneType", false), ("bool", false), ("int", false), ("str", true), ("list", false), ("tuple", false)]
  else if T = "list" then [("NoneType", false), ("bool", false), ("int", false), ("str", false), ("list", true), ("tuple", false)] else []
inductive IsiT where
  | int | bool | tuple | str | list
def IsiT.name : IsiT → String
  | .int => "int"
  | .bool => "bool"
  | .tuple => "tuple"
  | .str => "str"
  | .list => "list"
def isiD : IsiT → PD → Option Bool
  | .int, .int _ => some true
  | .int, .bool _ => some true
  | .bool, .bool _ => some true
  | .tuple, .tuple _ => some true
  | .str, .str _ => some true
  | .list, .list _ => some true
  | _, .dict _ => none
  | _, _ => some false
theorem dq_ty {K : PySem.W.Frag} {H : Hp} {v : V} {d : PD} (h : Dq H v d) : ∃ t, tyD d = some t ∧ TyX K H v (.type t) := by
  cases h with
  | non => exact ⟨_, rfl, .base .non⟩
  | bl b => exact ⟨_, rfl, .base (.bl b)⟩
  | int i => exact ⟨_, rfl, .base (.int i)⟩
  | str x => exact ⟨_, rfl, .base (.str x)⟩
  | lst hS hA => exact ⟨_, rfl, .base (.lst hS)⟩
  | tup hS hA hN => exact ⟨_, rfl, .fTuple hS⟩
theorem isi_kit {T : IsiT} {d : PD} {b : Bool} {t : String} (h : isiD T d = some b) (ht : tyD d = some t) : kitB t T.name = some b := by
  cases T <;> cases d <;> cases h <;> cases ht <;> decide +kernel
def eIsi (T : IsiT) (f : List Sl → Mo PD) : List Sl → Mo PD := fun Γ => bnd (f Γ) fun d => lift ((isiD T d).map PyData.bool)
theorem de_isi (T : IsiT) {x : Str} {e : Expr} {f : List Sl → Mo PD} {p p2 pos : Pos} (hm : c.X.mg "isinstance" = none) (hmT : c.X.mg x = none) (hv : bootBuiltins x = some (.type T.name)) (h : DE c e f) (hg : Gl c.X "isinstance" := by rfl) (hgT : Gl c.X x := by rfl)
    (hn : x ≠ "__name__" := by decide) (hdb : (x == ("__debug__" : Str)) = false := by decide)
    (hs : starEach [e, .Name x p2] c.X.env = (false, eval e c.X.env) :: starEach [.Name x p2] c.X.env := by rfl) (hs2 : starEach [.Name x p2] c.X.env = (false, eval (.Name x p2) c.X.env) :: starEach [] c.X.env := by rfl) (hpl : (backTo pos (starEach [.Name x p2] c.X.env)).any (·.1) = false := by rfl) :
    DE c (.Call (.Name "isinstance" p) [e, .Name x p2] [] pos) (eIsi T f) :=
  PE.imp (pe_callB call_isi hg hm PyProof.Rows.boot_isinstance (pa_cons h (pa_cons (pe_bltn (v := .ty T.name) hgT hmT hv rfl hn hdb) pa_nil hs2) hs) (by decide) (by decide) hs hpl) fun σ H Q q => by
    obtain ⟨L0, H0, L, g, Γ, fr, po⟩ := q
    have po := Post.bind po
    refine ⟨L0, H0, L, g, Γ, fr, po.mono fun d g1 L1 H1 st1 rel1 po1 v hv => ?_⟩
    obtain ⟨z, hz, po1⟩ := po1.lift rel1
    obtain ⟨b, hb, rfl⟩ := Option.map_eq_some_iff.mp hz
    obtain ⟨t, ht, ty⟩ := dq_ty (K := c.X.K) (hv.mono rel1.s)
    exact ⟨v, .ty T.name, .type t, .type T.name, b, rfl, .ty _, ty, kit_ty (isi_kit hb ht), po1 L1 H1 (Stp.refl rel1) rel1 _ (.bl b)⟩
/-! ### the script and the town -/
def isO (n : Nat) (o : Option Sl) : Option Unit := match o with
  | some (.obj i) => if Nat.beq i n = true then some () else none
  | _ => none
theorem isO_some {n : Nat} {o : Option Sl} {u : Unit} (h : isO n o = some u) : o = some (.obj n) := by
  unfold isO at h
  split at h
  · rename_i i
    split at h
    · rename_i e; rw [Nat.eq_of_beq_eq_true e]
    · cases h
  · cases h
theorem FR.obj {p : Pm} {L0 L : Lay} {H0 H : Hp} {g : G} {Γ : List Sl} {σ : St} {i n : Nat} (fr : FR p L0 H0 L g Γ σ H) (h : Γ[i]? = some (.obj n)) : ∃ a, σ[i]? = some (some (.ref a)) ∧ L.oa[n]? = some a := by
  have hlt : i < σ.length := by rw [← fr.len]; exact (List.getElem?_eq_some_iff.mp h).1
  obtain ⟨a, e, ha⟩ := fr.sl i _ _ h (List.getElem?_eq_getElem hlt)
  exact ⟨a, by rw [List.getElem?_eq_getElem hlt, e], ha⟩
theorem Rel.scr {p : Pm} {L : Lay} {g : G} {H : Hp} {a : Addr} (rel : Rel p L g H) (h : L.oa[1]? = some a) : SqL p.K H a (g.ns.map V.int) := by
  obtain ⟨b, hb, hq⟩ := rel.gi.scr
  rw [h] at hb
  cases hb
  rcases hq with ⟨o, hq⟩ | hq
  · exact .inl (.inr ⟨o, rel.m _ _ hq⟩)
  · exact .inr hq
/-- len(script) -/
def eScrLen (i : Nat) : List Sl → Mo PD := fun Γ => bnd (lift (isO 1 Γ[i]?)) fun _ g => .ok (.int (g.ns.length : Nat)) g
theorem de_scrLen (i : Nat) {x : Str} {p p2 pos : Pos} (ok : c.Ok k) (hm : c.X.mg "len" = none) (hN : c.X.N[i]? = some x := by rfl) (hv : Vis c.X.env.scope x := by first | exact Or.inl rfl | exact Or.inr (Or.inl rfl) | exact Or.inr (Or.inr rfl)) (hg : Gl c.X "len" := by rfl)
    (hd : (x == ("__debug__" : Str)) = false := by decide) (hcd : (x == ("__classdict__" : Str)) = false := by decide) : DE c (.Call (.Name "len" p) [.Name x p2] [] pos) (eScrLen i) :=
  PE.imp (pe_callB call_len_seq hg hm PySem.boot_len (pa_cons (pe_var hN hv hd hcd) pa_nil)) fun σ H Q q => by
    obtain ⟨L0, H0, L, g, Γ, fr, po⟩ := q
    obtain ⟨_, ho, po⟩ := Post.lift (Post.bind po) fr.rel
    have po := po L H (Stp.refl fr.rel) fr.rel
    obtain ⟨a, e, ha⟩ := fr.obj (isO_some ho)
    refine ⟨_, e, a, _, rfl, .inl (by rw [← ok.K]; exact fr.rel.scr ha), ?_⟩
    rw [List.length_map]
    exact po L H (Stp.refl fr.rel) fr.rel _ (.int _)
/-- script[e] -/
def atS (g : G) : PD → Option PD
  | .int i => (atI g.ns i).map PyData.int
  | _ => none
def eScrIx (i : Nat) (f : List Sl → Mo PD) : List Sl → Mo PD := fun Γ => bnd (lift (isO 1 Γ[i]?)) fun _ => bnd (f Γ) fun d g => lift (atS g d) g
theorem atI_map {α β : Type} {h : α → β} {xs : List α} {i : Int} {x : α} (e : atI xs i = some x) : atI (xs.map h) i = some (h x) := by
  unfold L2.atI at e ⊢
  obtain ⟨j, hj, e⟩ := Option.bind_eq_some_iff.mp e
  rw [List.length_map, hj]
  show (xs.map h)[j]? = some (h x)
  rw [List.getElem?_map, e]
  rfl
theorem de_scrIx (i : Nat) {x : Str} {e : Expr} {f : List Sl → Mo PD} {p2 pos : Pos} (ok : c.Ok k) (he : DE c e f) (hN : c.X.N[i]? = some x := by rfl) (hv : Vis c.X.env.scope x := by first | exact Or.inl rfl | exact Or.inr (Or.inl rfl) | exact Or.inr (Or.inr rfl)) (hs : PlainIx e := by exact fun _ _ => rfl)
    (hd : (x == ("__debug__" : Str)) = false := by decide) (hcd : (x == ("__classdict__" : Str)) = false := by decide) : DE c (.Subscript (.Name x p2) e pos) (eScrIx i f) :=
  PE.imp (pe_ix ix_list (pe_var hN hv hd hcd) he hs) fun σ H Q q => by
    obtain ⟨L0, H0, L, g, Γ, fr, po⟩ := q
    obtain ⟨_, ho, po⟩ := Post.lift (Post.bind po) fr.rel
    have po := Post.bind (po L H (Stp.refl fr.rel) fr.rel)
    obtain ⟨a, e, ha⟩ := fr.obj (isO_some ho)
    refine ⟨_, e, L0, H0, L, g, Γ, fr, po.mono fun d g1 L1 H1 st1 rel1 po1 v hv => ?_⟩
    obtain ⟨z, hz, po1⟩ := Post.lift po1 rel1
    cases hv with
    | int i =>
      obtain ⟨n, hn, rfl⟩ := Option.map_eq_some_iff.mp hz
      exact ⟨a, _, i, _, rfl, rfl, by rw [← ok.K]; exact rel1.scr (prefix_get st1.oa ha), atI_map hn, po1 L1 H1 (Stp.refl rel1) rel1 _ (.int n)⟩
    | non => cases hz
    | bl _ => cases hz
    | str _ => cases hz
    | lst _ _ => cases hz
    | tup _ _ _ => cases hz
/-- script == [] -/
def eScrNil (i : Nat) : List Sl → Mo Bool := fun Γ => bnd (lift (isO 1 Γ[i]?)) fun _ g => .ok g.ns.isEmpty g
theorem dpAll_ints {K : PySem.W.Frag} {H : Hp} : ∀ ns : List Int, DpAll K H (ns.map V.int) (ns.map PyData.int)
  | [] => .nil
  | n :: r => .cons (.int n) (dpAll_ints r)
theorem lay_ints : ∀ ns : List Int, PyData.canLayAll0 (ns.map PyData.int) = true
  | [] => by simp [PyData.canLayAll0]
  | n :: r => by simp [PyData.canLayAll0, PyData.canLay0, lay_ints r]
theorem depth_ints : ∀ ns : List Int, PyData.depthAll (ns.map PyData.int) = 0
  | [] => by simp [PyData.depthAll]
  | n :: r => by simp [PyData.depthAll, PyData.depth, depth_ints r]
theorem shaped_lints (ns : List Int) : SeqAt.shaped (.list (ns.map PyData.int)) = true := by
  show (PyData.canLay0 (.list (ns.map PyData.int)) && decide (PyData.depth (.list (ns.map PyData.int)) ≤ 64)) = true
  simp [PyData.canLay0, PyData.depth, lay_ints, depth_ints]
theorem shaped_tints (ns : List Int) : SeqAt.shaped (.tuple (ns.map PyData.int)) = true := by
  show (PyData.canLay0 (.tuple (ns.map PyData.int)) && decide (PyData.depth (.tuple (ns.map PyData.int)) ≤ 64)) = true
  simp [PyData.canLay0, PyData.depth, lay_ints, depth_ints]
theorem dt_scrNil (i : Nat) {x : Str} {p2 p3 pos : Pos} (ok : c.Ok k) (hN : c.X.N[i]? = some x := by rfl) (hv : Vis c.X.env.scope x := by first | exact Or.inl rfl | exact Or.inr (Or.inl rfl) | exact Or.inr (Or.inr rfl))
    (hd : (x == ("__debug__" : Str)) = false := by decide) (hcd : (x == ("__classdict__" : Str)) = false := by decide) : DT c (.Compare (.Name x p2) [.Eq] [.List [] p3] pos) (eScrNil i) :=
  PT.imp (pt_cmpR (op_eqD ok.rm.units) (pe_var hN hv hd hcd) (pe_lst pa_nil) (nomark _)) fun σ H Q q => by
    obtain ⟨L0, H0, L, g, Γ, fr, po⟩ := q
    obtain ⟨_, ho, po⟩ := Post.lift (Post.bind po) fr.rel
    have po := po L H (Stp.refl fr.rel) fr.rel
    obtain ⟨a, e, ha⟩ := fr.obj (isO_some ho)
    refine ⟨_, e, Nat.zero_le _, fun q hq => ?_⟩
    have rel' := fr.rel.new (o := .lst []) hq
    have st' := Stp.new fr.rel (o := .lst []) hq
    refine ⟨.list (g.ns.map PyData.int), .list [], .lst (by rw [← ok.K]; exact rel'.scr (prefix_get st'.oa ha)) (dpAll_ints _), .lst (SqL.of upd_same) .nil, shaped_lints _, by decide +kernel, _, rfl, ?_⟩
    have e2 : PyData.eqv (.list (g.ns.map PyData.int)) (.list []) = g.ns.isEmpty := by
      cases g.ns with
      | nil => simp [PyData.eqv, PyData.eqvAll]
      | cons n r => simp [PyData.eqv, PyData.eqvAll]
    rw [e2]
    exact po _ _ st' rel'
/-! the town -/
theorem Rel.town {p : Pm} {L : Lay} {g : G} {H : Hp} {a : Addr} (rel : Rel p L g H) (h : L.oa[0]? = some a) : L.M a = some (.lst (List.replicate g.n (V.int 0))) := by
  obtain ⟨b, hb, hq⟩ := rel.gi.town
  rw [h] at hb
  cases hb
  exact hq
/-- len(town) -/
def eTownLen (i : Nat) : List Sl → Mo PD := fun Γ => bnd (lift (isO 0 Γ[i]?)) fun _ g => .ok (.int (g.n : Nat)) g
theorem de_townLen (i : Nat) {x : Str} {p p2 pos : Pos} (ok : c.Ok k) (hm : c.X.mg "len" = none) (hN : c.X.N[i]? = some x := by rfl) (hv : Vis c.X.env.scope x := by first | exact Or.inl rfl | exact Or.inr (Or.inl rfl) | exact Or.inr (Or.inr rfl)) (hg : Gl c.X "len" := by rfl)
    (hd : (x == ("__debug__" : Str)) = false := by decide) (hcd : (x == ("__classdict__" : Str)) = false := by decide) : DE c (.Call (.Name "len" p) [.Name x p2] [] pos) (eTownLen i) :=
  PE.imp (pe_callB call_len_seq hg hm PySem.boot_len (pa_cons (pe_var hN hv hd hcd) pa_nil)) fun σ H Q q => by
    obtain ⟨L0, H0, L, g, Γ, fr, po⟩ := q
    obtain ⟨_, ho, po⟩ := Post.lift (Post.bind po) fr.rel
    have po := po L H (Stp.refl fr.rel) fr.rel
    obtain ⟨a, e, ha⟩ := fr.obj (isO_some ho)
    refine ⟨_, e, a, _, rfl, .inl (SqL.of (fr.rel.m _ _ (fr.rel.town ha))), ?_⟩
    rw [List.length_replicate]
    exact po L H (Stp.refl fr.rel) fr.rel _ (.int _)
/-- town.append(0) -/
def sTown (i : Nat) : List Sl → Mo Fl := fun Γ => bnd (lift (isO 0 Γ[i]?)) fun _ g => if small g.n = true then .ok (.next Γ) { g with n := g.n + 1 } else .bad
theorem Rel.townUp {p : Pm} {L : Lay} {g : G} {H : Hp} {a : Addr} (rel : Rel p L g H) (h : L.oa[0]? = some a) :
    Stp L H { L with M := upd L.M a (.lst (List.replicate g.n (V.int 0) ++ [V.int 0])) } (upd H a (.lst (List.replicate g.n (V.int 0) ++ [V.int 0]))) ∧ Rel p { L with M := upd L.M a (.lst (List.replicate g.n (V.int 0) ++ [V.int 0])) } { g with n := g.n + 1 } (upd H a (.lst (List.replicate g.n (V.int 0) ++ [V.int 0]))) := by
  have hM := rel.town h
  have hS : L.S a = none := by
    refine opt_none fun q => ?_
    rw [rel.sm a q] at hM
    cases hM
  have hMne : L.M a ≠ none := by rw [hM]; exact fun z => nomatch z
  refine ⟨⟨Same.refl _, List.prefix_refl _, fun b o hb e => ?_, fun b hb => .inl hb, fun b hb => ?_, fun b hb => ?_⟩, ⟨fun b o e => ?_, fun b o e => ?_, fun b hb => ?_, ⟨rel.gi.len, rel.gi.nd, ⟨a, h, ?_⟩, ?_, fun i w b hw hb => ?_⟩⟩⟩
  · have : b ≠ a := fun z => by subst z; exact hMne hb
    rw [upd_ne this]; exact e
  · have hb' : upd L.M a (.lst (List.replicate g.n (V.int 0) ++ [V.int 0])) b ≠ none := hb
    by_cases z : b = a
    · subst z; exact .inl hMne
    · rw [upd_ne z] at hb'; exact .inl hb'
  · by_cases z : b = a
    · subst z; rw [upd_same]; exact fun z => nomatch z
    · rw [upd_ne z]; exact rel.mh hb
  · have : b ≠ a := fun z => by subst z; have e' : L.S b = some o := e; rw [hS] at e'; cases e'
    rw [upd_ne this]; exact rel.s b o e
  · have e' : upd L.M a (.lst (List.replicate g.n (V.int 0) ++ [V.int 0])) b = some o := e
    by_cases z : b = a
    · subst z; rw [upd_same] at e' ⊢; exact e'
    · rw [upd_ne z] at e' ⊢; exact rel.m b o e'
  · show upd L.M a _ b = none
    have z : b ≠ a := fun z => by subst z; exact hb hS
    rw [upd_ne z]; exact rel.sm b hb
  · show upd L.M a _ a = _
    rw [upd_same, List.replicate_succ', ]
  · obtain ⟨b, hb, hq⟩ := rel.gi.scr
    refine ⟨b, hb, ?_⟩
    show ScrAt p.K (upd L.M a _) b _
    rcases hq with ⟨o, hq⟩ | hq
    · have z : b ≠ a := fun z => by
        subst z
        rw [hM] at hq
        cases hq
      exact .inl ⟨o, by rw [upd_ne z]; exact hq⟩
    · exact .inr hq
  · obtain ⟨dx, v, h1, h2, h3⟩ := rel.gi.wk i w b hw hb
    have z1 : b ≠ a := fun z => by subst z; rw [hM] at h1; cases h1
    have z2 : dx ≠ a := fun z => by subst z; rw [hM] at h2; cases h2
    exact ⟨dx, v, by show upd L.M a _ b = _; rw [upd_ne z1]; exact h1, by show upd L.M a _ dx = _; rw [upd_ne z2]; exact h2, h3⟩
theorem ds_town (i : Nat) {x : Str} {j : Nat} {p1 p2 p3 p4 p5 : Pos} (hN : c.X.N[i]? = some x := by rfl) (hv : Vis c.X.env.scope x := by first | exact Or.inl rfl | exact Or.inr (Or.inl rfl) | exact Or.inr (Or.inr rfl))
    (hd : (x == ("__debug__" : Str)) = false := by decide) (hcd : (x == ("__classdict__" : Str)) = false := by decide) (hline : (p2.endLine == p4.line) = true := by rfl) : DS c (.Expr (.Call (.Attribute (.Name x p1) "append" p2) [.Constant (.int 0) j p3] [] p4) p5) (sTown i) :=
  PS.imp (ps_expr (pe_bm PySem.F.plainAttrs_list PySem.F.slot_list_append PySem.F.type_list_append mt_append (pe_var hN hv hd hcd) (pa_cons pe_int pa_nil) (hline := hline))) fun D σ H q => by
    obtain ⟨L0, H0, L, g, Γ, fr, po⟩ := q
    obtain ⟨_, ho, po⟩ := Post.lift (PostS.bind fr po) fr.rel
    have po : PostS c.p c.W L0 H0 L D (if small g.n = true then Res.ok (Fl.next Γ) { g with n := g.n + 1 } else Res.bad) := po L H (Stp.refl fr.rel) fr.rel
    obtain ⟨a, e, ha⟩ := fr.obj (isO_some ho)
    have hM := fr.rel.m _ _ (fr.rel.town ha)
    cases hs : small g.n with
    | false => rw [hs] at po; exact po.elim
    | true =>
      rw [hs, if_pos rfl] at po
      refine ⟨_, e, .inl ⟨rfl, _, .inl (.inl hM)⟩, a, _, _, rfl, rfl, hM, by rw [List.length_replicate]; exact small_lt hs, ?_⟩
      obtain ⟨st, rel'⟩ := fr.rel.townUp ha
      exact po _ σ _ (fr.step st rel') (Same.refl _)
end
end Av

namespace Av
open PySem PySem.Spec L2
open PyProof.Rows hiding St
set_option autoImplicit false
/-! ### the end: the law's own def, which begins with town = [] -/
def spLaw (K : PySem.W.Frag) : Sp := fun vs H Q _ => ∃ (a : Addr) (ns : List Int), vs = [.ref a] ∧ SqL K H a (ns.map V.int) ∧ Only H ∧ ns.length ≤ 63 ∧ ∀ H', Q (.bl true) H'
def Γ0 (n it : Nat) : List Sl := (Sl.obj 1 :: List.replicate (n - 1) Sl.dead).set it (.obj 0)
theorem law_of {P : Program} {w : World} {K : PySem.W.Frag} {mg : Str → Option Value} {base : Heap} {st : Stmt} {f : Addr} {fd : FuncData} {N : List Str} {k : Nat} {p : Pm} {m : List Sl → Mo Fl} {it : Nat} {x : Str} {p1 p2 p3 : Pos} {rest : List Stmt}
    (F : Fun K "law" "law" st f fd) (S : FnScope N ["script"] (defScope st)) (hK : p.K = K) (hbody : defBody st = .Assign [.Name x p1] (.List [] p2) p3 :: rest) (hit : N[it]? = some x) (h0 : it ≠ 0) (hloc : Loc (defScope st) x)
    (hsw : ∀ env, swapsWith (.List [] p2) (some (.Name x p1)) p3.line env = pure false)
    (hb : ∀ (cdv : Value) (A : Around) (outer : List Env) (s : Shared) (H : Hp) (E : XK), Room k (A.deeper (envOfC "law" (defScope st) s.heap.objs.size f cdv)) →
      DSs ⟨cxOf (L2N.CX P w) P w K mg base N "law" (defScope st) f cdv A outer s H E, p, fun cls d _ H' => E cls d H'⟩ rest m)
    (hm : ∀ ns : List Int, ns.length ≤ 63 → ∃ g', m (Γ0 N.length it) ⟨ns, 0, []⟩ = .ok (.ret (.bool true)) g') :
    FnOk P w K mg base (L2N.CX P w) (k + 1) f fd ["script"] (spLaw K) := by
  refine fnOkN F S (fun vs H Q E h => ?_) fun cdv A outer s H vs Q E hr h => ⟨tSeq (tAsg (tLst tNil) (gName it)) (tS p (fun cls d _ H' => E cls d H') m), ?_, ?_⟩
  · obtain ⟨a, ns, rfl, _⟩ := h
    rfl
  · rw [hbody]
    exact pss_cons (ps_set (i := it) S.nd hit hloc (pe_lst pa_nil) (hsw _) (.inl rfl)) (hb cdv A outer s H E hr)
  · obtain ⟨a, ns, rfl, hS, hO, hlen, k⟩ := h
    refine ⟨Nat.zero_le _, fun q hq => ?_⟩
    have hN : it < N.length := (List.getElem?_eq_some_iff.mp hit).1
    obtain ⟨g', hg⟩ := hm ns hlen
    have hscr : ScrAt p.K (upd H q (.lst [])) a ns := by
      rw [hK]
      rcases hS with (hS | ⟨o, hS⟩) | hS
      · rcases hO a with z | ⟨o, xs, z⟩
        · rw [hS] at z; cases z
        · rw [hS] at z; cases z
      · exact .inl ⟨o, by rw [upd_ne (ne_of_none hS hq)]; exact hS⟩
      · exact .inr hS
    have rel : Rel p ⟨fun _ => none, upd H q (.lst []), [q, a]⟩ ⟨ns, 0, []⟩ (upd H q (.lst [])) :=
      ⟨(fun b o e => nomatch e), Same.refl _, fun b hb => absurd rfl hb, ⟨rfl, List.nodup_nil, ⟨q, rfl, upd_same⟩, ⟨a, rfl, hscr⟩, fun i w b hw => by simp at hw⟩⟩
    refine ⟨_, upd H q (.lst []), ⟨fun _ => none, upd H q (.lst []), [q, a]⟩, ⟨ns, 0, []⟩, Γ0 N.length it, ⟨rel, Stp.refl rel, ?_, fun i s o h1 h2 => ?_, fun i j ds es b hij h1 h2 => ?_⟩, ?_⟩
    · unfold Γ0 L2.start
      rw [List.length_set, List.length_set, List.length_cons, List.length_replicate, List.length_append, List.length_map, List.length_replicate]
      show N.length - 1 + 1 = 1 + (N.length - 1)
      omega
    · unfold Γ0 at h1
      by_cases hi : it = i
      · subst hi
        have hl : it < (Sl.obj 1 :: List.replicate (N.length - 1) Sl.dead).length := by rw [List.length_cons, List.length_replicate]; omega
        rw [List.getElem?_set_self hl] at h1
        cases h1
        have hl2 : it < (L2.start N [V.ref a]).length := by
          unfold L2.start
          rw [List.length_append, List.length_map, List.length_replicate]
          show it < 1 + (N.length - 1)
          omega
        rw [List.getElem?_set_self hl2] at h2
        cases h2
        exact ⟨q, rfl, rfl⟩
      · rw [List.getElem?_set_ne hi] at h1 h2
        cases i with
        | zero =>
          simp at h1
          subst h1
          unfold L2.start at h2
          simp at h2
          subst h2
          exact ⟨a, rfl, rfl⟩
        | succ i =>
          rw [List.getElem?_cons_succ, List.getElem?_replicate] at h1
          split at h1
          · cases h1; trivial
          · cases h1
    · exfalso
      unfold Γ0 at h1
      rw [List.getElem?_set] at h1
      split at h1
      · split at h1
        · cases h1
        · cases h1
      · cases i with
        | zero => simp at h1
        | succ i =>
          rw [List.getElem?_cons_succ, List.getElem?_replicate] at h1
          split at h1
          · cases h1
          · cases h1
    · show PostS _ _ _ _ _ _ (m (Γ0 N.length it) ⟨ns, 0, []⟩)
      rw [hg]
      intro v L' H' _ _ hv
      cases hv
      exact k H'
/-- -e of ints -/
def negD : PD → Option PD
  | .int i => some (.int (-i))
  | _ => none
def eUn (h : PD → Option PD) (f : List Sl → Mo PD) : List Sl → Mo PD := fun Γ => bnd (f Γ) fun d => lift (h d)
theorem de_neg {c : Ct} {e : Expr} {f : List Sl → Mo PD} {pos : Pos} (he : DE c e f) : DE c (.UnaryOp .USub e pos) (eUn negD f) :=
  PE.imp (pe_un un_neg he) fun σ H Q q => by
    obtain ⟨L0, H0, L, g, Γ, fr, po⟩ := q
    have po := Post.bind po
    refine ⟨L0, H0, L, g, Γ, fr, po.mono fun d g1 L1 H1 st1 rel1 po1 v hv => ?_⟩
    obtain ⟨z, hz, po1⟩ := po1.lift rel1
    cases hv with
    | int i => cases hz; exact ⟨i, rfl, po1 L1 H1 (Stp.refl rel1) rel1 _ (.int _)⟩
    | non => cases hz
    | bl _ => cases hz
    | str _ => cases hz
    | lst _ _ => cases hz
    | tup _ _ _ => cases hz
def ipAdd : PD → PD → Option PD := int2 fun i j => some (.int (i + j))
theorem ips_I {f : Int → Int → Int} : ipS (ipI f) (int2 fun i j => some (.int (f i j))) := fun S x y d e z H Q hx hy hz k => by
  obtain ⟨i, j, rfl, rfl, hz⟩ := int2_some hz
  cases hz
  cases hx
  cases hy
  exact ⟨i, j, rfl, rfl, k _ fun _ => .int _⟩
end Av

namespace Av
open PySem PySem.Spec L2
open PyProof.Rows hiding St
set_option autoImplicit false
/-! ### the draws of a law -/
def m__law_cell_at : List Sl → Mo Fl :=
  (sSeq (sIf (eTest (eBin ltD (eVar 1) (eScrLen 0))) (sRet (eScrIx 0 (eVar 1))) sNext)
    (sSeq (sIf (eScrNil 0) (sRet (eC (.int 0))) sNext)
    (sSeq (sAsg 2 (eScrIx 0 (eBin modD (eVar 1) (eScrLen 0))))
    (sSeq (sFor (iVia rng1 (aCons (eCall (mm2D true) (aCons (eBin fdivD (eVar 1) (eScrLen 0)) (aCons (eC (.int 60)) aNil))) aNil)) (.one 3) (sAsg 2 (eBin fdivD (eVar 2) (eC (.int 1000003)))))
    (sRet (eBin addD (eBin addD (eBin mulD (eScrIx 0 (eBin modD (eVar 1) (eScrLen 0))) (eC (.int 31))) (eVar 1)) (eBin mulD (eVar 2) (eC (.int 101)))))))))
def F__law_cell_at : List Sl → Mo PD := runB 2 4 m__law_cell_at
def m__law_mixed : List Sl → Mo Fl :=
  (sSeq (sAsg 3 (eBin modD (eBin addD (eBin addD (eBin mulD (eCallF F__law_cell_at (sObj 0 (sCons (eVar 1) sNil))) (eC (.int 1103515245))) (eBin mulD (eC (.int 7919)) (eVar 1))) (eC (.int 12345))) (eC (.int 2147483647))))
    (sRet (eBin modD (eBin modD (eBin modD (eBin powD (eVar 3) (eC (.int 5))) (eC (.int 2147483647))) (eC (.int 999983))) (eVar 2))))
def F__law_mixed : List Sl → Mo PD := runB 3 4 m__law_mixed
def m__law_draw : List Sl → Mo Fl :=
  (sSeq (sTown 1)
    (sRet (eCallF F__law_mixed (sObj 0 (sCons (eTownLen 1) (sCons (eVar 2) sNil))))))
def F__law_draw : List Sl → Mo PD := runB 3 3 m__law_draw

theorem shrink (o x : Sl) (g : G) : ∀ (n : Nat) (lo s : Int) (y : Sl), ∃ s' y', forL (.one 3) (sAsg 2 (eBin fdivD (eVar 2) (eC (.int 1000003)))) (rangeL lo n) [o, x, .val (.int s), y] g = .ok (.next [o, x, .val (.int s'), y']) g
  | 0, lo, s, y => ⟨s, y, rfl⟩
  | n + 1, lo, s, y => by
    obtain ⟨s', y', h⟩ := shrink o x g n (lo + 1) (s / 1000003) (.val (.int lo))
    exact ⟨s', y', h⟩
theorem atI_nonneg {α : Type} {xs : List α} {i : Int} (h0 : 0 ≤ i) (h1 : i < xs.length) : ∃ v, atI xs i = some v := by
  obtain ⟨j, rfl⟩ := Int.eq_ofNat_of_zero_le h0
  have hj : j < xs.length := by omega
  exact ⟨xs[j], atI_nat (List.getElem?_eq_getElem hj)⟩
theorem runB_eq {np n : Nat} {m : List Sl → Mo Fl} {as : List Sl} {g : G} (h : Nat.beq as.length np = true) : runB np n m as g = (m (as ++ List.replicate (n - as.length) .dead) g).bind fun r => match r with
  | .next _ => ret .none
  | .ret d => ret d := by
  unfold runB
  rw [if_pos h]
  rfl
theorem runB_ret {np n : Nat} {m : List Sl → Mo Fl} {as : List Sl} {g g' : G} {d : PD} (h : Nat.beq as.length np = true) (e : m (as ++ List.replicate (n - as.length) .dead) g = .ok (.ret d) g') : runB np n m as g = .ok d g' := by
  rw [runB_eq h, e]
  rfl
/-- one piece after another -/
theorem sSeq_next {f1 f2 : List Sl → Mo Fl} {Γ Γ' : List Sl} {g g' : G} (h : f1 Γ g = .ok (.next Γ') g') : sSeq f1 f2 Γ g = f2 Γ' g' := by
  unfold sSeq bnd
  rw [h]
  rfl
theorem sSeq_ret {f1 f2 : List Sl → Mo Fl} {Γ : List Sl} {g g' : G} {d : PD} (h : f1 Γ g = .ok (.ret d) g') : sSeq f1 f2 Γ g = .ok (.ret d) g' := by
  unfold sSeq bnd
  rw [h]
  rfl
theorem sIf_t {t : List Sl → Mo Bool} {f1 f2 : List Sl → Mo Fl} {Γ : List Sl} {g g' : G} (h : t Γ g = .ok true g') : sIf t f1 f2 Γ g = f1 Γ g' := by
  unfold sIf bnd
  rw [h]
  rfl
theorem sIf_f {t : List Sl → Mo Bool} {f1 f2 : List Sl → Mo Fl} {Γ : List Sl} {g g' : G} (h : t Γ g = .ok false g') : sIf t f1 f2 Γ g = f2 Γ g' := by
  unfold sIf bnd
  rw [h]
  rfl
theorem sRet_ok {f : List Sl → Mo PD} {Γ : List Sl} {g g' : G} {d : PD} (h : f Γ g = .ok d g') : sRet f Γ g = .ok (.ret d) g' := by
  unfold sRet bnd
  rw [h]
  rfl
theorem sAsg_ok {i : Nat} {f : List Sl → Mo PD} {Γ : List Sl} {g g' : G} {d : PD} (h : f Γ g = .ok d g') : sAsg i f Γ g = .ok (.next (Γ.set i (.val d))) g' := by
  unfold sAsg bnd
  rw [h]
  rfl
theorem sFor_eq {fi : List Sl → Mo (List PD)} {t : Tg} {fb : List Sl → Mo Fl} {Γ : List Sl} {g g' : G} {ds : List PD} (h : fi Γ g = .ok ds g') : sFor fi t fb Γ g = forL t fb ds Γ g' := by
  unfold sFor bnd
  rw [h]
  rfl
theorem eBin_ok {h : PD → PD → Option PD} {fa fb : List Sl → Mo PD} {Γ : List Sl} {g g1 g2 : G} {x y z : PD} (ha : fa Γ g = .ok x g1) (hb : fb Γ g1 = .ok y g2) (hz : h x y = some z) : eBin h fa fb Γ g = .ok z g2 := by
  unfold eBin bnd
  rw [ha]
  show (fb Γ g1).bind _ = _
  rw [hb]
  show lift (h x y) g2 = _
  rw [hz]
  rfl
theorem eTest_ok {f : List Sl → Mo PD} {Γ : List Sl} {g g' : G} {b : Bool} (h : f Γ g = .ok (.bool b) g') : eTest f Γ g = .ok b g' := by
  unfold eTest bnd
  rw [h]
  rfl
theorem cell_lt (ns : List Int) (n : Nat) (ws : List (List PD × Int)) (k : Nat) (h : (k : Int) < (ns.length : Int)) : ∃ v : Int, F__law_cell_at [.obj 1, .val (.int (k : Nat))] ⟨ns, n, ws⟩ = .ok (.int v) ⟨ns, n, ws⟩ := by
  obtain ⟨v, hv⟩ := atI_nonneg (xs := ns) (i := (k : Int)) (by omega) h
  refine ⟨v, runB_ret rfl (sSeq_ret ((sIf_t (eTest_ok (eBin_ok rfl rfl ?_))).trans (sRet_ok ?_)))⟩
  · exact congrArg (fun b => some (PyData.bool b)) (decide_eq_true h)
  · show lift ((atI ns (k : Int)).map PyData.int) ⟨ns, n, ws⟩ = _
    rw [hv]
    rfl
theorem cell_nil (n : Nat) (ws : List (List PD × Int)) (k : Nat) : F__law_cell_at [.obj 1, .val (.int (k : Nat))] ⟨[], n, ws⟩ = .ok (.int 0) ⟨[], n, ws⟩ := by
  refine runB_ret rfl ((sSeq_next (sIf_f (eTest_ok (eBin_ok rfl rfl ?_)))).trans (sSeq_ret rfl))
  exact congrArg (fun b => some (PyData.bool b)) (decide_eq_false (by show ¬ (k : Int) < ((0 : Nat) : Int); omega))
theorem cell_big (n0 : Int) (r : List Int) (n : Nat) (ws : List (List PD × Int)) (k : Nat) (hl : (n0 :: r).length ≤ 63) (h : ¬ (k : Int) < ((n0 :: r).length : Int)) : ∃ v : Int, F__law_cell_at [.obj 1, .val (.int (k : Nat))] ⟨n0 :: r, n, ws⟩ = .ok (.int v) ⟨n0 :: r, n, ws⟩ := by
  have hpos : (0 : Int) < ((n0 :: r).length : Int) := by rw [List.length_cons]; omega
  have hlt : ((n0 :: r).length : Int) < 1073741824 := by omega
  obtain ⟨v, hv⟩ := atI_nonneg (xs := n0 :: r) (i := (k : Int) % ((n0 :: r).length : Int)) (Int.emod_nonneg _ (by omega)) (Int.emod_lt_of_pos _ hpos)
  have hmod : modD (.int (k : Int)) (.int ((n0 :: r).length : Int)) = some (.int ((k : Int) % ((n0 :: r).length : Int))) := by
    show (if modB _ _ = true then _ else _) = _
    rw [if_pos (show modB _ _ = true from decide_eq_true hpos)]
  have hdiv : fdivD (.int (k : Int)) (.int ((n0 :: r).length : Int)) = some (.int ((k : Int) / ((n0 :: r).length : Int))) := by
    show (if fdivB _ _ = true then _ else _) = _
    rw [if_pos (by unfold fdivB; rw [decide_eq_true hpos, decide_eq_true hlt]; rfl)]
  have hd0 : 0 ≤ (k : Int) / ((n0 :: r).length : Int) := Int.ediv_nonneg (by omega) (by omega)
  have ix : ∀ Γ : List Sl, Γ[0]? = some (.obj 1) → Γ[1]? = some (.val (.int (k : Int))) → eScrIx 0 (eBin modD (eVar 1) (eScrLen 0)) Γ ⟨n0 :: r, n, ws⟩ = .ok (.int v) ⟨n0 :: r, n, ws⟩ := fun Γ h0 h1 => by
    unfold eScrIx bnd
    rw [h0]
    show ((eBin modD (eVar 1) (eScrLen 0) Γ ⟨n0 :: r, n, ws⟩).bind _) = _
    rw [eBin_ok (x := .int (k : Int)) (g1 := ⟨n0 :: r, n, ws⟩) (by unfold eVar; rw [h1]; rfl) (by unfold eScrLen bnd; rw [h0]; rfl) hmod]
    show lift ((atI (n0 :: r) ((k : Int) % ((n0 :: r).length : Int))).map PyData.int) _ = _
    rw [hv]
    rfl
  generalize hq : (k : Int) / ((n0 :: r).length : Int) = q at *
  generalize hmm : (if (if true = true then decide ((60 : Int) < q) else decide ((60 : Int) > q)) = true then (60 : Int) else q) = mm
  have hm0 : 0 ≤ mm ∧ mm ≤ 60 := by
    rw [← hmm, if_pos rfl]
    by_cases z : 60 < q
    · rw [if_pos (decide_eq_true z)]; omega
    · rw [if_neg (by rw [decide_eq_false z]; exact Bool.false_ne_true)]; omega
  obtain ⟨s', y', hs⟩ := shrink (.obj 1) (.val (.int (k : Nat))) ⟨n0 :: r, n, ws⟩ mm.toNat 0 v .dead
  refine ⟨v * 31 + k + s' * 101, runB_ret rfl ((sSeq_next (sIf_f (eTest_ok (eBin_ok rfl rfl ?_)))).trans ((sSeq_next (sIf_f rfl)).trans ((sSeq_next (sAsg_ok (ix _ rfl rfl))).trans ((sSeq_next ((sFor_eq (ds := rangeL 0 mm.toNat) ?_).trans hs)).trans (sRet_ok (eBin_ok (x := .int (v * 31 + k)) (y := .int (s' * 101)) (eBin_ok (x := .int (v * 31)) (y := .int k) (eBin_ok (ix _ rfl rfl) rfl ?_) rfl rfl) (eBin_ok (x := .int s') (y := .int 101) rfl rfl ?_) rfl))))))⟩
  · exact congrArg (fun b => some (PyData.bool b)) (decide_eq_false h)
  · have e1 : eBin fdivD (eVar 1) (eScrLen 0) [.obj 1, .val (.int (k : Nat)), .val (.int v), .dead] ⟨n0 :: r, n, ws⟩ = .ok (.int q) ⟨n0 :: r, n, ws⟩ := eBin_ok rfl rfl hdiv
    show ((eCall (mm2D true) (aCons (eBin fdivD (eVar 1) (eScrLen 0)) (aCons (eC (.int 60)) aNil)) [.obj 1, .val (.int (k : Nat)), .val (.int v), .dead] ⟨n0 :: r, n, ws⟩).bind _).bind _ = _
    have e2 : eCall (mm2D true) (aCons (eBin fdivD (eVar 1) (eScrLen 0)) (aCons (eC (.int 60)) aNil)) [.obj 1, .val (.int (k : Nat)), .val (.int v), .dead] ⟨n0 :: r, n, ws⟩ = .ok (.int mm) ⟨n0 :: r, n, ws⟩ := by
      unfold eCall aCons bnd
      rw [e1]
      show lift (some (PyData.int (if (if true = true then decide ((60 : Int) < q) else decide ((60 : Int) > q)) = true then (60 : Int) else q))) _ = _
      rw [hmm]
      rfl
    rw [e2]
    show lift (if rOk mm = true then some (rangeL 0 mm.toNat) else none) _ = _
    have : rOk mm = true := by simp [rOk]; omega
    rw [if_pos this]
    rfl
  · show (if mulB v 31 = true then _ else _) = _
    rw [if_pos (by simp [mulB])]
  · show (if mulB s' 101 = true then _ else _) = _
    rw [if_pos (by simp [mulB])]
theorem cell_ok (g : G) (k : Nat) (hk : k ≤ 100000) (hl : g.ns.length ≤ 63) : ∃ v : Int, F__law_cell_at [.obj 1, .val (.int (k : Nat))] g = .ok (.int v) g := by
  obtain ⟨ns, n, ws⟩ := g
  by_cases h : (k : Int) < (ns.length : Int)
  · exact cell_lt ns n ws k h
  · cases ns with
    | nil => exact ⟨0, cell_nil n ws k⟩
    | cons n0 r => exact cell_big n0 r n ws k hl h
theorem mixed_ok (g : G) (k : Nat) (many : Int) (hk : k ≤ 100000) (hl : g.ns.length ≤ 63) (hm : 0 < many) : ∃ v : Int, 0 ≤ v ∧ v < many ∧ F__law_mixed [.obj 1, .val (.int (k : Nat)), .val (.int many)] g = .ok (.int v) g := by
  obtain ⟨c, hc⟩ := cell_ok g k hk hl
  show ∃ v : Int, 0 ≤ v ∧ v < many ∧ ((m__law_mixed [.obj 1, .val (.int (k : Nat)), .val (.int many), .dead] g).bind _) = _
  unfold m__law_mixed
  generalize hs : (c * 1103515245 + 7919 * (k : Int) + 12345) % 2147483647 = spun
  have s0 : 0 ≤ spun := by rw [← hs]; exact Int.emod_nonneg _ (by decide)
  have s1 : spun < 2147483647 := by rw [← hs]; exact Int.emod_lt_of_pos _ (by decide)
  refine ⟨spun ^ 5 % 2147483647 % 999983 % many, Int.emod_nonneg _ (by omega), Int.emod_lt_of_pos _ hm, ?_⟩
  have hmulB : mulB c 1103515245 = true := by simp [mulB]
  have hmulB2 : mulB 7919 (k : Int) = true := by simp [mulB]
  have hp : powB spun 5 = true := by simp [powB]; omega
  simp [sSeq, sAsg, eBin, eCallF, sObj, getO, sCons, eVar, getV, sNil, bnd, lift, Res.bind, ret, hc, mulD, hmulB, hmulB2, eC, addD, modD, int2, modB, hs, sRet, powD, hp, hm]
/-- a draw: some number from 0 on below many -/
theorem draw_ok (g : G) (many : Int) (hk : g.n ≤ 99999) (hl : g.ns.length ≤ 63) (hm : 0 < many) : ∃ v : Int, 0 ≤ v ∧ v < many ∧ F__law_draw [.obj 1, .obj 0, .val (.int many)] g = .ok (.int v) { g with n := g.n + 1 } := by
  obtain ⟨v, h0, h1, hv⟩ := mixed_ok { g with n := g.n + 1 } (g.n + 1) many (by omega) hl hm
  refine ⟨v, h0, h1, ?_⟩
  show ((m__law_draw [.obj 1, .obj 0, .val (.int many)] g).bind _) = _
  unfold m__law_draw
  have hs : small g.n = true := Nat.ble_eq_true_of_le (by omega)
  have hv' : F__law_mixed [.obj 1, .val (.int ((g.n : Int) + 1)), .val (.int many)] { ns := g.ns, n := g.n + 1, ws := g.ws } = .ok (.int v) { ns := g.ns, n := g.n + 1, ws := g.ws } := hv
  simp [sSeq, sTown, isO, bnd, lift, Res.bind, hs, sRet, eCallF, sObj, getO, sCons, eTownLen, eVar, getV, sNil, ret, hv']
end Av
namespace Av
open PySem PySem.Spec L2
open PyProof.Rows hiding St
set_option autoImplicit false
/-! ### what the top has left -/
def FAt (K : PySem.W.Frag) (mg : Str → Option Value) (x : Str) (st : Stmt) : Prop := ∃ f fd, Fun K x x st f fd ∧ mg x = some (.ref f) ∧ PySem.W.keepIn K (.ref f) = true
theorem fat_mk {K : PySem.W.Frag} {h : Heap} {mg : Str → Option Value} {x : Str} {st : Stmt} {f : Addr} {oc : Value} {od an : Option Addr} {osl : Array (Option Value)} {kV doc pm cdv ct : Value} (X : K.In h) (G : h.Ns mainGlobals mg) (a : PySem.W.nsIn K mainGlobals x = some (some (.ref f)))
    (l : K.lookup f = some ⟨oc, od, .func (PySem.W.fnOf x x (defArgs st) (defBody st) (defScope st) .none kV doc pm an cdv ct), osl⟩) (c : PySem.W.codeIn K cdv x = true) (k : PySem.W.keepIn K (.ref f) = true) : FAt K mg x st :=
  ⟨f, _, fun_mk l c k, PySem.W.mg_of X G a, k⟩
theorem xc_mk {K : PySem.W.Frag} {h : Heap} {mg : Str → Option Value} {x : Str} {C : Addr} (X : K.In h) (G : h.Ns mainGlobals mg) (a : PySem.W.nsIn K mainGlobals x = some (some (.ref C)))
    (ex : PySem.W.excIn K C [.type "ValueError", .type "Exception", .type "BaseException", .type "object"] "ValueError.__new__" = true) (kp : PySem.W.keepIn K (.ref C) = true) (sb : PySem.W.subIn K (.ref C) (.type "BaseException") = some true) (ty : PySem.W.typeIn K (.ref C) = some (.type "type")) : ExC K mg x C :=
  ⟨ex, PySem.W.mg_of X G a, kp, sb, ty⟩
theorem gi_mk {K : PySem.W.Frag} {h : Heap} {mg : Str → Option Value} {x : Str} {i : Int} {t : Tok} (X : K.In h) (G : h.Ns mainGlobals mg) (a : PySem.W.nsIn K mainGlobals x = some (some (.int i t))) : ∃ t, mg x = some (.int i t) := ⟨t, PySem.W.mg_of X G a⟩
theorem walk_law {l : PySem.W.OpenLaw} {k : Nat} {q : Program} {loose : List Str} {XP : (Str → Option Value) → Heap → Prop} {YP : World → Heap → Prop} {d : DefRec} {K : Params → PySem.W.Frag} (hn : l.most = some 63) (hdf : d.params.defaults = [])
    (hd1 : callerA.depth + 3 * k + 5 < recursionLimit) (hd2 : callerA.units + 16 * k + 200 < cLine)
    (hY : ∀ (w : World) (h : Heap), YP w h → (K w.params).In h)
    (F : ∀ (w : World) (mg : Str → Option Value) (fa : Addr) (h : Heap), (K w.params).In h → h.Ns mainGlobals mg → mg d.name = some (.ref fa) →
      ∃ fd : FuncData, (∀ (s : Shared) (u : Value), BindsTo s fd ⟨[u], []⟩ [("script", u)]) ∧ ∀ base : Heap, (K w.params).In base → base.Ns mainGlobals mg → FnOk l.prog w (K w.params) mg base (L2N.CX l.prog w) k fa fd ["script"] (spLaw (K w.params))) :
    PySem.W.WalkO q loose XP YP l.row.toRowW d [] (fun f vs => PySem.call f vs) :=
  L2.walk_of (n := 63) (k := k) (x := "script") (CX := fun w => L2N.CX l.prog w) (sp := fun w => spLaw (K w.params)) hn (by decide) hdf ⟨rfl, hd1, hd2⟩ hY F (fun _ _ a ns hl hO hS => ⟨a, ns, rfl, hS, hO, hl, fun _ => rfl⟩) fun _ _ _ _ _ h => by
    obtain ⟨_, _, _, _, _, _, _, _, _, _, _, _, z⟩ := h
    exact z.elim
end Av

namespace Av
open PySem PySem.Spec L2
open PyProof.Rows hiding St
set_option autoImplicit false
/-! ### lists of the frame's own -/
section
variable {p : Pm} {L0 L : Lay} {H0 H : Hp} {g : G} {Γ : List Sl} {σ : St}
theorem set_get {α : Type} {l : List α} {i j : Nat} {x y : α} (h : (l.set i x)[j]? = some y) : (i = j ∧ y = x ∧ i < l.length) ∨ (i ≠ j ∧ l[j]? = some y) := by
  by_cases e : i = j
  · subst e
    have hl : i < l.length := by
      have := (List.getElem?_eq_some_iff.mp h).1
      rwa [List.length_set] at this
    rw [List.getElem?_set_self hl] at h
    exact .inl ⟨rfl, (Option.some.inj h).symm, hl⟩
  · rw [List.getElem?_set_ne e] at h
    exact .inr ⟨e, h⟩
/-- a new own list -/
theorem FR.setOwn (fr : FR p L0 H0 L g Γ σ H) (i : Nat) {q : Addr} {vs : List V} {ds : List PD} (hq : H q = none) (hA : DqA L.S vs ds) : FR p L0 H0 L g (Γ.set i (.own ds)) (σ.set i (some (.ref q))) (upd H q (.lst vs)) := by
  have h0 := fr.st.free hq
  have hS := fr.rel.sq hq
  have hM := fr.rel.mq hq
  refine ⟨fr.rel.at hS hM, fr.st.at h0, by rw [List.length_set, List.length_set]; exact fr.len, fun j s o h1 h2 => ?_, fun j k ds' es a hjk h1 h2 h3 h4 => ?_⟩
  · rcases set_get h1 with ⟨rfl, rfl, hi⟩ | ⟨hij, h1⟩
    · rcases set_get h2 with ⟨_, rfl, _⟩ | ⟨z, _⟩
      · exact ⟨q, vs, rfl, upd_same, hA, hS, hM, h0⟩
      · exact absurd rfl z
    · rcases set_get h2 with ⟨z, _, _⟩ | ⟨_, h2⟩
      · exact absurd z hij
      · have r := fr.sl j s o h1 h2
        cases s with
        | own es =>
          obtain ⟨a, xs, e, r1, r2, r3, r4, r5⟩ := r
          exact ⟨a, xs, e, by rw [upd_ne (ne_of_none r1 hq)]; exact r1, r2, r3, r4, r5⟩
        | val d => exact r
        | obj n => exact r
        | pin n => exact r
        | dead => trivial
  · have other : ∀ (m : Nat) (es : List PD), (Γ.set i (Sl.own ds))[m]? = some (Sl.own es) → i ≠ m → (σ.set i (some (V.ref q)))[m]? = some (some (V.ref a)) → a ≠ q := fun m es hm him hs => by
      rcases set_get hm with ⟨z, _, _⟩ | ⟨_, hm⟩
      · exact absurd z him
      · rcases set_get hs with ⟨z, _, _⟩ | ⟨_, hs⟩
        · exact absurd z him
        · obtain ⟨b, xs, e, r1, _⟩ := fr.sl m _ _ hm hs
          cases e
          exact ne_of_none r1 hq
    by_cases ij : i = j
    · by_cases ik : i = k
      · exact hjk (ij.symm.trans ik)
      · rcases set_get h3 with ⟨_, e, _⟩ | ⟨z, _⟩
        · cases e
          exact other k es h2 ik h4 rfl
        · exact z ij
    · by_cases ik : i = k
      · rcases set_get h4 with ⟨_, e, _⟩ | ⟨z, _⟩
        · cases e
          exact other j ds' h1 ij h3 rfl
        · exact z ik
      · rcases set_get h1 with ⟨z, _, _⟩ | ⟨_, h1⟩
        · exact ij z
        rcases set_get h2 with ⟨z, _, _⟩ | ⟨_, h2⟩
        · exact ik z
        rcases set_get h3 with ⟨z, _, _⟩ | ⟨_, h3⟩
        · exact ij z
        rcases set_get h4 with ⟨z, _, _⟩ | ⟨_, h4⟩
        · exact ik z
        exact fr.dis j k ds' es a hjk h1 h2 h3 h4
/-- where an own list stands -/
theorem FR.own (fr : FR p L0 H0 L g Γ σ H) {i : Nat} {ds : List PD} (h : Γ[i]? = some (.own ds)) : ∃ a xs, σ[i]? = some (some (.ref a)) ∧ H a = some (.lst xs) ∧ DqA L.S xs ds ∧ L.S a = none ∧ L.M a = none ∧ H0 a = none := by
  have hlt : i < σ.length := by rw [← fr.len]; exact (List.getElem?_eq_some_iff.mp h).1
  obtain ⟨a, xs, e, r⟩ := fr.sl i _ _ h (List.getElem?_eq_getElem hlt)
  exact ⟨a, xs, by rw [List.getElem?_eq_getElem hlt, e], r⟩
/-- an own list is changed -/
theorem FR.putOwn (fr : FR p L0 H0 L g Γ σ H) {i : Nat} {a : Addr} {xs ys : List V} {ds es : List PD} (h : Γ[i]? = some (.own ds)) (hσ : σ[i]? = some (some (.ref a))) (hA : DqA L.S ys es) : FR p L0 H0 L g (Γ.set i (.own es)) σ (upd H a (.lst ys)) := by
  obtain ⟨b, zs, e, h1, h2, h3, h4, h5⟩ := fr.own h
  rw [hσ] at e
  cases e
  refine ⟨fr.rel.at h3 h4, fr.st.at h5, by rw [List.length_set]; exact fr.len, fun j s o g1 g2 => ?_, fun j k ds' es' c hjk g1 g2 g3 => ?_⟩
  · rcases set_get g1 with ⟨rfl, rfl, hi⟩ | ⟨hij, g1⟩
    · rw [hσ] at g2
      cases g2
      exact ⟨a, ys, rfl, upd_same, hA, h3, h4, h5⟩
    · have r := fr.sl j s o g1 g2
      cases s with
      | own fs =>
        obtain ⟨c, xs, e, r1, r2, r3, r4, r5⟩ := r
        subst e
        have hne : c ≠ a := fun z => by subst z; exact fr.dis j i fs ds c (Ne.symm hij) g1 h g2 hσ
        exact ⟨c, xs, rfl, by rw [upd_ne hne]; exact r1, r2, r3, r4, r5⟩
      | val d => exact r
      | obj n => exact r
      | pin n => exact r
      | dead => trivial
  · have back : ∀ (m : Nat) (fs : List PD), (Γ.set i (Sl.own es))[m]? = some (Sl.own fs) → ∃ fs' : List PD, Γ[m]? = some (Sl.own fs') := fun m fs hm => by
      rcases set_get hm with ⟨rfl, _, _⟩ | ⟨_, hm⟩
      · exact ⟨ds, h⟩
      · exact ⟨fs, hm⟩
    obtain ⟨_, g1⟩ := back j ds' g1
    obtain ⟨_, g2⟩ := back k es' g2
    exact fr.dis j k _ _ c hjk g1 g2 g3
/-- an own list comes to stay as data -/
def frz (i : Nat) (Γ : List Sl) : List Sl := match Γ[i]? with
  | some (.own ds) => Γ.set i (.val (.list ds))
  | _ => Γ
theorem FR.freeze (fr : FR p L0 H0 L g Γ σ H) {i : Nat} {a : Addr} {xs : List V} {ds : List PD} (h : Γ[i]? = some (.own ds)) (hσ : σ[i]? = some (some (.ref a))) (hH : H a = some (.lst xs)) : FR p L0 H0 { L with S := upd L.S a (.lst xs) } g (Γ.set i (.val (.list ds))) σ H := by
  obtain ⟨b, zs, e, h1, h2, h3, h4, h5⟩ := fr.own h
  rw [hσ] at e
  cases e
  rw [hH] at h1
  cases h1
  have up := same_new (o := .lst xs) h3
  refine ⟨fr.rel.fix hH h3 h4, fr.st.fix h5 h3, by rw [List.length_set]; exact fr.len, fun j s o g1 g2 => ?_, fun j k ds' es' c hjk g1 g2 g3 => ?_⟩
  · rcases set_get g1 with ⟨rfl, rfl, hi⟩ | ⟨hij, g1⟩
    · rw [hσ] at g2
      cases g2
      exact ⟨_, rfl, .lst upd_same (h2.mono up)⟩
    · have r := fr.sl j s o g1 g2
      cases s with
      | own fs =>
        obtain ⟨c, ys, e, r1, r2, r3, r4, r5⟩ := r
        subst e
        have hne : c ≠ a := fun z => by subst z; exact fr.dis j i fs ds c (Ne.symm hij) g1 h g2 hσ
        exact ⟨c, ys, rfl, r1, r2.mono up, by show upd L.S a _ c = none; rw [upd_ne hne]; exact r3, r4, r5⟩
      | val d =>
        obtain ⟨v, e, r⟩ := r
        exact ⟨v, e, r.mono up⟩
      | obj n => exact r
      | pin n => exact r
      | dead => trivial
  · have back : ∀ (m : Nat) (fs : List PD), (Γ.set i (Sl.val (.list ds)))[m]? = some (Sl.own fs) → Γ[m]? = some (Sl.own fs) := fun m fs hm => by
      rcases set_get hm with ⟨_, e, _⟩ | ⟨_, hm⟩
      · cases e
      · exact hm
    exact fr.dis j k _ _ c hjk (back j ds' g1) (back k es' g2) g3
theorem frz_own {i : Nat} {ds : List PD} (h : Γ[i]? = some (.own ds)) : frz i Γ = Γ.set i (.val (.list ds)) := by
  unfold frz
  rw [h]
theorem frz_else {i : Nat} (h : ∀ ds, Γ[i]? ≠ some (.own ds)) : frz i Γ = Γ := by
  unfold frz
  split
  · rename_i ds e
    exact absurd e (h ds)
  · rfl
theorem frz_cases (i : Nat) (Γ : List Sl) : (∃ ds, Γ[i]? = some (.own ds)) ∨ ∀ ds, Γ[i]? ≠ some (.own ds) := by
  cases h : Γ[i]? with
  | none => exact .inr fun ds z => nomatch z
  | some s =>
    cases s with
    | own ds => exact .inl ⟨ds, rfl⟩
    | val d => exact .inr fun ds z => by cases z
    | obj n => exact .inr fun ds z => by cases z
    | pin n => exact .inr fun ds z => by cases z
    | dead => exact .inr fun ds z => by cases z
theorem Rel.less {a : Addr} {xs : List V} (rel : Rel p L g H) (ha : L.S a = some (.lst xs)) : Rel p { L with S := less L.S a } g H where
  s := fun b o e => by
    have e' : Av.less L.S a b = some o := e
    by_cases z : b = a
    · subst z; rw [less_at] at e'; cases e'
    · rw [less_ne z] at e'; exact rel.s b o e'
  m := rel.m
  sm := fun b h => by
    have h' : Av.less L.S a b ≠ none := h
    by_cases z : b = a
    · subst z; exact absurd less_at h'
    · rw [less_ne z] at h'; exact rel.sm b h'
  gi := ⟨rel.gi.len, rel.gi.nd, rel.gi.town, rel.gi.scr, fun i w b h1 h2 => by
    obtain ⟨dx, v, r1, r2, r3, r4⟩ := rel.gi.wk i w b h1 h2
    exact ⟨dx, v, r1, r2, r3.less ha (by simpa [plain] using r4), r4⟩⟩
end
section
variable {c : Ct} {k : Nat}
def sFrz {α : Type} (i : Nat) (f : List Sl → α) : List Sl → α := fun Γ => f (frz i Γ)
theorem frz_S {f : List Sl → Mo Fl} {i : Nat} {D : Ends} {σ : St} {H : Hp} (q : tS c.p c.W (sFrz i f) D σ H) : tS c.p c.W f D σ H := by
  obtain ⟨L0, H0, L, g, Γ, fr, po⟩ := q
  rcases frz_cases i Γ with ⟨ds, h⟩ | h
  · obtain ⟨a, xs, e, h1, h2, h3, h4, h5⟩ := fr.own h
    have po : PostS c.p c.W L0 H0 L D (f (frz i Γ) g) := po
    rw [frz_own h] at po
    exact ⟨L0, H0, _, g, _, fr.freeze h e h1, PostS.up (same_new h3) po⟩
  · have po : PostS c.p c.W L0 H0 L D (f (frz i Γ) g) := po
    rw [frz_else h] at po
    exact ⟨L0, H0, L, g, Γ, fr, po⟩
theorem ds_frz (i : Nat) {st : Stmt} {f : List Sl → Mo Fl} (h : DS c st f) : DS c st (sFrz i f) := PS.imp h fun _ _ _ q => frz_S q
theorem dss_frz (i : Nat) {st : List Stmt} {f : List Sl → Mo Fl} (h : DSs c st f) : DSs c st (sFrz i f) := PSs.imp h fun _ _ _ q => frz_S q
/-- an expression that reads an own list and keeps nothing of it -/
theorem bor_of {α : Type} {p : Pm} {W : WX} {L0 L : Lay} {H0 H : Hp} {g : G} {Γ : List Sl} {σ : St} {f : List Sl → Mo α} {i : Nat} {ok : α → G → Lay → Hp → Prop} {ok' : α → G → Lay → Hp → Prop} (fr : FR p L0 H0 L g Γ σ H) (po : Post p W σ L H ok (f (frz i Γ) g))
    (hk : ∀ d g' L' H', Rel p L' g' H' → ok d g' L' H' → ok' d g' L' H') (hb : ∀ d g' (L' : Lay) H' a xs, L'.S a = some (.lst xs) → Rel p { L' with S := less L'.S a } g' H' → ok d g' { L' with S := less L'.S a } H' → ok' d g' L' H') :
    ∃ L1, FR p L0 H0 L1 g (frz i Γ) σ H ∧ Post p W σ L1 H ok' (f (frz i Γ) g) := by
  rcases frz_cases i Γ with ⟨ds, h⟩ | h
  · obtain ⟨a, xs, e, h1, h2, h3, h4, h5⟩ := fr.own h
    refine ⟨{ L with S := upd L.S a (.lst xs) }, by rw [frz_own h]; exact fr.freeze h e h1, ?_⟩
    have back : ∀ {L' : Lay} {H' : Hp}, Stp { L with S := upd L.S a (.lst xs) } H L' H' → Stp L H { L' with S := less L'.S a } H' := fun {L' H'} st => ⟨fun b o eb => by
        have hb : b ≠ a := fun z => by subst z; rw [h3] at eb; cases eb
        show less L'.S a b = some o
        rw [less_ne hb]
        exact st.ss b o (by show upd L.S a _ b = some o; rw [upd_ne hb]; exact eb), st.oa, st.keep, fun b hn => by
        have hn' : less L'.S a b ≠ none := hn
        have hb : b ≠ a := fun z => by subst z; exact hn' less_at
        rw [less_ne hb] at hn'
        rcases st.sfr b hn' with z | z
        · have z' : upd L.S a (.lst xs) b ≠ none := z
          rw [upd_ne hb] at z'
          exact .inl z'
        · exact .inr z, st.mfr, st.mm⟩
    have at_ : ∀ {L' : Lay} {H' : Hp}, Stp { L with S := upd L.S a (.lst xs) } H L' H' → L'.S a = some (.lst xs) := fun {L' H'} st => st.ss a _ upd_same
    cases e2 : f (frz i Γ) g with
    | ok d g' =>
      rw [e2] at po
      exact fun L' H' st rel => hb d g' L' H' a xs (at_ st) (rel.less (at_ st)) (po _ H' (back st) (rel.less (at_ st)))
    | exc n g' =>
      rw [e2] at po
      exact fun L' H' st rel => po _ H' (back st) (rel.less (at_ st))
    | bad => rw [e2] at po; exact po
  · refine ⟨L, by rw [frz_else h]; exact fr, po.mono fun d g' L' H' _ r q => hk d g' L' H' r q⟩
def eBor (i : Nat) (f : List Sl → Mo PD) : List Sl → Mo PD := fun Γ => bnd (f (frz i Γ)) fun d => lift (if plain d = true then some d else none)
theorem plain_lift {p : Pm} {W : WX} {σ : St} {L : Lay} {H : Hp} {d : PD} {g : G} {ok : PD → G → Lay → Hp → Prop} (rel : Rel p L g H) (z : Post p W σ L H ok (lift (if plain d = true then some d else none) g)) : plain d = true ∧ ok d g L H := by
  obtain ⟨x, hx, z⟩ := Post.lift z rel
  obtain ⟨h1, rfl⟩ := if_some hx
  exact ⟨h1, z L H (Stp.refl rel) rel⟩
theorem de_bor (i : Nat) {e : Expr} {f : List Sl → Mo PD} (h : DE c e f) : DE c e (eBor i f) :=
  PE.imp h fun σ H Q q => by
    obtain ⟨L0, H0, L, g, Γ, fr, po⟩ := q
    have po := Post.bind po
    obtain ⟨L1, fr1, po1⟩ := bor_of (ok' := fun d _ L' H' => ∀ v, Dq L'.S v d → Q v H') fr po (fun d g' L' H' rel z v hv => (plain_lift rel z).2 v hv) (fun d g' L' H' a xs ha rel z v hv => by
      obtain ⟨h1, h2⟩ := plain_lift rel z
      exact h2 v (hv.less ha h1))
    exact ⟨L0, H0, L1, g, _, fr1, po1⟩
theorem dt_bor (i : Nat) {e : Expr} {f : List Sl → Mo Bool} (h : DT c e f) : DT c e (sFrz i f) :=
  PT.imp h fun σ H Q q => by
    obtain ⟨L0, H0, L, g, Γ, fr, po⟩ := q
    obtain ⟨L1, fr1, po1⟩ := bor_of (f := f) (ok' := fun b _ _ H' => Q b H') fr po (fun d g' L' H' _ z => z) (fun d g' L' H' a xs ha _ z => z)
    exact ⟨L0, H0, L1, g, _, fr1, po1⟩
/-- a new list that is nobody's yet -/
def tF (p : Pm) (W : WX) (f : List Sl → Mo (List PD)) : TE := fun σ H Q => ∃ L0 H0 L g Γ, FR p L0 H0 L g Γ σ H ∧ Post p W σ L H (fun ds _ L' H' => ∀ q vs, H' q = none → DqA L'.S vs ds → Q (.ref q) (upd H' q (.lst vs))) (f Γ g)
def DF (c : Ct) (e : Expr) (f : List Sl → Mo (List PD)) : Prop := PE c.X e (tF c.p c.W f)
def fLst (f : List Sl → Mo (List PD)) : List Sl → Mo (List PD) := fun Γ => bnd (f Γ) fun ds => lift (if small ds.length = true then some ds else none)
theorem df_lst {es : List Expr} {pos : Pos} {f : List Sl → Mo (List PD)} (h : DA c es f) : DF c (.List es pos) (fLst f) :=
  PE.imp (pe_lst h) fun σ H Q q => by
    obtain ⟨L0, H0, L, g, Γ, fr, po⟩ := q
    have po := Post.bind po
    refine ⟨L0, H0, L, g, Γ, fr, po.mono fun ds g1 L1 H1 st1 rel1 po1 vs hvs => ?_⟩
    obtain ⟨z, hz, po1⟩ := po1.lift rel1
    obtain ⟨hs, rfl⟩ := if_some hz
    exact ⟨by rw [hvs.len]; exact small_le hs, fun q hq => po1 L1 H1 (Stp.refl rel1) rel1 q vs hq hvs⟩
/-- list(e) -/
def fList (f : List Sl → Mo PD) : List Sl → Mo (List PD) := fun Γ => bnd (f Γ) fun d => lift (match d with
  | .list ds => some ds
  | .tuple ds => some ds
  | _ => none)
theorem df_list {e : Expr} {f : List Sl → Mo PD} {p pos : Pos} (hm : c.X.mg "list" = none) (h : DE c e f) (hg : Gl c.X "list" := by rfl) (hs : starEach [e] c.X.env = (false, eval e c.X.env) :: starEach [] c.X.env := by rfl) (hpl : (backTo pos (starEach [] c.X.env)).any (·.1) = false := by rfl) :
    DF c (.Call (.Name "list" p) [e] [] pos) (fList f) :=
  PE.imp (pe_callTy call_list_of hg hm PyProof.Rows.boot_list (pa_cons h pa_nil hs) (by decide) (by decide) hs hpl) fun σ H Q q => by
    obtain ⟨L0, H0, L, g, Γ, fr, po⟩ := q
    have po := Post.bind po
    refine ⟨L0, H0, L, g, Γ, fr, po.mono fun d g1 L1 H1 st1 rel1 po1 v hv => ?_⟩
    obtain ⟨z, hz, po1⟩ := po1.lift rel1
    cases hv with
    | lst hS hA => cases hz; exact ⟨_, _, rfl, .inl (SqL.of (rel1.s _ _ hS)), fun l hl => po1 L1 H1 (Stp.refl rel1) rel1 l _ hl hA⟩
    | tup hS hA hN => cases hz; exact ⟨_, _, rfl, .inr (SqTF (rel1.s _ _ hS)), fun l hl => po1 L1 H1 (Stp.refl rel1) rel1 l _ hl hA⟩
    | non => cases hz
    | bl _ => cases hz
    | int _ => cases hz
    | str _ => cases hz
def sOwn (i : Nat) (f : List Sl → Mo (List PD)) : List Sl → Mo Fl := fun Γ => bnd (f Γ) fun ds => ret (.next (Γ.set i (.own ds)))
theorem ds_own (i : Nat) {x : Str} {e : Expr} {f : List Sl → Mo (List PD)} {pos pos' : Pos} (ok : c.Ok k) (h : DF c e f) (hi : c.X.N[i]? = some x := by rfl) (hx : Loc c.X.env.scope x := by first | exact Or.inl rfl | exact Or.inr rfl) (hs : swapsWith e (some (.Name x pos')) pos.line c.X.env = pure false := by rfl)
    (hf : c.X.fn x = true ∨ c.X.env.scope.names.lookup x = some .local := by first | exact .inl rfl | exact .inr rfl) : DS c (.Assign [.Name x pos'] e pos) (sOwn i f) :=
  PS.imp (ps_set ok.nd hi hx h hs hf) fun D σ H q => by
    obtain ⟨L0, H0, L, g, Γ, fr, po⟩ := q
    have po := PostS.bind fr po
    exact ⟨L0, H0, L, g, Γ, fr, po.mono fun ds g1 L1 H1 st1 rel1 po1 q vs hq hvs => PostS.pure po1 ((fr.step st1 rel1).setOwn i hq hvs)⟩
def getOw : Option Sl → Option (List PD)
  | some (.own ds) => some ds
  | _ => none
theorem getOw_some {o : Option Sl} {d : List PD} (h : getOw o = some d) : o = some (.own d) := by
  cases o with
  | none => cases h
  | some s =>
    cases s with
    | val x => cases h
    | own _ => cases h; rfl
    | obj _ => cases h
    | pin _ => cases h
    | dead => cases h
/-- x.append(e) -/
def sApp (i : Nat) (f : List Sl → Mo PD) : List Sl → Mo Fl := fun Γ => bnd (lift (getOw Γ[i]?)) fun ds => bnd (f Γ) fun d => lift (if small ds.length = true then some (.next (Γ.set i (.own (ds ++ [d])))) else none)
theorem ds_app (i : Nat) {x : Str} {e : Expr} {f : List Sl → Mo PD} {p1 p2 p4 p5 : Pos} (he : DE c e f) (hN : c.X.N[i]? = some x := by rfl) (hv : Vis c.X.env.scope x := by first | exact Or.inl rfl | exact Or.inr (Or.inl rfl) | exact Or.inr (Or.inr rfl))
    (hd : (x == ("__debug__" : Str)) = false := by decide) (hcd : (x == ("__classdict__" : Str)) = false := by decide) (hline : (p2.endLine == p4.line) = true := by rfl)
    (hfew : ((backTo p4 (starEach [e] c.X.env)).all (fun x => !x.1) && (backToKw p4 (keywordEach [] c.X.env)).all (fun x => x.1.isSome) && decide ([e].length + ([] : List Keyword).length + (if ([] : List Keyword).isEmpty then 0 else 1) < 30)) = true := by rfl)
    (hs : starEach [e] c.X.env = (false, eval e c.X.env) :: starEach [] c.X.env := by rfl) (hw : swapsWith (.Call (.Attribute (.Name x p1) "append" p2) [e] [] p4) none p5.line c.X.env = pure false := by rfl) :
    DS c (.Expr (.Call (.Attribute (.Name x p1) "append" p2) [e] [] p4) p5) (sApp i f) :=
  PS.imp (ps_expr (pe_bm PySem.F.plainAttrs_list PySem.F.slot_list_append PySem.F.type_list_append mt_append (pe_var hN hv hd hcd) (pa_cons he pa_nil hs) rfl hfew hline hs rfl) hw) fun D σ H q => by
    obtain ⟨L0, H0, L, g, Γ, fr, po⟩ := q
    obtain ⟨ds, ho, po⟩ := Post.lift (PostS.bind fr po) fr.rel
    have po := PostS.bind fr (po L H (Stp.refl fr.rel) fr.rel)
    have ho := getOw_some ho
    obtain ⟨a, xs, e, h1, h2, h3, h4, h5⟩ := fr.own ho
    refine ⟨_, e, .inl ⟨rfl, _, .inl (.inl h1)⟩, L0, H0, L, g, Γ, fr, po.mono fun d g1 L1 H1 st1 rel1 po1 v hv => ?_⟩
    obtain ⟨h1', _, _⟩ := st1.apart h1 h3 h4
    have fr1 := fr.step st1 rel1
    cases hs : small ds.length with
    | false => rw [hs] at po1; exact po1.elim
    | true =>
      rw [hs] at po1
      refine ⟨a, xs, v, rfl, rfl, h1', by rw [h2.len]; exact small_lt hs, ?_⟩
      exact po1 L1 σ _ (fr1.putOwn (xs := xs) ho e ((h2.mono st1.ss).app (.cons hv .nil))) (Same.refl _)
/-- y = x.pop() -/
def sPop (j i : Nat) : List Sl → Mo Fl := fun Γ => bnd (lift (getOw Γ[i]?)) fun ds => lift (match ds.getLast? with
  | some d => some (.next ((Γ.set i (.own ds.dropLast)).set j (.val d)))
  | none => none)
theorem DqA.dropLast {S : Hp} {vs : List V} {ds : List PD} (h : DqA S vs ds) : DqA S vs.dropLast ds.dropLast := by
  rw [List.dropLast_eq_take, List.dropLast_eq_take, h.len]
  exact h.take _
theorem FR.pop {p : Pm} {L0 L : Lay} {H0 H : Hp} {g : G} {Γ : List Sl} {σ : St} (fr : FR p L0 H0 L g Γ σ H) {i : Nat} {ds : List PD} {d : PD} (ho : Γ[i]? = some (.own ds)) (hl : ds.getLast? = some d) :
    ∃ a xs y, σ[i]? = some (some (.ref a)) ∧ H a = some (.lst xs) ∧ xs[xs.length - 1]? = some y ∧ Dq L.S y d ∧ FR p L0 H0 L g (Γ.set i (.own ds.dropLast)) σ (upd H a (.lst xs.dropLast)) := by
  obtain ⟨a, xs, e, h1, h2, h3, h4, h5⟩ := fr.own ho
  rw [List.getLast?_eq_getElem?] at hl
  obtain ⟨y, hy, hq⟩ := h2.get hl
  rw [← h2.len] at hy
  exact ⟨a, xs, y, e, h1, hy, hq, fr.putOwn (xs := xs) ho e h2.dropLast⟩
theorem ds_pop (j i : Nat) {x y : Str} {p1 p2 p3 p4 p5 : Pos} (ok : c.Ok k) (hN : c.X.N[i]? = some x := by rfl) (hv : Vis c.X.env.scope x := by first | exact Or.inl rfl | exact Or.inr (Or.inl rfl) | exact Or.inr (Or.inr rfl))
    (hd : (x == ("__debug__" : Str)) = false := by decide) (hcd : (x == ("__classdict__" : Str)) = false := by decide) (hline : (p2.endLine == p4.line) = true := by rfl) (hj : c.X.N[j]? = some y := by rfl) (hy : Loc c.X.env.scope y := by first | exact Or.inl rfl | exact Or.inr rfl)
    (hw : swapsWith (.Call (.Attribute (.Name x p1) "pop" p2) [] [] p4) (some (.Name y p3)) p5.line c.X.env = pure false := by rfl) (hf : c.X.fn y = true ∨ c.X.env.scope.names.lookup y = some .local := by first | exact .inl rfl | exact .inr rfl) :
    DS c (.Assign [.Name y p3] (.Call (.Attribute (.Name x p1) "pop" p2) [] [] p4) p5) (sPop j i) :=
  PS.imp (ps_set ok.nd hj hy (pe_bm0 PySem.F.plainAttrs_list PySem.F.slot_list_pop PySem.F.type_list_pop mt_pop (pe_var hN hv hd hcd) rfl hline) hw hf) fun D σ H q => by
    obtain ⟨L0, H0, L, g, Γ, fr, po⟩ := q
    obtain ⟨ds, ho, po⟩ := Post.lift (PostS.bind fr po) fr.rel
    have po := po L H (Stp.refl fr.rel) fr.rel
    dsimp only at po
    have ho := getOw_some ho
    cases hl : ds.getLast? with
    | none => rw [hl] at po; exact po.elim
    | some d =>
      rw [hl] at po
      obtain ⟨a, xs, y, e, h1, hy, hq, fr'⟩ := fr.pop ho hl
      refine ⟨_, e, .inl ⟨rfl, _, .inl (.inl h1)⟩, a, xs, y, rfl, rfl, h1, hy, ?_⟩
      exact po L _ _ (fr'.set j hq) (Same.refl _)
/-- z.append((x.pop(), y)) -/
def sAppPop (m i j : Nat) : List Sl → Mo Fl := fun Γ => bnd (lift (getOw Γ[m]?)) fun zs => bnd (lift (getOw Γ[i]?)) fun ds => bnd (eVar j Γ) fun w => lift (match ds.getLast? with
  | some d => if (small zs.length && Nat.blt 0 zs.length.succ && !Nat.beq m i) = true then some (.next ((Γ.set i (.own ds.dropLast)).set m (.own (zs ++ [.tuple [d, w]])))) else none
  | none => none)
theorem ds_appPop (m i j : Nat) {x y z : Str} {p0 p1 p2 p3 p4 p5 p6 p7 p8 : Pos} {kk : Nat} (ok : c.Ok k) (hN : c.X.N[i]? = some x := by rfl) (hv : Vis c.X.env.scope x := by first | exact Or.inl rfl | exact Or.inr (Or.inl rfl) | exact Or.inr (Or.inr rfl))
    (hd : (x == ("__debug__" : Str)) = false := by decide) (hcd : (x == ("__classdict__" : Str)) = false := by decide) (hline : (p2.endLine == p4.line) = true := by rfl) (hNy : c.X.N[j]? = some y := by rfl) (hvy : Vis c.X.env.scope y := by first | exact Or.inl rfl | exact Or.inr (Or.inl rfl) | exact Or.inr (Or.inr rfl))
    (hdy : (y == ("__debug__" : Str)) = false := by decide) (hcdy : (y == ("__classdict__" : Str)) = false := by decide) (hNz : c.X.N[m]? = some z := by rfl) (hvz : Vis c.X.env.scope z := by first | exact Or.inl rfl | exact Or.inr (Or.inl rfl) | exact Or.inr (Or.inr rfl))
    (hdz : (z == ("__debug__" : Str)) = false := by decide) (hcdz : (z == ("__classdict__" : Str)) = false := by decide) (hline2 : (p6.endLine == p7.line) = true := by rfl)
    (hw : swapsWith (.Call (.Attribute (.Name z p0) "append" p6) [.Tuple [.Call (.Attribute (.Name x p1) "pop" p2) [] [] p4, .Name y p3] kk p5] [] p7) none p8.line c.X.env = pure false := by rfl) :
    DS c (.Expr (.Call (.Attribute (.Name z p0) "append" p6) [.Tuple [.Call (.Attribute (.Name x p1) "pop" p2) [] [] p4, .Name y p3] kk p5] [] p7) p8) (sAppPop m i j) :=
  PS.imp (ps_expr (pe_bm PySem.F.plainAttrs_list PySem.F.slot_list_append PySem.F.type_list_append mt_append (pe_var hNz hvz hdz hcdz) (pa_cons (pe_tupF (pa_cons (pe_bm0 PySem.F.plainAttrs_list PySem.F.slot_list_pop PySem.F.type_list_pop mt_pop (pe_var hN hv hd hcd) rfl hline) (pa_cons (pe_var hNy hvy hdy hcdy) pa_nil))) pa_nil) rfl rfl hline2 rfl rfl) hw) fun D σ H q => by
    obtain ⟨L0, H0, L, g, Γ, fr, po⟩ := q
    obtain ⟨zs, hz, po⟩ := Post.lift (PostS.bind fr po) fr.rel
    obtain ⟨ds, ho, po⟩ := Post.lift (PostS.bind fr (po L H (Stp.refl fr.rel) fr.rel)) fr.rel
    obtain ⟨w, hwv, po⟩ := Post.lift (PostS.bind fr (po L H (Stp.refl fr.rel) fr.rel)) fr.rel
    have po := po L H (Stp.refl fr.rel) fr.rel
    dsimp only at po
    have hz := getOw_some hz
    have ho := getOw_some ho
    have hwv := getV_some hwv
    have hlt : j < σ.length := by rw [← fr.len]; exact (List.getElem?_eq_some_iff.mp hwv).1
    obtain ⟨wv, we, hw'⟩ := fr.sl j _ _ hwv (List.getElem?_eq_getElem hlt)
    have we' : σ[j]? = some (some wv) := by rw [List.getElem?_eq_getElem hlt, we]
    cases hl : ds.getLast? with
    | none => rw [hl] at po; exact po.elim
    | some d =>
      rw [hl] at po
      cases hb : (small zs.length && Nat.blt 0 zs.length.succ && !Nat.beq m i) with
      | false => rw [hb] at po; exact po.elim
      | true =>
        rw [hb] at po
        rw [Bool.and_eq_true, Bool.and_eq_true] at hb
        have hmi : m ≠ i := fun e => by
          subst e
          have h2 := hb.2
          rw [Nat.beq_refl] at h2
          cases h2
        obtain ⟨b, ys, e0, g1, g2, g3, g4, g5⟩ := fr.own hz
        obtain ⟨a, xs, y, e, h1, hy, hq, fr'⟩ := fr.pop ho hl
        have hz' : (Γ.set i (.own ds.dropLast))[m]? = some (.own zs) := by rw [List.getElem?_set_ne (Ne.symm hmi)]; exact hz
        obtain ⟨b', ys', e0', g1', g2', g3', g4', g5'⟩ := fr'.own hz'
        rw [e0] at e0'
        cases e0'
        refine ⟨_, e0, .inl ⟨rfl, _, .inl (.inl g1)⟩, _, e, .inl ⟨rfl, _, .inl (.inl h1)⟩, a, xs, y, rfl, rfl, h1, hy, wv, we', (by show 2 ≤ sizeLine; decide), fun t o ht hN => ?_⟩
        have fr2 := fr'.step (Stp.new fr'.rel (o := .frz o (.tup [y, wv])) ht) (fr'.rel.new ht)
        have up := same_new (o := .frz o (.tup [y, wv])) (fr'.rel.sq ht)
        have g1'' : upd (upd H a (.lst xs.dropLast)) t (.frz o (.tup [y, wv])) b = some (.lst ys') := by rw [upd_ne (ne_of_none g1' ht)]; exact g1'
        refine ⟨b, ys', _, rfl, rfl, g1'', by rw [g2'.len]; exact small_lt hb.1.1, ?_⟩
        exact po _ σ _ (fr2.putOwn (xs := ys') hz' e0 ((g2'.mono up).app (.cons (.tup upd_same (.cons (hq.mono up) (.cons (hw'.mono up) .nil)) hN) .nil))) up
/-- x[e1] = e2 -/
def setAt (Γ : List Sl) (i : Nat) (ds : List PD) (d : PD) : PD → Option Fl
  | .int n => (ixN ds.length n).map fun j => .next (Γ.set i (.own (ds.set j d)))
  | _ => none
def sSetIx (i : Nat) (fi fe : List Sl → Mo PD) : List Sl → Mo Fl := fun Γ => bnd (lift (getOw Γ[i]?)) fun ds => bnd (fe Γ) fun d => bnd (fi Γ) fun ix => lift (setAt Γ i ds d ix)
theorem ds_setIx (i : Nat) {x : Str} {e1 e2 : Expr} {fi fe : List Sl → Mo PD} {p1 p2 pos : Pos} (h1 : DE c e1 fi) (h2 : DE c e2 fe) (hN : c.X.N[i]? = some x := by rfl) (hv : Vis c.X.env.scope x := by first | exact Or.inl rfl | exact Or.inr (Or.inl rfl) | exact Or.inr (Or.inr rfl))
    (hd : (x == ("__debug__" : Str)) = false := by decide) (hcd : (x == ("__classdict__" : Str)) = false := by decide)
    (ha : ∀ v, assign (.Subscript (.Name x p1) e1 p2) c.X.env v = (do
      let ov ← holding [v] (eval (.Name x p1) c.X.env)
      let iv ← holding [v, ov] (eval e1 c.X.env)
      standAt p2
      holding [v, ov, iv] (setItem ov iv v)
      release [v, ov, iv] []) := by intro _; rfl)
    (hs : swapsWithSole [.Subscript (.Name x p1) e1 p2] e2 pos.line c.X.env = pure false := by rfl) (hw : swappedStores [.Subscript (.Name x p1) e1 p2] e2 c.X.env = pure none := by rfl)
    (hq : (assignEach [.Subscript (.Name x p1) e1 p2] c.X.env).map (·.2) = [assign (.Subscript (.Name x p1) e1 p2) c.X.env] := by rfl) : DS c (.Assign [.Subscript (.Name x p1) e1 p2] e2 pos) (sSetIx i fi fe) :=
  PS.imp (ps_asg h2 (pg_sub (pe_var hN hv hd hcd) h1 set_list ha) hs hw hq) fun D σ H q => by
    obtain ⟨L0, H0, L, g, Γ, fr, po⟩ := q
    obtain ⟨ds, ho, po⟩ := Post.lift (PostS.bind fr po) fr.rel
    have po := PostS.bind fr (po L H (Stp.refl fr.rel) fr.rel)
    have ho := getOw_some ho
    obtain ⟨a, xs, e, g1, g2, g3, g4, g5⟩ := fr.own ho
    refine ⟨L0, H0, L, g, Γ, fr, po.mono fun d g1' L1 H1 st1 rel1 po1 v hv => ?_⟩
    have fr1 := fr.step st1 rel1
    have po1 := PostS.bind fr1 po1
    refine ⟨_, e, L0, H0, L1, g1', Γ, fr1, po1.mono fun ix g2' L2 H2 st2 rel2 po2 u hu => ?_⟩
    have fr2 := fr1.step st2 rel2
    obtain ⟨b1, b2, b3⟩ := st1.apart g1 g3 g4
    obtain ⟨c1, c2, c3⟩ := st2.apart b1 b2 b3
    cases hz : setAt Γ i ds d ix with
    | none => rw [hz] at po2; exact po2.elim
    | some r =>
      rw [hz] at po2
      cases hu with
      | int n =>
        obtain ⟨j, hj, rfl⟩ := Option.map_eq_some_iff.mp hz
        refine ⟨a, xs, n, j, rfl, rfl, c1, by rw [g2.len]; exact hj, ?_⟩
        exact po2 L2 σ _ (fr2.putOwn (xs := xs) ho e (((g2.mono st1.ss).mono st2.ss).set j (hv.mono st2.ss))) (Same.refl _)
      | non => cases hz
      | bl _ => cases hz
      | str _ => cases hz
      | lst _ _ => cases hz
      | tup _ _ _ => cases hz
/-- x.extend([..]) -/
def sExt (i : Nat) (f : List Sl → Mo (List PD)) : List Sl → Mo Fl := fun Γ => bnd (lift (getOw Γ[i]?)) fun ds => bnd (f Γ) fun es => lift (if small (ds.length + es.length) = true then some (.next (Γ.set i (.own (ds ++ es)))) else none)
theorem ds_ext (i : Nat) {x : Str} {es : List Expr} {f : List Sl → Mo (List PD)} {p1 p2 p3 p4 p5 : Pos} (he : DA c es f) (hN : c.X.N[i]? = some x := by rfl) (hv : Vis c.X.env.scope x := by first | exact Or.inl rfl | exact Or.inr (Or.inl rfl) | exact Or.inr (Or.inr rfl))
    (hd : (x == ("__debug__" : Str)) = false := by decide) (hcd : (x == ("__classdict__" : Str)) = false := by decide) (hline : (p2.endLine == p4.line) = true := by rfl)
    (hw : swapsWith (.Call (.Attribute (.Name x p1) "extend" p2) [.List es p3] [] p4) none p5.line c.X.env = pure false := by rfl) :
    DS c (.Expr (.Call (.Attribute (.Name x p1) "extend" p2) [.List es p3] [] p4) p5) (sExt i f) :=
  PS.imp (ps_expr (pe_bm PySem.F.plainAttrs_list PySem.F.slot_list_extend PySem.F.type_list_extend mt_extend (pe_var hN hv hd hcd) (pa_cons (pe_lst he) pa_nil rfl) rfl rfl hline rfl rfl) hw) fun D σ H q => by
    obtain ⟨L0, H0, L, g, Γ, fr, po⟩ := q
    obtain ⟨ds, ho, po⟩ := Post.lift (PostS.bind fr po) fr.rel
    have po := PostS.bind fr (po L H (Stp.refl fr.rel) fr.rel)
    have ho := getOw_some ho
    obtain ⟨a, xs, e, h1, h2, h3, h4, h5⟩ := fr.own ho
    refine ⟨_, e, .inl ⟨rfl, _, .inl (.inl h1)⟩, L0, H0, L, g, Γ, fr, po.mono fun es g1 L1 H1 st1 rel1 po1 vs hvs => ?_⟩
    have fr1 := fr.step st1 rel1
    cases hs : small (ds.length + es.length) with
    | false => rw [hs] at po1; exact po1.elim
    | true =>
      rw [hs] at po1
      have hle := small_le hs
      refine ⟨by rw [hvs.len]; omega, fun q hq => ?_⟩
      have rel2 := rel1.new (o := .lst vs) hq
      have st2 := Stp.new rel1 (o := .lst vs) hq
      have fr2 := fr1.step st2 rel2
      obtain ⟨b1, b2, b3⟩ := st1.apart h1 h3 h4
      obtain ⟨c1, c2, c3⟩ := st2.apart b1 b2 b3
      refine ⟨a, q, xs, vs, rfl, rfl, c1, upd_same, by rw [h2.len, hvs.len]; exact hle, ?_⟩
      exact po1 _ σ _ (fr2.putOwn (xs := xs) ho e (((h2.mono st1.ss).app hvs).mono st2.ss)) st2.ss
/-! ### a, b = e1, e2 -/
def sPar (i j : Nat) (f : List Sl → Mo (List PD)) : List Sl → Mo Fl := fun Γ => bnd (f Γ) fun ds => lift (match ds with
  | [x, y] => some (.next ((Γ.set i (.val x)).set j (.val y)))
  | _ => none)
theorem ds_par (i j : Nat) {x y : Str} {a b : Expr} {f : List Sl → Mo (List PD)} {px py pt pt2 pos : Pos} {kt k2 : Nat} (ok : c.Ok k) (ha : DA c [a, b] f) (hi : c.X.N[i]? = some x := by rfl) (hj : c.X.N[j]? = some y := by rfl) (hij : i ≠ j := by decide)
    (hx : c.X.env.scope.names.lookup x = some .local := by rfl) (hy : c.X.env.scope.names.lookup y = some .local := by rfl)
    (hw : swappedStores [.Tuple [.Name x px, .Name y py] kt pt] (.Tuple [a, b] k2 pt2) c.X.env = pure (some [x, y]) := by rfl)
    (hs : swapsWithSole [.Tuple [.Name x px, .Name y py] kt pt] (.Tuple [a, b] k2 pt2) pos.line c.X.env = pure false := by rfl) :
    DS c (.Assign [.Tuple [.Name x px, .Name y py] kt pt] (.Tuple [a, b] k2 pt2) pos) (sPar i j f) :=
  PS.imp (ps_par ok.cm ok.nd hi hj hij hx hy ha hw hs) fun D σ H q => by
    obtain ⟨L0, H0, L, g, Γ, fr, po⟩ := q
    have po := PostS.bind fr po
    refine ⟨L0, H0, L, g, Γ, fr, po.mono fun ds g1 L1 H1 st1 rel1 po1 vs hvs => ?_⟩
    have fr1 := fr.step st1 rel1
    match ds, hvs, po1 with
    | [d, e], .cons hd (.cons he .nil), po1 => exact ⟨_, _, rfl, po1 L1 _ _ ((fr1.set i hd).set j he) (Same.refl _)⟩
/-- an allocated list becomes a slot's own -/
theorem FR.adopt {p : Pm} {L0 L : Lay} {H0 H : Hp} {g : G} {Γ : List Sl} {σ : St} (fr : FR p L0 H0 L g Γ σ H) (i : Nat) {q : Addr} {vs : List V} {ds : List PD} (hH : H q = some (.lst vs)) (hA : DqA L.S vs ds) (hS : L.S q = none) (hM : L.M q = none) (h0 : H0 q = none)
    (hne : ∀ (m : Nat) (es : List PD) (a : Addr), Γ[m]? = some (Sl.own es) → σ[m]? = some (some (V.ref a)) → a ≠ q) : FR p L0 H0 L g (Γ.set i (.own ds)) (σ.set i (some (.ref q))) H := by
  refine ⟨fr.rel, fr.st, by rw [List.length_set, List.length_set]; exact fr.len, fun j s o h1 h2 => ?_, fun j k ds' es a hjk h1 h2 h3 h4 => ?_⟩
  · rcases set_get h1 with ⟨rfl, rfl, hi⟩ | ⟨hij, h1⟩
    · rcases set_get h2 with ⟨_, rfl, _⟩ | ⟨z, _⟩
      · exact ⟨q, vs, rfl, hH, hA, hS, hM, h0⟩
      · exact absurd rfl z
    · rcases set_get h2 with ⟨z, _, _⟩ | ⟨_, h2⟩
      · exact absurd z hij
      · exact fr.sl j s o h1 h2
  · have other : ∀ (m : Nat) (es : List PD), (Γ.set i (Sl.own ds))[m]? = some (Sl.own es) → i ≠ m → (σ.set i (some (V.ref q)))[m]? = some (some (V.ref a)) → a ≠ q := fun m es hm him hs => by
      rcases set_get hm with ⟨z, _, _⟩ | ⟨_, hm⟩
      · exact absurd z him
      · rcases set_get hs with ⟨z, _, _⟩ | ⟨_, hs⟩
        · exact absurd z him
        · exact hne m es a hm hs
    by_cases ij : i = j
    · by_cases ik : i = k
      · exact hjk (ij.symm.trans ik)
      · rcases set_get h3 with ⟨_, e, _⟩ | ⟨z, _⟩
        · cases e
          exact other k es h2 ik h4 rfl
        · exact z ij
    · by_cases ik : i = k
      · rcases set_get h4 with ⟨_, e, _⟩ | ⟨z, _⟩
        · cases e
          exact other j ds' h1 ij h3 rfl
        · exact z ik
      · rcases set_get h1 with ⟨z, _, _⟩ | ⟨_, h1⟩
        · exact ij z
        rcases set_get h2 with ⟨z, _, _⟩ | ⟨_, h2⟩
        · exact ik z
        rcases set_get h3 with ⟨z, _, _⟩ | ⟨_, h3⟩
        · exact ij z
        rcases set_get h4 with ⟨z, _, _⟩ | ⟨_, h4⟩
        · exact ik z
        exact fr.dis j k ds' es a hjk h1 h2 h3 h4
theorem FR.ne {p : Pm} {L0 L : Lay} {H0 H : Hp} {g : G} {Γ : List Sl} {σ : St} (fr : FR p L0 H0 L g Γ σ H) {q : Addr} (hq : H q = none) (m : Nat) (es : List PD) (a : Addr) (h1 : Γ[m]? = some (Sl.own es)) (h2 : σ[m]? = some (some (V.ref a))) : a ≠ q := by
  obtain ⟨b, xs, e, r1, _⟩ := fr.own h1
  rw [h2] at e
  cases e
  exact ne_of_none r1 hq
theorem FR.alloc {p : Pm} {L0 L : Lay} {H0 H : Hp} {g : G} {Γ : List Sl} {σ : St} (fr : FR p L0 H0 L g Γ σ H) {q : Addr} {o : HO} (hq : H q = none) : FR p L0 H0 L g Γ σ (upd H q o) := by
  refine ⟨fr.rel.at (fr.rel.sq hq) (fr.rel.mq hq), fr.st.at (fr.st.free hq), fr.len, fun j s o h1 h2 => ?_, fr.dis⟩
  have r := fr.sl j s o h1 h2
  cases s with
  | own es =>
    obtain ⟨a, xs, e, r1, r2⟩ := r
    exact ⟨a, xs, e, by rw [upd_ne (ne_of_none r1 hq)]; exact r1, r2⟩
  | val d => exact r
  | obj n => exact r
  | pin n => exact r
  | dead => trivial
/-- e1 a new own list, e2 data -/
def sParOV (i j : Nat) (f1 : List Sl → Mo (List PD)) (f2 : List Sl → Mo PD) : List Sl → Mo Fl := fun Γ => bnd (f1 Γ) fun ds => bnd (f2 Γ) fun d => ret (.next ((Γ.set i (.own ds)).set j (.val d)))
def sParVO (i j : Nat) (f1 : List Sl → Mo PD) (f2 : List Sl → Mo (List PD)) : List Sl → Mo Fl := fun Γ => bnd (f1 Γ) fun d => bnd (f2 Γ) fun ds => ret (.next ((Γ.set i (.val d)).set j (.own ds)))
def sParOO (i j : Nat) (f1 f2 : List Sl → Mo (List PD)) : List Sl → Mo Fl := fun Γ => bnd (f1 Γ) fun ds => bnd (f2 Γ) fun es => ret (.next ((Γ.set i (.own ds)).set j (.own es)))
section
variable {i j : Nat} {x y : Str} {a b : Expr} {px py pt pt2 pos : Pos} {kt k2 : Nat}
theorem ds_parOV (i j : Nat) {f1 : List Sl → Mo (List PD)} {f2 : List Sl → Mo PD} (ok : c.Ok k) (ha : DF c a f1) (hb : DE c b f2) (hi : c.X.N[i]? = some x := by rfl) (hj : c.X.N[j]? = some y := by rfl) (hij : i ≠ j := by decide)
    (hx : c.X.env.scope.names.lookup x = some .local := by rfl) (hy : c.X.env.scope.names.lookup y = some .local := by rfl)
    (hw : swappedStores [.Tuple [.Name x px, .Name y py] kt pt] (.Tuple [a, b] k2 pt2) c.X.env = pure (some [x, y]) := by rfl)
    (hs : swapsWithSole [.Tuple [.Name x px, .Name y py] kt pt] (.Tuple [a, b] k2 pt2) pos.line c.X.env = pure false := by rfl)
    (h1 : starEach [a, b] c.X.env = (false, eval a c.X.env) :: starEach [b] c.X.env := by rfl) (h2 : starEach [b] c.X.env = (false, eval b c.X.env) :: starEach [] c.X.env := by rfl) :
    DS c (.Assign [.Tuple [.Name x px, .Name y py] kt pt] (.Tuple [a, b] k2 pt2) pos) (sParOV i j f1 f2) :=
  PS.imp (ps_par ok.cm ok.nd hi hj hij hx hy (pa_cons ha (pa_cons hb pa_nil h2) h1) hw hs) fun D σ H q => by
    obtain ⟨L0, H0, L, g, Γ, fr, po⟩ := q
    have po := PostS.bind fr po
    refine ⟨L0, H0, L, g, Γ, fr, po.mono fun ds g1 L1 H1 st1 rel1 po1 q vs hq hvs => ?_⟩
    have fr1 := fr.step st1 rel1
    have fr1' := fr1.alloc (o := .lst vs) hq
    have po1 := PostS.bind fr1' po1
    refine ⟨L0, H0, L1, g1, Γ, fr1', po1.mono fun d g2 L2 H2 st2 rel2 po2 v hv => ?_⟩
    obtain ⟨c1, c2, c3⟩ := st2.apart upd_same (rel1.sq hq) (rel1.mq hq)
    have fr2 := fr1'.step st2 rel2
    exact ⟨_, _, rfl, PostS.pure po2 ((fr2.adopt i c1 (hvs.mono st2.ss) c2 c3 (fr1.st.free hq) (fun m es a => fr1.ne hq m es a)).set j hv)⟩
theorem ds_parVO (i j : Nat) {f1 : List Sl → Mo PD} {f2 : List Sl → Mo (List PD)} (ok : c.Ok k) (ha : DE c a f1) (hb : DF c b f2) (hi : c.X.N[i]? = some x := by rfl) (hj : c.X.N[j]? = some y := by rfl) (hij : i ≠ j := by decide)
    (hx : c.X.env.scope.names.lookup x = some .local := by rfl) (hy : c.X.env.scope.names.lookup y = some .local := by rfl)
    (hw : swappedStores [.Tuple [.Name x px, .Name y py] kt pt] (.Tuple [a, b] k2 pt2) c.X.env = pure (some [x, y]) := by rfl)
    (hs : swapsWithSole [.Tuple [.Name x px, .Name y py] kt pt] (.Tuple [a, b] k2 pt2) pos.line c.X.env = pure false := by rfl)
    (h1 : starEach [a, b] c.X.env = (false, eval a c.X.env) :: starEach [b] c.X.env := by rfl) (h2 : starEach [b] c.X.env = (false, eval b c.X.env) :: starEach [] c.X.env := by rfl) :
    DS c (.Assign [.Tuple [.Name x px, .Name y py] kt pt] (.Tuple [a, b] k2 pt2) pos) (sParVO i j f1 f2) :=
  PS.imp (ps_par ok.cm ok.nd hi hj hij hx hy (pa_cons ha (pa_cons hb pa_nil h2) h1) hw hs) fun D σ H q => by
    obtain ⟨L0, H0, L, g, Γ, fr, po⟩ := q
    have po := PostS.bind fr po
    refine ⟨L0, H0, L, g, Γ, fr, po.mono fun d g1 L1 H1 st1 rel1 po1 v hv => ?_⟩
    have fr1 := fr.step st1 rel1
    have po1 := PostS.bind fr1 po1
    refine ⟨L0, H0, L1, g1, Γ, fr1, po1.mono fun ds g2 L2 H2 st2 rel2 po2 q vs hq hvs => ?_⟩
    have fr2 := (fr1.step st2 rel2).set i (hv.mono st2.ss)
    exact ⟨_, _, rfl, PostS.pure po2 (fr2.setOwn j hq hvs)⟩
theorem ds_parOO (i j : Nat) {f1 f2 : List Sl → Mo (List PD)} (ok : c.Ok k) (ha : DF c a f1) (hb : DF c b f2) (hi : c.X.N[i]? = some x := by rfl) (hj : c.X.N[j]? = some y := by rfl) (hij : i ≠ j := by decide)
    (hx : c.X.env.scope.names.lookup x = some .local := by rfl) (hy : c.X.env.scope.names.lookup y = some .local := by rfl)
    (hw : swappedStores [.Tuple [.Name x px, .Name y py] kt pt] (.Tuple [a, b] k2 pt2) c.X.env = pure (some [x, y]) := by rfl)
    (hs : swapsWithSole [.Tuple [.Name x px, .Name y py] kt pt] (.Tuple [a, b] k2 pt2) pos.line c.X.env = pure false := by rfl)
    (h1 : starEach [a, b] c.X.env = (false, eval a c.X.env) :: starEach [b] c.X.env := by rfl) (h2 : starEach [b] c.X.env = (false, eval b c.X.env) :: starEach [] c.X.env := by rfl) :
    DS c (.Assign [.Tuple [.Name x px, .Name y py] kt pt] (.Tuple [a, b] k2 pt2) pos) (sParOO i j f1 f2) :=
  PS.imp (ps_par ok.cm ok.nd hi hj hij hx hy (pa_cons ha (pa_cons hb pa_nil h2) h1) hw hs) fun D σ H q => by
    obtain ⟨L0, H0, L, g, Γ, fr, po⟩ := q
    have po := PostS.bind fr po
    refine ⟨L0, H0, L, g, Γ, fr, po.mono fun ds g1 L1 H1 st1 rel1 po1 q vs hq hvs => ?_⟩
    have fr1 := fr.step st1 rel1
    have fr1' := fr1.alloc (o := .lst vs) hq
    have po1 := PostS.bind fr1' po1
    refine ⟨L0, H0, L1, g1, Γ, fr1', po1.mono fun es g2 L2 H2 st2 rel2 po2 r us hr hus => ?_⟩
    obtain ⟨c1, c2, c3⟩ := st2.apart upd_same (rel1.sq hq) (rel1.mq hq)
    have fr2 := (fr1'.step st2 rel2).adopt i c1 (hvs.mono st2.ss) c2 c3 (fr1.st.free hq) (fun m es a => fr1.ne hq m es a)
    exact ⟨_, _, rfl, PostS.pure po2 (fr2.setOwn j hr hus)⟩
end
end
end Av

namespace Av
open PySem PySem.Spec L2
open PyProof.Rows hiding St
set_option autoImplicit false
section
variable {c : Ct} {k : Nat}
/-! ### t * k, s * k -/
def okN (j : Int) : Bool := decide (-1000 ≤ j) && decide (j ≤ 1000)
theorem okN_b {j : Int} (h : okN j = true) : -1000 ≤ j ∧ j ≤ 1000 := by
  unfold okN at h
  rw [Bool.and_eq_true, decide_eq_true_eq, decide_eq_true_eq] at h
  exact h
def mulE : PD → PD → Option PD
  | .tuple xs, .int j => if (okN j && Nat.ble xs.length 1000) = true then some (.tuple (List.replicate j.toNat xs).flatten) else none
  | .str x, .int j => if (Nat.blt 0 x.length && Nat.ble x.length 1000 && decide (2 ≤ j) && decide (j ≤ 1000) && Nat.ble (repS x j.toNat).length 100000) = true then some (.str (repS x j.toNat)) else none
  | d, e => mulD d e
def rMulE (K : PySem.W.Frag) : R2 := fun x y H Q => rMulA x y H Q ∨ rRepS K x y H Q ∨ rRepN K x y H Q ∨ rRepF K x y H Q ∨ (∃ (z : Str) (n : Int), x = .str z ∧ y = .int n ∧ 0 < z.length ∧ z.length ≤ 1000 ∧ 2 ≤ n ∧ n ≤ 1000 ∧ (repS z n.toNat).length ≤ sizeLine ∧ Q (.str (repS z n.toNat)) H)
theorem op_mulE {X : Cx} : OpR X (binaryOp .Mult) (rMulE X.K) := op_mulA.or (op_repS.or (op_repN.or (op_repF.or op_mulS)))
theorem ops_mulE : OpS c (rMulE c.X.K) mulE := fun L gs H x y d e z Q rel hx hy hz k => by
  have old : mulD d e = some z → rMulE c.X.K x y H Q := fun h => .inl (ops_mul L gs H x y d e z Q rel hx hy h k)
  match d, e, hz with
  | .tuple xs, .int j, hz =>
    obtain ⟨hb, rfl⟩ := if_some hz
    rw [Bool.and_eq_true] at hb
    have hj := okN_b hb.1
    have hl := Nat.le_of_ble_eq_true hb.2
    cases hx with
    | tup hS hA hN =>
      cases hy
      rename_i a _ us
      have hu := hA.len
      by_cases h1 : us = [] ∨ j = 1
      · refine .inr (.inl ⟨a, j, us, rfl, rfl, SqTF (rel.s _ _ hS), h1, hj.1, hj.2, k _ L H (Stp.refl rel) rel ?_⟩)
        rcases h1 with h1 | h1
        · subst h1
          cases hA
          rw [show (List.replicate j.toNat ([] : List PD)).flatten = [] by simp]
          exact .tup hS .nil hN
        · subst h1
          rw [show (List.replicate (Int.toNat 1) xs).flatten = xs by simp]
          exact .tup hS hA hN
      · by_cases h2 : j ≤ 0
        · refine .inr (.inr (.inl ⟨a, j, us, rfl, rfl, SqTF (rel.s _ _ hS), fun e => h1 (.inl e), hj.1, h2, fun q o hq hN => ?_⟩))
          have e0 : j.toNat = 0 := by omega
          rw [e0, show (List.replicate 0 xs).flatten = [] by rfl] at k
          exact k _ _ _ (Stp.new rel hq) (rel.new hq) (.tup upd_same .nil hN)
        · refine .inr (.inr (.inr (.inl ⟨a, j, us, rfl, rfl, SqTF (rel.s _ _ hS), fun e => h1 (.inl e), ?_, hj.2, by omega, fun q o hq hN => ?_⟩)))
          · have : j ≠ 1 := fun e => h1 (.inr e)
            omega
          · exact k _ _ _ (Stp.new rel hq) (rel.new hq) (.tup upd_same ((hA.rep j.toNat).mono (same_new (rel.sq hq))) hN)
  | .none, _, hz => exact old hz
  | .bool _, _, hz => exact old hz
  | .int _, _, hz => exact old hz
  | .str x, .int j, hz =>
    obtain ⟨hb, rfl⟩ := if_some hz
    simp only [Bool.and_eq_true, decide_eq_true_eq] at hb
    cases hx
    cases hy
    have h1 := Nat.le_of_ble_eq_true hb.1.1.1.1
    have h2 := Nat.le_of_ble_eq_true hb.1.1.1.2
    exact .inr (.inr (.inr (.inr ⟨x, j, rfl, rfl, h1, h2, hb.1.1.2, hb.1.2, small_le hb.2, k _ L H (Stp.refl rel) rel (.str _)⟩)))
  | .str _, .none, hz => exact old hz
  | .str _, .bool _, hz => exact old hz
  | .str _, .str _, hz => exact old hz
  | .str _, .list _, hz => exact old hz
  | .str _, .tuple _, hz => exact old hz
  | .str _, .dict _, hz => exact old hz
  | .list _, _, hz => exact old hz
  | .dict _, _, hz => exact old hz
  | .tuple _, .none, hz => exact old hz
  | .tuple _, .bool _, hz => exact old hz
  | .tuple _, .str _, hz => exact old hz
  | .tuple _, .list _, hz => exact old hz
  | .tuple _, .tuple _, hz => exact old hz
  | .tuple _, .dict _, hz => exact old hz
theorem de_mulE {a b : Expr} {fa fb : List Sl → Mo PD} {pos : Pos} (ha : DE c a fa) (hb : DE c b fb) : DE c (.BinOp a .Mult b pos) (eBin mulE fa fb) := de_bin op_mulE ops_mulE ha hb
/-! ### slices -/
def tO (p : Pm) (W : WX) (f : List Sl → Mo (Option Int)) : TO := fun σ H Q => ∃ L0 H0 L g Γ, FR p L0 H0 L g Γ σ H ∧ Post p W σ L H (fun o _ _ H' => Q o H') (f Γ g)
def DO (c : Ct) (e : Option Expr) (f : List Sl → Mo (Option Int)) : Prop := PO c.X e (tO c.p c.W f)
theorem PO.imp {X : Cx} {e : Option Expr} {t t' : TO} (h : PO X e t) (k : ∀ σ H Q, t' σ H Q → t σ H Q) : PO X e t' := ⟨fun pins s σ H Q I q => h.run pins s σ H Q I (k σ H Q q)⟩
def oNo : List Sl → Mo (Option Int) := fun _ => ret none
def asI : PD → Option (Option Int)
  | .int i => some (some i)
  | _ => none
def oAt (f : List Sl → Mo PD) : List Sl → Mo (Option Int) := fun Γ => bnd (f Γ) fun d => lift (asI d)
theorem do_no : DO c none oNo := PO.imp po_none fun σ H Q q => by
  obtain ⟨L0, H0, L, g, Γ, fr, po⟩ := q
  exact po.pure fr.rel
theorem asI_some {d : PD} {o : Option Int} (h : asI d = some o) : ∃ i, d = .int i ∧ o = some i := by
  cases d <;> cases h
  exact ⟨_, rfl, rfl⟩
theorem do_at {e : Expr} {f : List Sl → Mo PD} (h : DE c e f) : DO c (some e) (Av.oAt f) := PO.imp (po_some h) fun σ H Q q => by
  obtain ⟨L0, H0, L, g, Γ, fr, po⟩ := q
  have po := Post.bind po
  refine ⟨L0, H0, L, g, Γ, fr, po.mono fun d g1 L1 H1 st1 rel1 po1 v hv => ?_⟩
  obtain ⟨z, hz, po1⟩ := po1.lift rel1
  obtain ⟨i, rfl, rfl⟩ := asI_some hz
  cases hv
  exact ⟨i, rfl, po1 L1 H1 (Stp.refl rel1) rel1⟩
def cutL (ds : List PD) (lo hi : Option Int) : List PD := (ds.drop (HT.sIx ds.length 0 lo)).take (HT.sIx ds.length ds.length hi - HT.sIx ds.length 0 lo)
theorem DqA.cut {S : Hp} {xs : List V} {ds : List PD} (h : DqA S xs ds) (lo hi : Option Int) : DqA S (cutV xs lo hi) (cutL ds lo hi) := by
  unfold L2.cutV cutL
  rw [h.len]
  exact (h.drop _).take _
def cutD (d : PD) (lo hi : Option Int) : Option PD := match d with
  | .list ds => some (.list (cutL ds lo hi))
  | .tuple ds => some (.tuple (cutL ds lo hi))
  | .str x => if small x.length = true then some (.str (cutS x lo hi)) else none
  | _ => none
def eSl (f : List Sl → Mo PD) (fl fh : List Sl → Mo (Option Int)) : List Sl → Mo PD := fun Γ => bnd (f Γ) fun d => bnd (fl Γ) fun lo => bnd (fh Γ) fun hi => lift (cutD d lo hi)
theorem de_sl {e : Expr} {lo hi : Option Expr} {f : List Sl → Mo PD} {fl fh : List Sl → Mo (Option Int)} {p2 pos : Pos} (he : DE c e f) (hl : DO c lo fl) (hh : DO c hi fh) : DE c (.Subscript e (.Slice lo hi none p2) pos) (eSl f fl fh) :=
  PE.imp (pe_slice (sl_list.or (sl_tupF.or sl_str)) he hl hh) fun σ H Q q => by
    obtain ⟨L0, H0, L, g, Γ, fr, po⟩ := q
    have po := Post.bind po
    refine ⟨L0, H0, L, g, Γ, fr, po.mono fun d g1 L1 H1 st1 rel1 po1 v hv => ?_⟩
    have fr1 := fr.step st1 rel1
    have po1 := Post.bind po1
    refine ⟨L0, H0, L1, g1, Γ, fr1, po1.mono fun l g2 L2 H2 st2 rel2 po2 => ?_⟩
    have fr2 := fr1.step st2 rel2
    have po2 := Post.bind po2
    refine ⟨L0, H0, L2, g2, Γ, fr2, po2.mono fun u g3 L3 H3 st3 rel3 po3 => ?_⟩
    obtain ⟨z, hz, po3⟩ := po3.lift rel3
    have hv := (hv.mono st2.ss).mono st3.ss
    cases hv with
    | lst hS hA =>
      cases hz
      exact .inl ⟨_, _, rfl, SqL.of (rel3.s _ _ hS), fun q hq => po3 _ _ (Stp.new rel3 hq) (rel3.new hq) _ (.lst upd_same ((hA.cut l u).mono (same_new (rel3.sq hq))))⟩
    | @tup a o xs ds hS hA hN =>
      cases hz
      refine .inr (.inl ⟨a, xs, rfl, SqTF (rel3.s _ _ hS), fun hw => ?_, fun _ q o hq hN => po3 _ _ (Stp.new rel3 hq) (rel3.new hq) _ (.tup upd_same ((hA.cut l u).mono (same_new (rel3.sq hq))) hN)⟩)
      have e : cutL ds l u = ds := by
        unfold cutL
        rw [hA.len] at hw
        rw [hw.1, hw.2]
        simp
      rw [e] at po3
      exact po3 L3 H3 (Stp.refl rel3) rel3 _ (.tup hS hA hN)
    | str x =>
      obtain ⟨hb, rfl⟩ := if_some hz
      exact .inr (.inr ⟨x, rfl, small_le hb, po3 L3 H3 (Stp.refl rel3) rel3 _ (.str _)⟩)
    | non => cases hz
    | bl _ => cases hz
    | int _ => cases hz
/-- e[::-1] -/
def revD : PD → Option PD
  | .list ds => some (.list ds.reverse)
  | .tuple ds => some (.tuple ds.reverse)
  | _ => none
def eUnD (h : PD → Option PD) (f : List Sl → Mo PD) : List Sl → Mo PD := fun Γ => bnd (f Γ) fun d => lift (h d)
theorem PE.or {X : Cx} {e : Expr} {t t' : TE} (h : PE X e t) (h' : PE X e t') : PE X e (fun σ H Q => t σ H Q ∨ t' σ H Q) :=
  ⟨fun pins s σ H Q I q => q.elim (h.run pins s σ H Q I) (h'.run pins s σ H Q I)⟩
theorem de_rev {e : Expr} {f : List Sl → Mo PD} {j : Nat} {p1 p2 p3 pos : Pos} (h : DE c e f) : DE c (.Subscript e (.Slice none none (some (.UnaryOp .USub (.Constant (.int 1) j p1) p2)) p3) pos) (eUnD revD f) :=
  PE.imp (PE.or (pe_revL h) (pe_revT h)) fun σ H Q q => by
    obtain ⟨L0, H0, L, g, Γ, fr, po⟩ := q
    have po := Post.bind po
    cases e : f Γ g with
    | bad => rw [e] at po; exact po.elim
    | exc i g1 => rw [e] at po; exact .inl ⟨L0, H0, L, g, Γ, fr, by rw [e]; exact po⟩
    | ok d g1 =>
      rw [e] at po
      cases d with
      | list ds =>
        refine .inl ⟨L0, H0, L, g, Γ, fr, ?_⟩
        rw [e]
        intro L1 H1 st1 rel1 v hv
        have po1 := po L1 H1 st1 rel1
        cases hv with
        | lst hS hA => exact ⟨_, _, rfl, SqL.of (rel1.s _ _ hS), fun q hq => po1 _ _ (Stp.new rel1 hq) (rel1.new hq) _ (.lst upd_same (hA.rev.mono (same_new (rel1.sq hq))))⟩
      | tuple ds =>
        refine .inr ⟨L0, H0, L, g, Γ, fr, ?_⟩
        rw [e]
        intro L1 H1 st1 rel1 v hv
        have po1 := po L1 H1 st1 rel1
        cases hv with
        | tup hS hA hN => exact ⟨_, _, rfl, SqTF (rel1.s _ _ hS), fun q o hq hN => po1 _ _ (Stp.new rel1 hq) (rel1.new hq) _ (.tup upd_same (hA.rev.mono (same_new (rel1.sq hq))) hN)⟩
      | str x => exact .inl ⟨L0, H0, L, g, Γ, fr, by rw [e]; exact fun L1 H1 st1 rel1 v _ => (po L1 H1 st1 rel1).elim⟩
      | none => exact .inl ⟨L0, H0, L, g, Γ, fr, by rw [e]; exact fun L1 H1 st1 rel1 v _ => (po L1 H1 st1 rel1).elim⟩
      | bool _ => exact .inl ⟨L0, H0, L, g, Γ, fr, by rw [e]; exact fun L1 H1 st1 rel1 v _ => (po L1 H1 st1 rel1).elim⟩
      | int _ => exact .inl ⟨L0, H0, L, g, Γ, fr, by rw [e]; exact fun L1 H1 st1 rel1 v _ => (po L1 H1 st1 rel1).elim⟩
      | dict _ => exact .inl ⟨L0, H0, L, g, Γ, fr, by rw [e]; exact fun L1 H1 st1 rel1 v _ => (po L1 H1 st1 rel1).elim⟩
/-! ### built-ins of lists -/
def intsOf : List PD → Option (List Int)
  | [] => some []
  | .int i :: r => (intsOf r).map (i :: ·)
  | _ :: _ => none
theorem intsOf_vals {S : Hp} : ∀ {xs : List V} {ds : List PD} {ns : List Int}, DqA S xs ds → intsOf ds = some ns → xs = ns.map V.int
  | _, _, _, .nil, e => by cases e; rfl
  | _, _, _, .cons (ds := ds) (d := d) h r, e => by
    cases d with
    | int i =>
      obtain ⟨ms, hm, rfl⟩ := Option.map_eq_some_iff.mp e
      cases h
      rw [intsOf_vals r hm]
      rfl
    | none => cases e
    | bool _ => cases e
    | str _ => cases e
    | list _ => cases e
    | tuple _ => cases e
    | dict _ => cases e
theorem intsOf_map : ∀ ns : List Int, intsOf (ns.map PyData.int) = some ns
  | [] => rfl
  | n :: r => by show (intsOf (r.map PyData.int)).map (n :: ·) = _; rw [intsOf_map r]; rfl
def boolsOf : List PD → Option (List Bool)
  | [] => some []
  | .bool i :: r => (boolsOf r).map (i :: ·)
  | _ :: _ => none
theorem boolsOf_vals {S : Hp} : ∀ {xs : List V} {ds : List PD} {ns : List Bool}, DqA S xs ds → boolsOf ds = some ns → xs = ns.map V.bl
  | _, _, _, .nil, e => by cases e; rfl
  | _, _, _, .cons (ds := ds) (d := d) h r, e => by
    cases d with
    | bool i =>
      obtain ⟨ms, hm, rfl⟩ := Option.map_eq_some_iff.mp e
      cases h
      rw [boolsOf_vals r hm]
      rfl
    | none => cases e
    | int _ => cases e
    | str _ => cases e
    | list _ => cases e
    | tuple _ => cases e
    | dict _ => cases e
def strsOf : List PD → Option (List Str)
  | [] => some []
  | .str i :: r => (strsOf r).map (i :: ·)
  | _ :: _ => none
theorem strsOf_vals {S : Hp} : ∀ {xs : List V} {ds : List PD} {ns : List Str}, DqA S xs ds → strsOf ds = some ns → xs = ns.map V.str
  | _, _, _, .nil, e => by cases e; rfl
  | _, _, _, .cons (ds := ds) (d := d) h r, e => by
    cases d with
    | str i =>
      obtain ⟨ms, hm, rfl⟩ := Option.map_eq_some_iff.mp e
      cases h
      rw [strsOf_vals r hm]
      rfl
    | none => cases e
    | bool _ => cases e
    | int _ => cases e
    | list _ => cases e
    | tuple _ => cases e
    | dict _ => cases e
def sumE : List PD → Option PD
  | [.list ds] => (intsOf ds).map fun ns => .int ns.sum
  | [.tuple ds] => (intsOf ds).map fun ns => .int ns.sum
  | _ => none
theorem calls_sumE : CallS c (fun vs H Q => rSum c.X.K vs H Q ∨ rSumT c.X.K vs H Q) sumE := fun L g H vs ds z Q rel hv hz k => by
  match ds, hz with
  | [.list es], hz =>
    obtain ⟨ns, hn, rfl⟩ := Option.map_eq_some_iff.mp hz
    cases hv with
    | cons h r =>
      cases r
      cases h with
      | lst hS hA => cases intsOf_vals hA hn; exact .inl ⟨_, ns, rfl, SqL.of (rel.s _ _ hS), k _ L H (Stp.refl rel) rel (.int _)⟩
  | [.tuple es], hz =>
    obtain ⟨ns, hn, rfl⟩ := Option.map_eq_some_iff.mp hz
    cases hv with
    | cons h r =>
      cases r
      cases h with
      | tup hS hA hN => cases intsOf_vals hA hn; exact .inr ⟨_, ns, rfl, SqTF (rel.s _ _ hS), k _ L H (Stp.refl rel) rel (.int _)⟩
theorem cr_sumE {X : Cx} (hc : X.calm = true) : CallR X (.builtin "sum") (fun vs H Q => rSum X.K vs H Q ∨ rSumT X.K vs H Q) := (cr_sum hc).or (cr_sumT hc)
def minL : List Int → Int
  | [] => 0
  | [n] => n
  | n :: m :: r => min n (minL (m :: r))
def maxL : List Int → Int
  | [] => 0
  | [n] => n
  | n :: m :: r => max n (maxL (m :: r))
theorem minL_is : ∀ (ns : List Int) (m : Int), m ∈ ns → (∀ y, y ∈ ns → m ≤ y) → minL ns = m
  | [], m, h, _ => by cases h
  | [n], m, h, _ => by simp at h; subst h; rfl
  | n :: m' :: r, m, h, hl => by
    show min n (minL (m' :: r)) = m
    by_cases hm : m ∈ m' :: r
    · rw [minL_is (m' :: r) m hm fun y hy => hl y (List.mem_cons_of_mem _ hy)]
      have := hl n (List.mem_cons_self ..)
      omega
    · have e : m = n := by
        rcases List.mem_cons.mp h with h | h
        · exact h
        · exact absurd h hm
      subst e
      have : ∀ (l : List Int), l ≠ [] → (∀ y ∈ l, m ≤ y) → m ≤ minL l := by
        intro l
        induction l with
        | nil => intro h _; exact absurd rfl h
        | cons a t ih =>
          intro _ h2
          cases t with
          | nil => exact h2 a (List.mem_cons_self ..)
          | cons b t =>
            have h3 := ih (by simp) fun y hy => h2 y (List.mem_cons_of_mem _ hy)
            have h4 := h2 a (List.mem_cons_self ..)
            show m ≤ min a (minL (b :: t))
            omega
      have := this (m' :: r) (by simp) fun y hy => hl y (List.mem_cons_of_mem _ hy)
      omega
theorem maxL_is : ∀ (ns : List Int) (m : Int), m ∈ ns → (∀ y, y ∈ ns → y ≤ m) → maxL ns = m
  | [], m, h, _ => by cases h
  | [n], m, h, _ => by simp at h; subst h; rfl
  | n :: m' :: r, m, h, hl => by
    show max n (maxL (m' :: r)) = m
    by_cases hm : m ∈ m' :: r
    · rw [maxL_is (m' :: r) m hm fun y hy => hl y (List.mem_cons_of_mem _ hy)]
      have := hl n (List.mem_cons_self ..)
      omega
    · have e : m = n := by
        rcases List.mem_cons.mp h with h | h
        · exact h
        · exact absurd h hm
      subst e
      have : ∀ (l : List Int), l ≠ [] → (∀ y ∈ l, y ≤ m) → maxL l ≤ m := by
        intro l
        induction l with
        | nil => intro h _; exact absurd rfl h
        | cons a t ih =>
          intro _ h2
          cases t with
          | nil => exact h2 a (List.mem_cons_self ..)
          | cons b t =>
            have h3 := ih (by simp) fun y hy => h2 y (List.mem_cons_of_mem _ hy)
            have h4 := h2 a (List.mem_cons_self ..)
            show max a (maxL (b :: t)) ≤ m
            omega
      have := this (m' :: r) (by simp) fun y hy => hl y (List.mem_cons_of_mem _ hy)
      omega
def ne0 (ns : List Int) : Bool := !ns.isEmpty
theorem ne0_pos {ns : List Int} (h : ne0 ns = true) : 0 < ns.length := by
  cases ns with
  | nil => cases h
  | cons a b => exact Nat.succ_pos _
def minD : List PD → Option PD
  | [.list ds] => (intsOf ds).bind fun ns => if ne0 ns = true then some (.int (minL ns)) else none
  | _ => none
def maxD : List PD → Option PD
  | [.list ds] => (intsOf ds).bind fun ns => if ne0 ns = true then some (.int (maxL ns)) else none
  | _ => none
theorem calls_min : CallS c (rMin c.X.K) minD := fun L g H vs ds z Q rel hv hz k => by
  match ds, hz with
  | [.list es], hz =>
    obtain ⟨ns, hn, hz⟩ := Option.bind_eq_some_iff.mp hz
    obtain ⟨hb, rfl⟩ := if_some hz
    cases hv with
    | cons h r =>
      cases r
      cases h with
      | lst hS hA =>
        cases intsOf_vals hA hn
        refine ⟨_, ns, rfl, SqL.of (rel.s _ _ hS), ne0_pos hb, fun m h1 h2 => ?_⟩
        rw [minL_is ns m h1 h2] at k
        exact k _ L H (Stp.refl rel) rel (.int _)
theorem calls_max : CallS c (rMax c.X.K) maxD := fun L g H vs ds z Q rel hv hz k => by
  match ds, hz with
  | [.list es], hz =>
    obtain ⟨ns, hn, hz⟩ := Option.bind_eq_some_iff.mp hz
    obtain ⟨hb, rfl⟩ := if_some hz
    cases hv with
    | cons h r =>
      cases r
      cases h with
      | lst hS hA =>
        cases intsOf_vals hA hn
        refine ⟨_, ns, rfl, SqL.of (rel.s _ _ hS), ne0_pos hb, fun m h1 h2 => ?_⟩
        rw [maxL_is ns m h1 h2] at k
        exact k _ L H (Stp.refl rel) rel (.int _)
def allD : List PD → Option PD
  | [.list ds] => (boolsOf ds).map fun bs => .bool (bs.all id)
  | _ => none
theorem calls_all : CallS c (rAll c.X.K) allD := fun L g H vs ds z Q rel hv hz k => by
  match ds, hz with
  | [.list es], hz =>
    obtain ⟨bs, hn, rfl⟩ := Option.map_eq_some_iff.mp hz
    cases hv with
    | cons h r =>
      cases r
      cases h with
      | lst hS hA => cases boolsOf_vals hA hn; exact ⟨_, bs, rfl, SqL.of (rel.s _ _ hS), k _ L H (Stp.refl rel) rel (.bl _)⟩
def anyD : List PD → Option PD
  | [.list ds] => (boolsOf ds).map fun bs => .bool (bs.any id)
  | _ => none
theorem calls_any : CallS c (rAny c.X.K) anyD := fun L g H vs ds z Q rel hv hz k => by
  match ds, hz with
  | [.list es], hz =>
    obtain ⟨bs, hn, rfl⟩ := Option.map_eq_some_iff.mp hz
    cases hv with
    | cons h r =>
      cases r
      cases h with
      | lst hS hA => cases boolsOf_vals hA hn; exact ⟨_, bs, rfl, SqL.of (rel.s _ _ hS), k _ L H (Stp.refl rel) rel (.bl _)⟩
def tupleD : List PD → Option PD
  | [.list ds] => some (.tuple ds)
  | [.tuple ds] => some (.tuple ds)
  | _ => none
theorem calls_tuple : CallS c (fun xs H Q => ∃ p ys, xs = [V.ref p] ∧ ((SqL c.X.K H p ys ∧ ∀ l o, H l = none → o.dict = none → Q (.ref l) (upd H l (.frz o (.tup ys)))) ∨ (SqT c.X.K H p ys ∧ Q (.ref p) H))) tupleD := fun L g H vs ds z Q rel hv hz k => by
  match ds, hz with
  | [.list es], hz =>
    cases hz
    cases hv with
    | cons h r =>
      cases r
      cases h with
      | lst hS hA => exact ⟨_, _, rfl, .inl ⟨SqL.of (rel.s _ _ hS), fun q o hq hN => k _ _ _ (Stp.new rel hq) (rel.new hq) (.tup upd_same (hA.mono (same_new (rel.sq hq))) hN)⟩⟩
  | [.tuple es], hz =>
    cases hz
    cases hv with
    | cons h r =>
      cases r
      cases h with
      | tup hS hA hN => exact ⟨_, _, rfl, .inr ⟨SqTF (rel.s _ _ hS), k _ L H (Stp.refl rel) rel (.tup hS hA hN)⟩⟩
def listD : List PD → Option PD
  | [.list ds] => some (.list ds)
  | [.tuple ds] => some (.list ds)
  | _ => none
theorem calls_list : CallS c (fun xs H Q => ∃ p ys, xs = [V.ref p] ∧ (SqL c.X.K H p ys ∨ SqT c.X.K H p ys) ∧ ∀ l, H l = none → Q (.ref l) (upd H l (.lst ys))) listD := fun L g H vs ds z Q rel hv hz k => by
  match ds, hz with
  | [.list es], hz =>
    cases hz
    cases hv with
    | cons h r =>
      cases r
      cases h with
      | lst hS hA => exact ⟨_, _, rfl, .inl (SqL.of (rel.s _ _ hS)), fun q hq => k _ _ _ (Stp.new rel hq) (rel.new hq) (.lst upd_same (hA.mono (same_new (rel.sq hq))))⟩
  | [.tuple es], hz =>
    cases hz
    cases hv with
    | cons h r =>
      cases r
      cases h with
      | tup hS hA hN => exact ⟨_, _, rfl, .inr (SqTF (rel.s _ _ hS)), fun q hq => k _ _ _ (Stp.new rel hq) (rel.new hq) (.lst upd_same (hA.mono (same_new (rel.sq hq))))⟩
end
end Av

namespace Av
open PySem PySem.Spec L2
open PyProof.Rows hiding St
set_option autoImplicit false
def ipSub : PD → PD → Option PD := int2 fun i j => some (.int (i - j))
/-! ### zip, enumerate -/
def zipL : List PD → List PD → List PD
  | x :: xs, y :: ys => .tuple [x, y] :: zipL xs ys
  | _, _ => []
def zipD : List PD → Option (List PD)
  | [.list a, .list b] => some (zipL a b)
  | [.tuple a, .tuple b] => some (zipL a b)
  | _ => none
theorem zipL_len : ∀ (a b : List PD), (zipL a b).length = min a.length b.length
  | [], b => by simp [zipL]
  | x :: xs, [] => by simp [zipL]
  | x :: xs, y :: ys => by
    show (zipL xs ys).length + 1 = _
    rw [zipL_len xs ys, List.length_cons, List.length_cons]
    omega
theorem zipL_get : ∀ (a b : List PD) (i : Nat) (d : PD), (zipL a b)[i]? = some d → ∃ x y, a[i]? = some x ∧ b[i]? = some y ∧ d = .tuple [x, y]
  | [], b, i, d, h => by simp [zipL] at h
  | x :: xs, [], i, d, h => by simp [zipL] at h
  | x :: xs, y :: ys, 0, d, h => by simp [zipL] at h; exact ⟨x, y, rfl, rfl, h.symm⟩
  | x :: xs, y :: ys, i + 1, d, h => by
    obtain ⟨x', y', h1, h2, h3⟩ := zipL_get xs ys i d (by simpa [zipL] using h)
    exact ⟨x', y', by simpa using h1, by simpa using h2, h3⟩
theorem walkD_zip {p : Pm} {K : PySem.W.Frag} {S : Hp} {a b : Addr} {xs ys : List V} {ds es : List PD} (hS : S a = some (.lst xs)) (hA : DqA S xs ds) (hS' : S b = some (.lst ys)) (hA' : DqA S ys es) : WalkD p true S (Itz K a b) (zipL ds es) where
  go := fun i L g H h ss rel => by
    rw [zipL_len] at h
    have l1 : i < xs.length := by rw [hA.len]; omega
    have l2 : i < ys.length := by rw [hA'.len]; omega
    exact ⟨xs, ys, xs[i], ys[i], SqL.of (rel.s _ _ (ss _ _ hS)), SqL.of (rel.s _ _ (ss _ _ hS')), List.getElem?_eq_getElem l1, List.getElem?_eq_getElem l2⟩
  stop := fun L g H ss rel => ⟨xs, ys, SqL.of (rel.s _ _ (ss _ _ hS)), SqL.of (rel.s _ _ (ss _ _ hS')), by rw [zipL_len, hA.len, hA'.len]; omega⟩
  yld := fun i d L g H x H' hd ss rel y => by
    obtain ⟨T, u, v, rfl, hT, rfl, e1, e2⟩ := y
    obtain ⟨dx, dy, h1, h2, rfl⟩ := zipL_get _ _ _ _ hd
    obtain ⟨v1, hv1, q1⟩ := hA.get h1
    obtain ⟨v2, hv2, q2⟩ := hA'.get h2
    have e1 := e1 xs (SqL.of (rel.s _ _ (ss _ _ hS)))
    have e2 := e2 ys (SqL.of (rel.s _ _ (ss _ _ hS')))
    rw [hv1] at e1
    rw [hv2] at e2
    cases e1
    cases e2
    have up := same_new (o := .tup [u, v]) (rel.sq hT)
    exact ⟨_, Stp.new rel hT, rel.new hT, .inr ⟨rfl, T, u, v, dx, dy, rfl, rfl, upd_same, (q1.mono ss).mono up, (q2.mono ss).mono up⟩⟩
theorem walkD_zipT {p : Pm} {K : PySem.W.Frag} {S : Hp} {a b : Addr} {xs ys : List V} {ds es : List PD} {o o' : Obj} (hS : S a = some (.frz o (.tup xs))) (hA : DqA S xs ds) (hS' : S b = some (.frz o' (.tup ys))) (hA' : DqA S ys es) : WalkD p true S (RZ.ItzT K a b) (zipL ds es) where
  go := fun i L g H h ss rel => by
    rw [zipL_len] at h
    have l1 : i < xs.length := by rw [hA.len]; omega
    have l2 : i < ys.length := by rw [hA'.len]; omega
    exact ⟨xs, ys, xs[i], ys[i], SqTF (rel.s _ _ (ss _ _ hS)), SqTF (rel.s _ _ (ss _ _ hS')), List.getElem?_eq_getElem l1, List.getElem?_eq_getElem l2⟩
  stop := fun L g H ss rel => ⟨xs, ys, SqTF (rel.s _ _ (ss _ _ hS)), SqTF (rel.s _ _ (ss _ _ hS')), by rw [zipL_len, hA.len, hA'.len]; omega⟩
  yld := fun i d L g H x H' hd ss rel y => by
    obtain ⟨T, u, v, rfl, hT, rfl, e1, e2⟩ := y
    obtain ⟨dx, dy, h1, h2, rfl⟩ := zipL_get _ _ _ _ hd
    obtain ⟨v1, hv1, q1⟩ := hA.get h1
    obtain ⟨v2, hv2, q2⟩ := hA'.get h2
    have e1 := e1 xs (SqTF (rel.s _ _ (ss _ _ hS)))
    have e2 := e2 ys (SqTF (rel.s _ _ (ss _ _ hS')))
    rw [hv1] at e1
    rw [hv2] at e2
    cases e1
    cases e2
    have up := same_new (o := .tup [u, v]) (rel.sq hT)
    exact ⟨_, Stp.new rel hT, rel.new hT, .inr ⟨rfl, T, u, v, dx, dy, rfl, rfl, upd_same, (q1.mono ss).mono up, (q2.mono ss).mono up⟩⟩
theorem di_zip {c : Ct} {k : Nat} {a b : Expr} {f : List Sl → Mo (List PD)} {p pos tpos : Pos} {elts : List Expr} {kk : Nat} (ok : c.Ok k) (hm : c.X.mg "zip" = none) (ha : DA c [a, b] f) (hg : Gl c.X "zip" := by rfl)
    (hs : starEach [a, b] c.X.env = (false, eval a c.X.env) :: starEach [b] c.X.env := by rfl) (hpl : (backTo pos (starEach [b] c.X.env)).any (·.1) = false := by rfl) : DI c (.Tuple elts kk tpos) (.Call (.Name "zip" p) [a, b] [] pos) (iVia zipD f) :=
  PI.imp (RZ.pi_zipA hg hm ha hs hpl) fun σ H R q => by
    obtain ⟨L0, H0, L, g, Γ, fr, po⟩ := q
    have po := Post.bind po
    refine ⟨L0, H0, L, g, Γ, fr, po.mono fun ds g1 L1 H1 st1 rel1 po1 vs hvs => ?_⟩
    obtain ⟨z, hz, po1⟩ := po1.lift rel1
    have po1 := po1 L1 H1 (Stp.refl rel1) rel1
    match ds, hz with
    | [.list xs, .list ys], hz =>
      cases hz
      cases hvs with
      | cons h r =>
        cases r with
        | cons h' r =>
          cases r
          cases h with
          | lst hS hA =>
            cases h' with
            | lst hS' hA' => exact ⟨_, _, _, _, rfl, .inl ⟨SqL.of (rel1.s _ _ hS), SqL.of (rel1.s _ _ hS'), po1 _ (walkD_zip hS hA hS' hA')⟩⟩
    | [.tuple xs, .tuple ys], hz =>
      cases hz
      cases hvs with
      | cons h r =>
        cases r with
        | cons h' r =>
          cases r
          cases h with
          | tup hS hA hN =>
            cases h' with
            | tup hS' hA' hN' => exact ⟨_, _, _, _, rfl, .inr ⟨SqTF (rel1.s _ _ hS), SqTF (rel1.s _ _ hS'), po1 _ (walkD_zipT hS hA hS' hA')⟩⟩
def enumL : Nat → List PD → List PD
  | _, [] => []
  | i, x :: xs => .tuple [.int (i : Nat), x] :: enumL (i + 1) xs
def enumerateD : List PD → Option (List PD)
  | [.list a] => some (enumL 0 a)
  | [.tuple a] => some (enumL 0 a)
  | _ => none
/-! ### a, b, c = .. -/
def sPar3 (i j l : Nat) (f : List Sl → Mo (List PD)) : List Sl → Mo Fl := fun Γ => bnd (f Γ) fun ds => lift (match ds with
  | [x, y, z] => some (.next (((Γ.set i (.val x)).set j (.val y)).set l (.val z)))
  | _ => none)
theorem ds_par3 {c : Ct} {k : Nat} (i j l : Nat) {x y z : Str} {a b d : Expr} {f : List Sl → Mo (List PD)} {px py pz pt pt2 pos : Pos} {kt k2 : Nat} (ok : c.Ok k) (ha : DA c [a, b, d] f) (hi : c.X.N[i]? = some x := by rfl) (hj : c.X.N[j]? = some y := by rfl) (hl : c.X.N[l]? = some z := by rfl) (hij : i ≠ j := by decide) (hil : i ≠ l := by decide) (hjl : j ≠ l := by decide)
    (hx : c.X.env.scope.names.lookup x = some .local := by rfl) (hy : c.X.env.scope.names.lookup y = some .local := by rfl) (hz : c.X.env.scope.names.lookup z = some .local := by rfl)
    (hw : swappedStores [.Tuple [.Name x px, .Name y py, .Name z pz] kt pt] (.Tuple [a, b, d] k2 pt2) c.X.env = pure (some [x, y, z]) := by rfl)
    (hs : swapsWithSole [.Tuple [.Name x px, .Name y py, .Name z pz] kt pt] (.Tuple [a, b, d] k2 pt2) pos.line c.X.env = pure false := by rfl) :
    DS c (.Assign [.Tuple [.Name x px, .Name y py, .Name z pz] kt pt] (.Tuple [a, b, d] k2 pt2) pos) (sPar3 i j l f) :=
  PS.imp (ps_par3 ok.cm ok.nd hi hj hl hij hil hjl hx hy hz ha hw hs) fun D σ H q => by
    obtain ⟨L0, H0, L, g, Γ, fr, po⟩ := q
    have po := PostS.bind fr po
    refine ⟨L0, H0, L, g, Γ, fr, po.mono fun ds g1 L1 H1 st1 rel1 po1 vs hvs => ?_⟩
    have fr1 := fr.step st1 rel1
    match ds, hvs, po1 with
    | [d, e, u], .cons hd (.cons he (.cons hu .nil)), po1 => exact ⟨_, _, _, rfl, po1 L1 _ _ (((fr1.set i hd).set j he).set l hu) (Same.refl _)⟩
/-! ### sorted -/
def icmp (i j : Int) : Ordering := if decide (i < j) = true then .lt else if decide (j < i) = true then .gt else .eq
mutual
/-- the order of ints and of tuples -/
def dcmp : PD → PD → Ordering
  | .int i, .int j => icmp i j
  | .tuple xs, .tuple ys => dcmpA xs ys
  | _, _ => .eq
def dcmpA : List PD → List PD → Ordering
  | [], [] => .eq
  | [], _ :: _ => .lt
  | _ :: _, [] => .gt
  | x :: xs, y :: ys => match dcmp x y with
    | .eq => dcmpA xs ys
    | o => o
end
def isLt : Ordering → Bool
  | .lt => true
  | _ => false
def dlt (d e : PD) : Bool := isLt (dcmp d e)
def insD (d : PD) : List PD → List PD
  | [] => [d]
  | e :: r => if dlt d e then d :: e :: r else e :: insD d r
def srtD : List PD → List PD
  | [] => []
  | d :: r => insD d (srtD r)
def sortedD : List PD → Option PD
  | [.list ds] => some (.list (srtD ds))
  | _ => none
/-! ### in, not in -/
def inD : PD → PD → Option PD
  | d, .list ds => if (SeqAt.shaped d && SeqAt.shaped (.list ds)) = true then some (.bool (ds.any fun z => PyData.eqv z d)) else none
  | .int i, .tuple ds => (intsOf ds).map fun ns => .bool (ns.any fun n => n == i)
  | .str x, .str y => match x with
    | ⟨⟨[n]⟩⟩ => some (.bool (decide (n ∈ y.cps.toList)))
    | _ => none
  | _, _ => none
def notInD (d e : PD) : Option PD := (inD d e).bind fun b => (asB b).map fun b => .bool (!b)
def rInA (K : PySem.W.Frag) : R2 := fun x y H Q => rInD K x y H Q ∨ rIn K false x y H Q ∨ ∃ (c : Nat) (z : Str), x = .str ⟨#[c]⟩ ∧ y = .str z ∧ Q (.bl (decide (c ∈ z.cps.toList))) H
def rNotInA (K : PySem.W.Frag) : R2 := fun x y H Q => rNotInD K x y H Q ∨ rIn K true x y H Q ∨ ∃ (c : Nat) (z : Str), x = .str ⟨#[c]⟩ ∧ y = .str z ∧ Q (.bl (!decide (c ∈ z.cps.toList))) H
theorem op_inA {X : Cx} {k : Nat} (r : Room k X.A) : OpR X (compareOp .In) (rInA X.K) := (op_inD (by have := r.un; omega)).or (op_in_seq.or op_in_sign)
theorem op_notInA {X : Cx} {k : Nat} (r : Room k X.A) : OpR X (compareOp .NotIn) (rNotInA X.K) := (op_notInD (by have := r.un; omega)).or (op_notIn_seq.or op_notIn_sign)
theorem inV_ints {i : Int} : ∀ ns : List Int, inV (.int i) (ns.map V.int) = ns.any fun n => n == i
  | [] => rfl
  | n :: r => by
    show (eqV (.int n) (.int i) || inV (.int i) (r.map V.int)) = _
    rw [inV_ints r]
    rfl
theorem flat_ints : ∀ ns : List Int, (ns.map V.int).all flatV = true
  | [] => rfl
  | n :: r => flat_ints r
theorem in_core {K : PySem.W.Frag} {p : Pm} {L : Lay} {g : G} {H : Hp} {x y : V} {d e z : PD} (rel : Rel p L g H) (hx : Dq L.S x d) (hy : Dq L.S y e) (hz : inD d e = some z) :
    ∃ b, z = .bool b ∧ ((∃ d ds, Dp K H x d ∧ Dp K H y (.list ds) ∧ SeqAt.shaped d = true ∧ SeqAt.shaped (.list ds) = true ∧ b = ds.any fun z => PyData.eqv z d) ∨
      (∃ p xs, y = .ref p ∧ (SqL K H p xs ∨ SqT K H p xs) ∧ flatV x = true ∧ xs.all flatV = true ∧ b = inV x xs) ∨ ∃ (c : Nat) (z : Str), x = .str ⟨#[c]⟩ ∧ y = .str z ∧ b = decide (c ∈ z.cps.toList)) := by
  cases hy with
  | @lst a xs ds hS hA =>
    have hz' : (if (SeqAt.shaped d && SeqAt.shaped (.list ds)) = true then some (PyData.bool (ds.any fun z => PyData.eqv z d)) else none) = some z := by
      cases d <;> exact hz
    obtain ⟨hb, rfl⟩ := if_some hz'
    rw [Bool.and_eq_true] at hb
    exact ⟨_, rfl, .inl ⟨d, _, (hx.mono rel.s).dp, ((Dq.lst hS hA).mono rel.s).dp, hb.1, hb.2, rfl⟩⟩
  | tup hS hA hN =>
    cases d with
    | int i =>
      obtain ⟨ns, hn, rfl⟩ := Option.map_eq_some_iff.mp hz
      cases hx
      cases intsOf_vals hA hn
      exact ⟨_, rfl, .inr (.inl ⟨_, _, rfl, .inr (SqTF (rel.s _ _ hS)), rfl, flat_ints ns, (inV_ints ns).symm⟩)⟩
    | none => cases hz
    | bool _ => cases hz
    | str _ => cases hz
    | list _ => cases hz
    | tuple _ => cases hz
    | dict _ => cases hz
  | str y =>
    cases d with
    | str x =>
      cases hx
      obtain ⟨⟨l⟩⟩ := x
      match l, hz with
      | [n], hz => cases hz; exact ⟨_, rfl, .inr (.inr ⟨n, y, rfl, rfl, rfl⟩)⟩
    | none => cases hz
    | bool _ => cases hz
    | int _ => cases hz
    | list _ => cases hz
    | tuple _ => cases hz
    | dict _ => cases hz
  | non => cases d <;> cases hz
  | bl _ => cases d <;> cases hz
  | int _ => cases d <;> cases hz
theorem ops_in {c : Ct} : OpS c (rInA c.X.K) inD := fun L gs H x y d e z Q rel hx hy hz k => by
  obtain ⟨b, rfl, h | h | h⟩ := in_core (K := c.X.K) rel hx hy hz
  · obtain ⟨d, ds, h1, h2, h3, h4, rfl⟩ := h
    exact .inl ⟨d, ds, h1, h2, h3, h4, k _ L H (Stp.refl rel) rel (.bl _)⟩
  · obtain ⟨q, xs, h1, h2, h3, h4, rfl⟩ := h
    exact .inr (.inl ⟨q, xs, h1, h2, h3, h4, k _ L H (Stp.refl rel) rel (.bl _)⟩)
  · obtain ⟨n, z, h1, h2, rfl⟩ := h
    exact .inr (.inr ⟨n, z, h1, h2, k _ L H (Stp.refl rel) rel (.bl _)⟩)
theorem ops_notIn {c : Ct} : OpS c (rNotInA c.X.K) notInD := fun L gs H x y d e z Q rel hx hy hz k => by
  obtain ⟨w, hw, hz⟩ := Option.bind_eq_some_iff.mp hz
  obtain ⟨b, rfl, h | h | h⟩ := in_core (K := c.X.K) rel hx hy hw
  · obtain ⟨d, ds, h1, h2, h3, h4, rfl⟩ := h
    cases hz
    exact .inl ⟨d, ds, h1, h2, h3, h4, k _ L H (Stp.refl rel) rel (.bl _)⟩
  · obtain ⟨q, xs, h1, h2, h3, h4, rfl⟩ := h
    cases hz
    exact .inr (.inl ⟨q, xs, h1, h2, h3, h4, k _ L H (Stp.refl rel) rel (.bl _)⟩)
  · obtain ⟨n, z, h1, h2, rfl⟩ := h
    cases hz
    exact .inr (.inr ⟨n, z, h1, h2, k _ L H (Stp.refl rel) rel (.bl _)⟩)
end Av

namespace Av
open PySem PySem.Spec L2
open PyProof.Rows hiding St
set_option autoImplicit false
section
variable {c : Ct} {k : Nat}
theorem u65 {k : Nat} {A : Around} (r : Room k A) : A.units + 65 < cLine := by have := r.un; omega
/-! ### x.count(y), x.index(y) -/
def cntL (ds : List PD) : PD → Option PD
  | .int i => (intsOf ds).map fun ns => .int ((ns.count i : Nat))
  | .bool b => (boolsOf ds).map fun bs => .int ((bs.count b : Nat))
  | _ => none
def cntD : PD → PD → Option PD
  | .list ds, e => cntL ds e
  | .tuple ds, e => cntL ds e
  | _, _ => none
theorem flat_bools : ∀ ns : List Bool, (ns.map V.bl).all flatV = true
  | [] => rfl
  | n :: r => flat_bools r
theorem cnt_ints (i : Int) (ns : List Int) : ((ns.map V.int).countP fun z => eqV z (.int i)) = ns.count i := by
  rw [List.countP_map]; rfl
theorem cnt_bools (b : Bool) (ns : List Bool) : ((ns.map V.bl).countP fun z => eqV z (.bl b)) = ns.count b := by
  rw [List.countP_map]; rfl
theorem cnt_core {S : Hp} {xs : List V} {ds : List PD} {e z : PD} {y : V} (hA : DqA S xs ds) (hy : Dq S y e) (hz : cntL ds e = some z) : flatV y = true ∧ xs.all flatV = true ∧ z = .int ((xs.countP fun z => eqV z y : Nat)) := by
  cases hy with
  | int i =>
    obtain ⟨ns, hn, rfl⟩ := Option.map_eq_some_iff.mp hz
    cases intsOf_vals hA hn
    exact ⟨rfl, flat_ints ns, by rw [cnt_ints]⟩
  | bl b =>
    obtain ⟨ns, hn, rfl⟩ := Option.map_eq_some_iff.mp hz
    cases boolsOf_vals hA hn
    exact ⟨rfl, flat_bools ns, by rw [cnt_bools]⟩
  | non => cases hz
  | str _ => cases hz
  | lst _ _ => cases hz
  | tup _ _ => cases hz
/-- o.name(a), o a list or a tuple -/
def seqOk : PD → Option Unit
  | .list _ => some ()
  | .tuple _ => some ()
  | _ => none
def eM2 (h : PD → PD → Option PD) (fo fa : List Sl → Mo PD) : List Sl → Mo PD := fun Γ => bnd (fo Γ) fun d => bnd (lift (seqOk d)) fun _ => bnd (fa Γ) fun e => lift (h d e)
theorem de_meth2 {name : Str} {idL idT : String} {rL rT : V → List V → Hp → VK → Prop} {h : PD → PD → Option PD} {o a : Expr} {fo fa : List Sl → Mo PD} {p1 pos : Pos} (sL : Slot "list" name idL) (tL : typeOf (.builtin idL) = pure (.type "method_descriptor")) (mL : MtR c.X idL rL) (sT : Slot "tuple" name idT) (tT : typeOf (.builtin idT) = pure (.type "method_descriptor")) (mT : MtR c.X idT rT)
    (hL : ∀ (L : Lay) (g : G) (H : Hp) (x y : V) (ds : List PD) (e z : PD) (Q : VK), Rel c.p L g H → Dq L.S x (.list ds) → Dq L.S y e → h (.list ds) e = some z → (∀ v L' H', Stp L H L' H' → Rel c.p L' g H' → Dq L'.S v z → Q v H') → rL x [y] H Q)
    (hT : ∀ (L : Lay) (g : G) (H : Hp) (x y : V) (ds : List PD) (e z : PD) (Q : VK), Rel c.p L g H → Dq L.S x (.tuple ds) → Dq L.S y e → h (.tuple ds) e = some z → (∀ v L' H', Stp L H L' H' → Rel c.p L' g H' → Dq L'.S v z → Q v H') → rT x [y] H Q)
    (ho : DE c o fo) (ha : DE c a fa) (hbase : attributeBase o name c.X.env (eval o c.X.env) = eval o c.X.env)
    (hfew : ((backTo pos (starEach [a] c.X.env)).all (fun x => !x.1) && (backToKw pos (keywordEach [] c.X.env)).all (fun x => x.1.isSome) && decide ([a].length + ([] : List Keyword).length + (if ([] : List Keyword).isEmpty then 0 else 1) < 30)) = true)
    (hline : (p1.endLine == pos.line) = true) (hs : starEach [a] c.X.env = (false, eval a c.X.env) :: starEach [] c.X.env) (hpl : (backTo pos (starEach [] c.X.env)).any (·.1) = false) : DE c (.Call (.Attribute o name p1) [a] [] pos) (eM2 h fo fa) :=
  PE.imp (PE.or (pe_bm PySem.F.plainAttrs_list sL tL mL ho (pa_cons ha pa_nil hs) hbase hfew hline hs hpl) (pe_bmT sT tT mT ho (pa_cons ha pa_nil hs) hbase hfew hline hs hpl)) fun σ H Q q => by
    obtain ⟨L0, H0, L, g, Γ, fr, po⟩ := q
    have po := Post.bind po
    cases e : fo Γ g with
    | bad => rw [e] at po; exact po.elim
    | exc i g1 => rw [e] at po; exact .inl ⟨L0, H0, L, g, Γ, fr, by rw [e]; exact po⟩
    | ok d g1 =>
      rw [e] at po
      cases d with
      | tuple ds =>
        refine .inr ⟨L0, H0, L, g, Γ, fr, ?_⟩
        rw [e]
        intro L1 H1 st1 rel1 v hv
        have fr1 := fr.step st1 rel1
        have po1 : Post c.p c.W σ L1 H1 (fun d x L' H' => ∀ v, Dq L'.S v d → Q v H') (bnd (fa Γ) (fun e => lift (h (.tuple ds) e)) g1) := po L1 H1 st1 rel1
        have po1 := Post.bind po1
        refine ⟨?_, L0, H0, L1, g1, Γ, fr1, po1.mono fun e2 g2 L2 H2 st2 rel2 po2 u hu => ?_⟩
        · cases hv with
          | tup hS hA hN => exact ⟨_, _, _, rfl, rel1.s _ _ hS, hN⟩
        · obtain ⟨z, hz, po2⟩ := po2.lift rel2
          exact hT L2 g2 H2 v u ds e2 z Q rel2 (hv.mono st2.ss) hu hz fun v' L' H' st' rel' hd => po2 L' H' st' rel' v' hd
      | list ds =>
        refine .inl ⟨L0, H0, L, g, Γ, fr, ?_⟩
        rw [e]
        intro L1 H1 st1 rel1 v hv
        have fr1 := fr.step st1 rel1
        have po1 : Post c.p c.W σ L1 H1 (fun d x L' H' => ∀ v, Dq L'.S v d → Q v H') (bnd (fa Γ) (fun e => lift (h (.list ds) e)) g1) := po L1 H1 st1 rel1
        have po1 := Post.bind po1
        refine ⟨?_, L0, H0, L1, g1, Γ, fr1, po1.mono fun e2 g2 L2 H2 st2 rel2 po2 u hu => ?_⟩
        · cases hv with
          | lst hS hA => exact .inl ⟨rfl, _, SqL.of (rel1.s _ _ hS)⟩
        · obtain ⟨z, hz, po2⟩ := po2.lift rel2
          exact hL L2 g2 H2 v u ds e2 z Q rel2 (hv.mono st2.ss) hu hz fun v' L' H' st' rel' hd => po2 L' H' st' rel' v' hd
      | none => exact .inl ⟨L0, H0, L, g, Γ, fr, by rw [e]; exact fun L1 H1 st1 rel1 v _ => (po L1 H1 st1 rel1).elim⟩
      | bool _ => exact .inl ⟨L0, H0, L, g, Γ, fr, by rw [e]; exact fun L1 H1 st1 rel1 v _ => (po L1 H1 st1 rel1).elim⟩
      | int _ => exact .inl ⟨L0, H0, L, g, Γ, fr, by rw [e]; exact fun L1 H1 st1 rel1 v _ => (po L1 H1 st1 rel1).elim⟩
      | str _ => exact .inl ⟨L0, H0, L, g, Γ, fr, by rw [e]; exact fun L1 H1 st1 rel1 v _ => (po L1 H1 st1 rel1).elim⟩
      | dict _ => exact .inl ⟨L0, H0, L, g, Γ, fr, by rw [e]; exact fun L1 H1 st1 rel1 v _ => (po L1 H1 st1 rel1).elim⟩
theorem de_count {o a : Expr} {fo fa : List Sl → Mo PD} {p1 pos : Pos} (ho : DE c o fo) (ha : DE c a fa) (hbase : attributeBase o "count" c.X.env (eval o c.X.env) = eval o c.X.env := by rfl)
    (hfew : ((backTo pos (starEach [a] c.X.env)).all (fun x => !x.1) && (backToKw pos (keywordEach [] c.X.env)).all (fun x => x.1.isSome) && decide ([a].length + ([] : List Keyword).length + (if ([] : List Keyword).isEmpty then 0 else 1) < 30)) = true := by rfl)
    (hline : (p1.endLine == pos.line) = true := by rfl) (hs : starEach [a] c.X.env = (false, eval a c.X.env) :: starEach [] c.X.env := by rfl) (hpl : (backTo pos (starEach [] c.X.env)).any (·.1) = false := by rfl) : DE c (.Call (.Attribute o "count" p1) [a] [] pos) (eM2 cntD fo fa) :=
  de_meth2 PySem.F.slot_list_count PySem.F.type_list_count av_lcount PySem.F.slot_tuple_count PySem.F.type_tuple_count av_tcount
    (fun L g H x y ds e z Q rel hx hy hz k => by
      cases hx with
      | lst hS hA =>
        obtain ⟨h1, h2, rfl⟩ := cnt_core hA hy hz
        exact ⟨_, _, _, rfl, rfl, SqL.of (rel.s _ _ hS), h1, h2, k _ L H (Stp.refl rel) rel (.int _)⟩)
    (fun L g H x y ds e z Q rel hx hy hz k => by
      cases hx with
      | tup hS hA hN =>
        obtain ⟨h1, h2, rfl⟩ := cnt_core hA hy hz
        exact ⟨_, _, _, rfl, rfl, SqTF (rel.s _ _ hS), h1, h2, k _ L H (Stp.refl rel) rel (.int _)⟩)
    ho ha hbase hfew hline hs hpl
/-- the first place of an equal one -/
def fstEq (d : PD) : List PD → Nat → Option Nat
  | [], _ => none
  | z :: r, i => if PyData.eqv z d = true then some i else fstEq d r (i + 1)
theorem fstEq_is {d : PD} : ∀ {ds : List PD} {i j : Nat}, fstEq d ds i = some j → ∃ m z, j = i + m ∧ ds[m]? = some z ∧ PyData.eqv z d = true ∧ ∀ (n : Nat) (z' : PD), n < m → ds[n]? = some z' → PyData.eqv z' d = false
  | [], i, j, h => by cases h
  | z :: r, i, j, h => by
    unfold fstEq at h
    cases e : PyData.eqv z d with
    | true =>
      rw [e, if_pos rfl] at h
      cases h
      exact ⟨0, z, rfl, rfl, e, fun n z' hn _ => absurd hn (Nat.not_lt_zero _)⟩
    | false =>
      rw [e, if_neg Bool.false_ne_true] at h
      obtain ⟨m, z2, h1, h2, h3, h4⟩ := fstEq_is h
      refine ⟨m + 1, z2, by omega, by simpa using h2, h3, fun n z' hn hz' => ?_⟩
      cases n with
      | zero => simp at hz'; subst hz'; exact e
      | succ n => exact h4 n z' (by omega) (by simpa using hz')
def idxD : PD → PD → Option PD
  | .list ds, d => if (SeqAt.shaped (.list ds) && SeqAt.shaped d) = true then (fstEq d ds 0).map fun j => .int (j : Nat) else none
  | .tuple ds, .int i => (intsOf ds).bind fun ns => if ns.contains i = true then some (.int ((ns.idxOf i : Nat))) else none
  | _, _ => none
theorem de_index {o a : Expr} {fo fa : List Sl → Mo PD} {p1 pos : Pos} (hu : c.X.A.units + 65 < cLine) (ho : DE c o fo) (ha : DE c a fa) (hbase : attributeBase o "index" c.X.env (eval o c.X.env) = eval o c.X.env := by rfl)
    (hfew : ((backTo pos (starEach [a] c.X.env)).all (fun x => !x.1) && (backToKw pos (keywordEach [] c.X.env)).all (fun x => x.1.isSome) && decide ([a].length + ([] : List Keyword).length + (if ([] : List Keyword).isEmpty then 0 else 1) < 30)) = true := by rfl)
    (hline : (p1.endLine == pos.line) = true := by rfl) (hs : starEach [a] c.X.env = (false, eval a c.X.env) :: starEach [] c.X.env := by rfl) (hpl : (backTo pos (starEach [] c.X.env)).any (·.1) = false := by rfl) : DE c (.Call (.Attribute o "index" p1) [a] [] pos) (eM2 idxD fo fa) :=
  de_meth2 PySem.F.slot_list_index PySem.F.type_list_index (mt_indexD hu) PySem.F.slot_tuple_index PySem.F.type_tuple_index av_tindex
    (fun L g H x y ds e z Q rel hx hy hz k => by
      have hz' : (if (SeqAt.shaped (.list ds) && SeqAt.shaped e) = true then (fstEq e ds 0).map fun j => PyData.int (j : Nat) else none) = some z := hz
      cases hb : (SeqAt.shaped (.list ds) && SeqAt.shaped e) with
      | false => rw [hb, if_neg Bool.false_ne_true] at hz'; cases hz'
      | true =>
        rw [hb, if_pos rfl] at hz'
        obtain ⟨m, hm, rfl⟩ := Option.map_eq_some_iff.mp hz'
        rw [Bool.and_eq_true] at hb
        obtain ⟨n, w, h1, h2, h3, h4⟩ := fstEq_is hm
        have e1 : m = n := by omega
        subst e1
        have hd := ((hx.mono rel.s).dp (K := c.X.K))
        cases hx with
        | lst hS hA => exact ⟨_, y, e, ds, m, w, rfl, rfl, hd, (hy.mono rel.s).dp, hb.1, hb.2, h2, h3, h4, k _ L H (Stp.refl rel) rel (.int _)⟩)
    (fun L g H x y ds e z Q rel hx hy hz k => by
      cases hy with
      | int i =>
        obtain ⟨ns, hn, hz⟩ := Option.bind_eq_some_iff.mp hz
        obtain ⟨hb, rfl⟩ := if_some hz
        cases hx with
        | tup hS hA hN =>
          cases intsOf_vals hA hn
          exact ⟨_, ns, i, rfl, rfl, SqTF (rel.s _ _ hS), by simpa using hb, k _ L H (Stp.refl rel) rel (.int _)⟩
      | non => cases hz
      | bl _ => cases hz
      | str _ => cases hz
      | lst _ _ => cases hz
      | tup _ _ _ => cases hz)
    ho ha hbase hfew hline hs hpl
/-! ### text.join(list of texts) -/
def joinD (x : Str) : PD → Option PD
  | .list ds => (strsOf ds).bind fun ys => if Nat.ble ((ys.map (·.length)).sum + ys.length * x.length) 100000 = true then some (.str (Txt.join x ys)) else none
  | _ => none
theorem de_join {x : Str} {a : Expr} {fa : List Sl → Mo PD} {j : Nat} {p0 p1 pos : Pos} (ha : DE c a fa) (hbase : attributeBase (.Constant (.str x) j p0) "join" c.X.env (eval (.Constant (.str x) j p0) c.X.env) = eval (.Constant (.str x) j p0) c.X.env := by rfl)
    (hfew : ((backTo pos (starEach [a] c.X.env)).all (fun x => !x.1) && (backToKw pos (keywordEach [] c.X.env)).all (fun x => x.1.isSome) && decide ([a].length + ([] : List Keyword).length + (if ([] : List Keyword).isEmpty then 0 else 1) < 30)) = true := by rfl)
    (hline : (p1.endLine == pos.line) = true := by rfl) (hs : starEach [a] c.X.env = (false, eval a c.X.env) :: starEach [] c.X.env := by rfl) (hpl : (backTo pos (starEach [] c.X.env)).any (·.1) = false := by rfl) : DE c (.Call (.Attribute (.Constant (.str x) j p0) "join" p1) [a] [] pos) (eUnD (joinD x) fa) :=
  PE.imp (pe_bm PySem.F.plainAttrs_str PySem.F.slot_str_join PySem.F.type_str_join mt_join pe_str (pa_cons ha pa_nil hs) hbase hfew hline hs hpl) fun σ H Q q => by
    obtain ⟨L0, H0, L, g, Γ, fr, po⟩ := q
    have po := Post.bind po
    refine ⟨rfl, L0, H0, L, g, Γ, fr, po.mono fun d g1 L1 H1 st1 rel1 po1 v hv => ?_⟩
    obtain ⟨z, hz, po1⟩ := po1.lift rel1
    cases hv with
    | lst hS hA =>
      obtain ⟨ys, hn, hz⟩ := Option.bind_eq_some_iff.mp hz
      obtain ⟨hb, rfl⟩ := if_some hz
      cases strsOf_vals hA hn
      exact ⟨x, _, ys, rfl, rfl, .inl (SqL.of (rel1.s _ _ hS)), by have := Nat.le_of_ble_eq_true hb; omega, po1 L1 H1 (Stp.refl rel1) rel1 _ (.str _)⟩
    | non => cases hz
    | bl _ => cases hz
    | int _ => cases hz
    | str _ => cases hz
    | tup _ _ _ => cases hz
end
end Av

namespace L2
open PySem PySem.Spec PyProof.Rows L2H
/-- isinstance(e, c), e one of what the context holds -/
theorem av_isE {X : Cx} {a D : Addr} {oe : Obj} (hp : (a, oe) ∈ X.pn) (C : ExcC X.K D) (hz : Zc (.ref D) none oe) (hf : ∃ vs, oe.data = .fields vs) : CallR X (.builtin "isinstance") (rIsE X.K D a) := by
  intro pins s σ H xs us Q I r h
  obtain ⟨c, cv, b, rfl, hcv, e, q⟩ := h
  match r with
  | .cons rx (.cons rt .nil) =>
    cases rx
    cases hcv _ rt
    have hget := (I.pin (a, oe) (List.mem_append_left _ hp)).1
    obtain ⟨vs, hv⟩ := hf
    have J : PySem.W.InstAt s.heap a oe D none := by
      obtain ⟨oc, od, oda, osl⟩ := oe
      obtain ⟨rfl, rfl⟩ : oc = Value.ref D ∧ od = none := hz
      have hv : oda = .fields vs := hv
      subst hv
      exact ⟨hget, rfl, rfl, trivial⟩
    exact PySem.W.kia_one (PySem.W.handS_kitx_exc C.hg C.hk C.hs C.hd C.ha C.hn C.ht C.hm) I.kIn J e (fun z => nomatch z) fun tk => ⟨.bl b, H, I.kept (t' := tk) fun _ _ z => z, rfl, q⟩
/-- what a def promises of the exception that is handled -/
structure FnW (P : Program) (w : World) (K : PySem.W.Frag) (mg : Str → Option Value) (base : Heap) (k : Nat) (f : Addr) (fd : FuncData) (x : Str) (Z : Obj → Prop) (R : Hp → VK → Prop) : Prop where
  run : ∀ (A : Around) (outer : List Env) (s : Shared) (H : Hp) (args : Args) (Q : VK) (p : Addr × Obj), RoomH k A → Hot1 A p → PinOk outer H s p → Z p.2 → Env0 P w K mg base A outer s H → BindsTo s fd args [(x, .ref p.1)] → R H Q →
    codeAny (model P w) A (.call (.ref f) args) (CR (L2N.CX P w) outer P w H s Q (fun _ _ _ => False)) s
theorem fn_ofW {P : Program} {w : World} {K : PySem.W.Frag} {mg : Str → Option Value} {base : Heap} {k : Nat} {f : Addr} {name qual x : Str} {params : Arguments} {body : List Stmt} {scope : Scope} {dV kV doc pm cdv ct oc : Value} {an od : Option Addr}
    {osl : Array (Option Value)} {N : List Str} {Z : Obj → Prop} {R : Hp → VK → Prop} (lk : K.lookup f = some ⟨oc, od, .func (PySem.W.fnOf name qual params body scope dV kV doc pm an cdv ct), osl⟩) (hcd : PySem.W.codeIn K cdv qual = true) (S : FnScope N [x] scope)
    (hbody : ∀ (A : Around) (outer : List Env) (s : Shared) (H : Hp) (Q : VK) (p : Addr × Obj), Hot1 A p → RoomH k (A.deeper (envOfC qual scope s.heap.objs.size f cdv)) → Z p.2 → R H Q →
      ∃ t, PSs (cxH (L2N.CX P w) P w K mg base N qual scope f cdv A outer s H (fun _ _ _ => False) p) body t ∧ t { nx := fun _ H' => Q .non H', rt := Q } (L2.start N [.ref p.1]) H) :
    FnW P w K mg base (k + 1) f (PySem.W.fnOf name qual params body scope dV kV doc pm an cdv ct) x Z R := by
  refine ⟨fun A outer s H args Q p hr hot hpin hz e0 hb hR => ?_⟩
  have KX : K.In s.heap := e0.mod.kin.keeps fun b o e => (e0.bs b o e).1
  have lim : s.heap.NoLimit := e0.mod.nolimit.keeps fun b o e => (e0.bs b o e).1
  have hkind : ∀ y ∈ [(x, Value.ref p.1)], scope.names.lookup y.1 = some .local ∨ (scope.names.lookup y.1 = some .cell ∧ ((cellsFrom (s.heap.objs.size + 1) scope.names []).lookup y.1).isSome = true) := fun y hy => by
    have e : y = (x, Value.ref p.1) := List.mem_singleton.mp hy
    subst e
    rcases S.par x (List.mem_singleton.mpr rfl) with q | q
    · exact .inl q
    · exact .inr ⟨q, PySem.W.cellsFrom_some _ _ _ (.inl q)⟩
  refine codeAny_call_function hr.depth (KX _ _ lk) rfl S.co S.gen rfl (PySem.W.codeRec_of KX hcd) (hb _ _ _ _ ?_)
  refine wpAny_newFunctionEnv_cells S.kind hkind fun env he s1 x1 => ?_
  subst he
  refine ⟨lim.keeps x1.toInCall.keep, codeAny_func ?_⟩
  obtain ⟨t, ht, hq⟩ := hbody A outer s H Q p hot (hr.deeper _) hz hR
  have I : Inv (cxH (L2N.CX P w) P w K mg base N qual scope f cdv A outer s H (fun _ _ _ => False) p) [] (L2.start N [.ref p.1]) H s1 := inv_startH S hpin e0 rfl (.cons rfl .nil) x1
  refine wpAny_mono (ht.run [] s1 (L2.start N [.ref p.1]) H _ I hq) (fun fl s' hs => ?_) fun e s' hs => hs
  have fin : ∀ {σ' : L2.St} {H' : Hp} {v : V} {u : Value}, Inv (cxH (L2N.CX P w) P w K mg base N qual scope f cdv A outer s H (fun _ _ _ => False) p) [] σ' H' s' → RelV v u → Q v H' → CE outer P w H s Q u s' :=
    fun {σ' H' v u} J rv q => ⟨v, H', J.os, J.bare, J.base, J.hok, rv, q⟩
  cases fl with
  | ret u =>
    obtain ⟨v, σ', H', J, rv, q⟩ := hs
    exact fin J rv q
  | next =>
    obtain ⟨σ', H', J, q⟩ := hs
    exact fin (v := V.non) (u := Value.none) J rfl q
  | brk =>
    obtain ⟨_, _, _, q⟩ := hs
    exact False.elim q
  | cont =>
    obtain ⟨_, _, _, q⟩ := hs
    exact False.elim q
/-- f(e) in the suite that holds e -/
theorem pe_callW {X : Cx} {a : Addr} {oe : Obj} {pn : List (Addr × Obj)} {k i : Nat} {f : Addr} {fd : FuncData} {x n y : Str} {Z : Obj → Prop} {R : Hp → VK → Prop} {q1 q2 pos : Pos} (F : FnW X.prog X.w X.K X.mg X.base k f fd y Z R) (hr : Room k X.A) (hz : Z oe) (hc : ∃ vs, oe.data = .fields vs ∧ vs[2]? = some .none)
    (hg : Gl X x) (hm : X.mg x = some (.ref f)) (hk : PySem.W.keepIn X.K (.ref f) = true) (hb : Binds X.K fd [y] []) (hN : X.N[i]? = some n) (hv : Vis X.env.scope n) (hd : (n == ("__debug__" : Str)) = false) (hcd : (n == ("__classdict__" : Str)) = false) (hdb : (x == ("__debug__" : Str)) = false)
    (he : starEach [.Name n q2] X.env = (false, eval (.Name n q2) X.env) :: starEach [] X.env := by rfl) (hpl : (backTo pos (starEach [] X.env)).any (·.1) = false := by rfl) :
    PE (X.suite a ((a, oe) :: pn)) (.Call (.Name x q1) [.Name n q2] [] pos) (fun σ H Q => σ[i]? = some (some (.ref a)) ∧ R H Q) := by
  refine ⟨fun pins s σ H Q I h => ?_⟩
  obtain ⟨hσ, hR⟩ := h
  refine wpAny_Call_Name_kw (ld_glob I hg hm ?_ hdb)
  have ha := pa_cons (X := X.suite a ((a, oe) :: pn)) (pe_var (pos := q2) hN hv hd hcd) pa_nil he
  have h0 := ha.run pos pins s σ H (fun vs H1 => vs = [V.ref a] ∧ H1 = H) I (by exact ⟨V.ref a, hσ, rfl, rfl⟩)
  refine PySem.W.callWith_K (h₀ := X.base) I.ok.mod.kin hk (thn h0 fun us s1 hh => ?_) he hpl
  obtain ⟨vs, H1, I1, r, e1, e2⟩ := hh
  refine ⟨I1.kIn, ?_⟩
  subst e1 e2
  match us, r with
  | [u], .cons ru .nil =>
    cases ru
    have P1 := I1.pin (a, oe) (List.mem_append_left _ List.mem_cons_self)
    have hpin : PinOk X.stack H1 s1 (a, oe) := ⟨P1.1, P1.2.1, fun hm => (List.mem_cons.mp (I1.stkSub a hm)).elim P1.2.2.1 P1.2.2.2.1, P1.2.2.2.2⟩
    have b := hb s1 [.ref a] I1.kIn rfl
    refine wpAny_call (codeAny_mono (F.run (X.A.mark (some (.ref a))) X.stack s1 H1 ⟨[.ref a], []⟩ Q (a, oe) ⟨hr.dp, hr.un⟩ ⟨rfl, hc⟩ hpin hz I1.env0 b hR) fun r s' hq => ?_)
    cases r with
    | error e =>
      obtain ⟨_, _, _, _, _, _, _, _, _, _, _, _, z⟩ := hq
      exact z.elim
    | ok fl =>
      cases fl with
      | ret u => exact I1.after hq
      | next => exact False.elim hq
      | brk => exact False.elim hq
      | cont => exact False.elim hq
end L2
namespace Av
open PySem PySem.Spec L2
open L2H hiding St
open PyProof.Rows hiding St
set_option autoImplicit false
section
variable {c : Ct} {k : Nat}
/-- a new own list, where calm need not be -/
theorem ds_ownH (i : Nat) {x : Str} {e : Expr} {f : List Sl → Mo (List PD)} {pos pos' : Pos} (nd : c.X.N.Nodup) (h : DF c e f) (hi : c.X.N[i]? = some x := by rfl) (hx : Loc c.X.env.scope x := by first | exact Or.inl rfl | exact Or.inr rfl) (hs : swapsWith e (some (.Name x pos')) pos.line c.X.env = pure false := by rfl)
    (hf : c.X.fn x = true ∨ c.X.env.scope.names.lookup x = some .local := by first | exact .inl rfl | exact .inr rfl) : DS c (.Assign [.Name x pos'] e pos) (sOwn i f) :=
  PS.imp (ps_set nd hi hx h hs hf) fun D σ H q => by
    obtain ⟨L0, H0, L, g, Γ, fr, po⟩ := q
    have po := PostS.bind fr po
    exact ⟨L0, H0, L, g, Γ, fr, po.mono fun ds g1 L1 H1 st1 rel1 po1 q vs hq hvs => PostS.pure po1 ((fr.step st1 rel1).setOwn i hq hvs)⟩
/-! ### isinstance(e, c) of the exception that is handled -/
def isPin (a : Addr) : Option Sl → Option Unit
  | some (.pin b) => if Nat.beq b a = true then some () else none
  | _ => none
theorem isPin_some {a : Addr} {o : Option Sl} {u : Unit} (h : isPin a o = some u) : o = some (.pin a) := by
  unfold isPin at h
  split at h
  · rename_i b
    split at h
    · rename_i e; rw [Nat.eq_of_beq_eq_true e]
    · cases h
  · cases h
def eIsE (a : Addr) (b : Bool) : List Sl → Mo PD := fun Γ => bnd (lift (isPin a Γ[0]?)) fun _ => ret (.bool b)
theorem isE_core {a : Addr} {b : Bool} {σ : St} {H : Hp} {Q : VK} (q : tE c.p c.W (eIsE a b) σ H Q) : σ[0]? = some (some (.ref a)) ∧ Q (.bl b) H := by
  obtain ⟨L0, H0, L, g, Γ, fr, po⟩ := q
  obtain ⟨_, ho, po⟩ := Post.lift (Post.bind po) fr.rel
  have po := po L H (Stp.refl fr.rel) fr.rel
  have hi := isPin_some ho
  have hlt : 0 < σ.length := by rw [← fr.len]; exact (List.getElem?_eq_some_iff.mp hi).1
  have e := fr.sl 0 _ _ hi (List.getElem?_eq_getElem hlt)
  exact ⟨by rw [List.getElem?_eq_getElem hlt]; exact congrArg some e, po.pure fr.rel _ (.bl b)⟩
theorem de_isE {a D C : Addr} {oe : Obj} {b : Bool} {x n : Str} {p p1 p2 pos : Pos} (hp : (a, oe) ∈ c.X.pn) (E : ExcC c.X.K D) (hz : Zc (.ref D) none oe) (hf : ∃ vs, oe.data = .fields vs) (hm : c.X.mg "isinstance" = none) (hC : c.X.mg x = some (.ref C)) (hk : PySem.W.kitOne c.X.K (.ref D) (.ref C) = some b)
    (hN : c.X.N[0]? = some n := by rfl) (hv : Vis c.X.env.scope n := by first | exact Or.inl rfl | exact Or.inr (Or.inl rfl) | exact Or.inr (Or.inr rfl)) (hg : Gl c.X "isinstance" := by rfl) (hgC : Gl c.X x := by rfl)
    (hd : (n == ("__debug__" : Str)) = false := by decide) (hcd : (n == ("__classdict__" : Str)) = false := by decide) (hdb : (x == ("__debug__" : Str)) = false := by decide)
    (hs : starEach [.Name n p1, .Name x p2] c.X.env = (false, eval (.Name n p1) c.X.env) :: starEach [.Name x p2] c.X.env := by rfl) (hs2 : starEach [.Name x p2] c.X.env = (false, eval (.Name x p2) c.X.env) :: starEach [] c.X.env := by rfl) (hpl : (backTo pos (starEach [.Name x p2] c.X.env)).any (·.1) = false := by rfl) :
    DE c (.Call (.Name "isinstance" p) [.Name n p1, .Name x p2] [] pos) (eIsE a b) :=
  PE.imp (pe_callB (av_isE hp E hz hf) hg hm PyProof.Rows.boot_isinstance (pa_cons (pe_var hN hv hd hcd) (pa_cons (pe_glob (v := .ref C) hgC hC rfl hdb) pa_nil hs2) hs) (by decide) (by decide) hs hpl) fun σ H Q q => by
    obtain ⟨h1, h2⟩ := isE_core q
    exact ⟨_, h1, .ref C, .ref C, b, rfl, fun u r => r, hk, h2⟩
theorem de_isEB {a D : Addr} {oe : Obj} {b : Bool} {T : String} {x n : Str} {p p1 p2 pos : Pos} (hp : (a, oe) ∈ c.X.pn) (E : ExcC c.X.K D) (hz : Zc (.ref D) none oe) (hf : ∃ vs, oe.data = .fields vs) (hm : c.X.mg "isinstance" = none) (hC : c.X.mg x = none) (hv' : bootBuiltins x = some (.type T)) (hk : PySem.W.kitOne c.X.K (.ref D) (.type T) = some b)
    (hN : c.X.N[0]? = some n := by rfl) (hv : Vis c.X.env.scope n := by first | exact Or.inl rfl | exact Or.inr (Or.inl rfl) | exact Or.inr (Or.inr rfl)) (hg : Gl c.X "isinstance" := by rfl) (hgC : Gl c.X x := by rfl) (hnn : x ≠ "__name__" := by decide)
    (hd : (n == ("__debug__" : Str)) = false := by decide) (hcd : (n == ("__classdict__" : Str)) = false := by decide) (hdb : (x == ("__debug__" : Str)) = false := by decide)
    (hs : starEach [.Name n p1, .Name x p2] c.X.env = (false, eval (.Name n p1) c.X.env) :: starEach [.Name x p2] c.X.env := by rfl) (hs2 : starEach [.Name x p2] c.X.env = (false, eval (.Name x p2) c.X.env) :: starEach [] c.X.env := by rfl) (hpl : (backTo pos (starEach [.Name x p2] c.X.env)).any (·.1) = false := by rfl) :
    DE c (.Call (.Name "isinstance" p) [.Name n p1, .Name x p2] [] pos) (eIsE a b) :=
  PE.imp (pe_callB (av_isE hp E hz hf) hg hm PyProof.Rows.boot_isinstance (pa_cons (pe_var hN hv hd hcd) (pa_cons (pe_bltn (v := .ty T) hgC hC hv' rfl hnn hdb) pa_nil hs2) hs) (by decide) (by decide) hs hpl) fun σ H Q q => by
    obtain ⟨h1, h2⟩ := isE_core q
    exact ⟨_, h1, .ty T, .type T, b, rfl, fun u r => r, hk, h2⟩
/-! ### which one it is -/
def m_which (a : Addr) (b : Nat → Bool) : List Sl → Mo Fl :=
  sSeq (sOwn 1 (fLst (aCons (eIsE a (b 0)) (aCons (eIsE a (b 1)) (aCons (eIsE a (b 2)) aNil)))))
  (sSeq (sExt 1 (aCons (eIsE a (b 3)) aNil))
  (sSeq (sExt 1 (aCons (eIsE a (b 4)) (aCons (eIsE a (b 5)) (aCons (eIsE a (b 6)) (aCons (eIsE a (b 7)) aNil)))))
  (sSeq (sExt 1 (aCons (eIsE a (b 8)) (aCons (eIsE a (b 9)) (aCons (eIsE a (b 10)) aNil))))
  (sSeq (sApp 1 (eIsE a (b 11)))
  (sSeq (sIf (sFrz 1 (bOr (eTest (eBin neD (eM2 cntD (eVar 1) (eC (.bool true))) (eC (.int 1)))) (bNot (eTest (eIsE a (b 12)))))) (sRet (eTup (aCons (eC (.str "raised")) (aCons (eUn negD (eC (.int 1))) aNil)))) sNext)
  (sFrz 1 (sRet (eTup (aCons (eC (.str "raised")) (aCons (eM2 idxD (eVar 1) (eC (.bool true))) aNil))))))))))
def whichB (j i : Nat) : Bool := Nat.beq i 12 || Nat.beq i j
def raisedD (j : Nat) : PD := .tuple [.str "raised", .int (j : Nat)]
theorem pinned (a : Addr) (x : Sl) (b : Bool) (g : G) : eIsE a b [.pin a, x] g = .ok (.bool b) g := by
  show (lift (if Nat.beq a a = true then some () else none) g).bind _ = _
  rw [Nat.beq_refl]
  rfl
theorem which_ok (a : Addr) (j : Nat) (hj : j < 12) (g : G) : m_which a (whichB j) [.pin a, .dead] g = .ok (.ret (raisedD j)) g := by
  have e1 : ∀ b0 b1 b2 : Bool, sOwn 1 (fLst (aCons (eIsE a b0) (aCons (eIsE a b1) (aCons (eIsE a b2) aNil)))) [.pin a, .dead] g = .ok (.next [.pin a, .own [.bool b0, .bool b1, .bool b2]]) g := fun b0 b1 b2 => by
    simp only [sOwn, fLst, aCons, aNil, bnd, pinned, Res.bind, ret, lift]
    rfl
  have e2 : ∀ b0 b1 b2 b3 : Bool, sExt 1 (aCons (eIsE a b3) aNil) [.pin a, .own [.bool b0, .bool b1, .bool b2]] g = .ok (.next [.pin a, .own [.bool b0, .bool b1, .bool b2, .bool b3]]) g := fun b0 b1 b2 b3 => by
    simp only [sExt, aCons, aNil, bnd, pinned, Res.bind, ret, lift]
    rfl
  have e3 : ∀ b0 b1 b2 b3 b4 b5 b6 b7 : Bool, sExt 1 (aCons (eIsE a b4) (aCons (eIsE a b5) (aCons (eIsE a b6) (aCons (eIsE a b7) aNil)))) [.pin a, .own [.bool b0, .bool b1, .bool b2, .bool b3]] g = .ok (.next [.pin a, .own [.bool b0, .bool b1, .bool b2, .bool b3, .bool b4, .bool b5, .bool b6, .bool b7]]) g := fun b0 b1 b2 b3 b4 b5 b6 b7 => by
    simp only [sExt, aCons, aNil, bnd, pinned, Res.bind, ret, lift]
    rfl
  have e4 : ∀ b0 b1 b2 b3 b4 b5 b6 b7 b8 b9 b10 : Bool, sExt 1 (aCons (eIsE a b8) (aCons (eIsE a b9) (aCons (eIsE a b10) aNil))) [.pin a, .own [.bool b0, .bool b1, .bool b2, .bool b3, .bool b4, .bool b5, .bool b6, .bool b7]] g = .ok (.next [.pin a, .own [.bool b0, .bool b1, .bool b2, .bool b3, .bool b4, .bool b5, .bool b6, .bool b7, .bool b8, .bool b9, .bool b10]]) g := fun b0 b1 b2 b3 b4 b5 b6 b7 b8 b9 b10 => by
    simp only [sExt, aCons, aNil, bnd, pinned, Res.bind, ret, lift]
    rfl
  have e5 : ∀ b0 b1 b2 b3 b4 b5 b6 b7 b8 b9 b10 b11 : Bool, sApp 1 (eIsE a b11) [.pin a, .own [.bool b0, .bool b1, .bool b2, .bool b3, .bool b4, .bool b5, .bool b6, .bool b7, .bool b8, .bool b9, .bool b10]] g = .ok (.next [.pin a, .own [.bool b0, .bool b1, .bool b2, .bool b3, .bool b4, .bool b5, .bool b6, .bool b7, .bool b8, .bool b9, .bool b10, .bool b11]]) g := fun b0 b1 b2 b3 b4 b5 b6 b7 b8 b9 b10 b11 => by
    simp only [sApp, bnd, pinned, Res.bind, ret, lift]
    rfl
  unfold m_which
  rw [sSeq_next (e1 _ _ _), sSeq_next (e2 _ _ _ _), sSeq_next (e3 _ _ _ _ _ _ _ _), sSeq_next (e4 _ _ _ _ _ _ _ _ _ _ _), sSeq_next (e5 _ _ _ _ _ _ _ _ _ _ _ _)]
  have hp : ∀ y : Sl, bNot (eTest (eIsE a (whichB j 12))) [.pin a, y] g = .ok false g := fun y => by
    unfold bNot eTest
    simp only [bnd, pinned]
    rfl
  have h : j = 0 ∨ j = 1 ∨ j = 2 ∨ j = 3 ∨ j = 4 ∨ j = 5 ∨ j = 6 ∨ j = 7 ∨ j = 8 ∨ j = 9 ∨ j = 10 ∨ j = 11 := by omega
  have fin : ∀ bs : List Bool, bs.count true = 1 → fstEq (.bool true) (bs.map PyData.bool) 0 = some j → SeqAt.shaped (.list (bs.map PyData.bool)) = true → (sSeq (sIf (sFrz 1 (bOr (eTest (eBin neD (eM2 cntD (eVar 1) (eC (.bool true))) (eC (.int 1)))) (bNot (eTest (eIsE a (whichB j 12)))))) (sRet (eTup (aCons (eC (.str "raised")) (aCons (eUn negD (eC (.int 1))) aNil)))) sNext)
      (sFrz 1 (sRet (eTup (aCons (eC (.str "raised")) (aCons (eM2 idxD (eVar 1) (eC (.bool true))) aNil)))))) [.pin a, .own (bs.map PyData.bool)] g = .ok (.ret (raisedD j)) g := fun bs h1 h2 h3 => by
    have t1 : eTest (eBin neD (eM2 cntD (eVar 1) (eC (.bool true))) (eC (.int 1))) [.pin a, .val (.list (bs.map PyData.bool))] g = .ok false g := by
      have hc : cntL (bs.map PyData.bool) (.bool true) = some (.int 1) := by
        show (boolsOf (bs.map PyData.bool)).map _ = _
        have hb : ∀ l : List Bool, boolsOf (l.map PyData.bool) = some l := by
          intro l
          induction l with
          | nil => rfl
          | cons x r ih => show (boolsOf (r.map PyData.bool)).map (x :: ·) = _; rw [ih]; rfl
        rw [hb bs]
        show some (PyData.int ((bs.count true : Nat))) = _
        rw [h1]
        rfl
      have hm : eM2 cntD (eVar 1) (eC (.bool true)) [.pin a, .val (.list (bs.map PyData.bool))] g = .ok (.int 1) g := by
        show lift (cntL (bs.map PyData.bool) (.bool true)) g = _
        rw [hc]
        rfl
      exact eTest_ok (eBin_ok hm rfl (by kernel_rfl))
    have t2 : bOr (eTest (eBin neD (eM2 cntD (eVar 1) (eC (.bool true))) (eC (.int 1)))) (bNot (eTest (eIsE a (whichB j 12)))) [.pin a, .val (.list (bs.map PyData.bool))] g = .ok false g := by
      unfold bOr
      simp only [bnd]
      rw [t1]
      exact hp _
    have t3 : sIf (sFrz 1 (bOr (eTest (eBin neD (eM2 cntD (eVar 1) (eC (.bool true))) (eC (.int 1)))) (bNot (eTest (eIsE a (whichB j 12)))))) (sRet (eTup (aCons (eC (.str "raised")) (aCons (eUn negD (eC (.int 1))) aNil)))) sNext [.pin a, .own (bs.map PyData.bool)] g = .ok (.next [.pin a, .own (bs.map PyData.bool)]) g := sIf_f t2
    rw [sSeq_next t3]
    have t4 : eM2 idxD (eVar 1) (eC (.bool true)) [.pin a, .val (.list (bs.map PyData.bool))] g = .ok (.int (j : Nat)) g := by
      show lift (if (SeqAt.shaped (.list (bs.map PyData.bool)) && SeqAt.shaped (.bool true)) = true then (fstEq (.bool true) (bs.map PyData.bool) 0).map fun j => PyData.int (j : Nat) else none) g = _
      rw [h3, h2, if_pos (by kernel_rfl)]
      rfl
    show sRet (eTup (aCons (eC (.str "raised")) (aCons (eM2 idxD (eVar 1) (eC (.bool true))) aNil))) [.pin a, .val (.list (bs.map PyData.bool))] g = _
    refine sRet_ok ?_
    unfold eTup aCons
    simp only [bnd, eC, ret, Res.bind]
    rw [t4]
    rfl
  rcases h with rfl | rfl | rfl | rfl | rfl | rfl | rfl | rfl | rfl | rfl | rfl | rfl
  · exact fin [true, false, false, false, false, false, false, false, false, false, false, false] rfl (by kernel_rfl) (by kernel_rfl)
  · exact fin [false, true, false, false, false, false, false, false, false, false, false, false] rfl (by kernel_rfl) (by kernel_rfl)
  · exact fin [false, false, true, false, false, false, false, false, false, false, false, false] rfl (by kernel_rfl) (by kernel_rfl)
  · exact fin [false, false, false, true, false, false, false, false, false, false, false, false] rfl (by kernel_rfl) (by kernel_rfl)
  · exact fin [false, false, false, false, true, false, false, false, false, false, false, false] rfl (by kernel_rfl) (by kernel_rfl)
  · exact fin [false, false, false, false, false, true, false, false, false, false, false, false] rfl (by kernel_rfl) (by kernel_rfl)
  · exact fin [false, false, false, false, false, false, true, false, false, false, false, false] rfl (by kernel_rfl) (by kernel_rfl)
  · exact fin [false, false, false, false, false, false, false, true, false, false, false, false] rfl (by kernel_rfl) (by kernel_rfl)
  · exact fin [false, false, false, false, false, false, false, false, true, false, false, false] rfl (by kernel_rfl) (by kernel_rfl)
  · exact fin [false, false, false, false, false, false, false, false, false, true, false, false] rfl (by kernel_rfl) (by kernel_rfl)
  · exact fin [false, false, false, false, false, false, false, false, false, false, true, false] rfl (by kernel_rfl) (by kernel_rfl)
  · exact fin [false, false, false, false, false, false, false, false, false, false, false, true] rfl (by kernel_rfl) (by kernel_rfl)
end
end Av
namespace Av
open PySem PySem.Spec L2
open L2H hiding St
open PyProof.Rows hiding St
set_option autoImplicit false
/-- what _law_which's classes say -/
def kitAll (K : PySem.W.Frag) (C : Nat → Addr) (CP : Addr) (j : Nat) : Bool :=
  ((List.range 12).all fun i => PySem.W.kitOne K (.ref (C j)) (.ref (C i)) == some (Nat.beq i j)) && PySem.W.kitOne K (.ref (C j)) (.type "ValueError") == some true && PySem.W.exmOne K (.ref (C j)) (.ref CP) == some true
structure XJ (K : PySem.W.Frag) (C : Nat → Addr) (CP : Addr) (j : Nat) : Prop where
  lt : j < 12
  ex : ExcC K (C j)
  kit : kitAll K C CP j = true
theorem XJ.one {K : PySem.W.Frag} {C : Nat → Addr} {CP : Addr} {j : Nat} (h : XJ K C CP j) (i : Nat) (hi : i < 12) : PySem.W.kitOne K (.ref (C j)) (.ref (C i)) = some (whichB j i) := by
  have k := h.kit
  unfold kitAll at k
  rw [Bool.and_eq_true, Bool.and_eq_true, List.all_eq_true] at k
  have := eq_of_beq (k.1.1 i (List.mem_range.mpr hi))
  rw [this]
  unfold whichB
  have : Nat.beq i 12 = false := by
    cases e : Nat.beq i 12 with
    | false => rfl
    | true => have := Nat.eq_of_beq_eq_true e; omega
  rw [this]
  rfl
theorem XJ.ve {K : PySem.W.Frag} {C : Nat → Addr} {CP : Addr} {j : Nat} (h : XJ K C CP j) : PySem.W.kitOne K (.ref (C j)) (.type "ValueError") = some (whichB j 12) := by
  have k := h.kit
  unfold kitAll at k
  rw [Bool.and_eq_true, Bool.and_eq_true] at k
  exact eq_of_beq k.1.2
theorem XJ.exm {K : PySem.W.Frag} {C : Nat → Addr} {CP : Addr} {j : Nat} (h : XJ K C CP j) : PySem.W.exmOne K (.ref (C j)) (.ref CP) = some true := by
  have k := h.kit
  unfold kitAll at k
  rw [Bool.and_eq_true, Bool.and_eq_true] at k
  exact eq_of_beq k.2
/-- what the names say -/
structure WhN (mg : Str → Option Value) (C : Nat → Addr) : Prop where
  n0 : mg "InvalidPath" = some (.ref (C 0))
  n1 : mg "InvalidRow" = some (.ref (C 1))
  n2 : mg "InvalidNumber" = some (.ref (C 2))
  n3 : mg "InvalidTree" = some (.ref (C 3))
  n4 : mg "NotUp" = some (.ref (C 4))
  n5 : mg "NotHill" = some (.ref (C 5))
  n6 : mg "StaysUp" = some (.ref (C 6))
  n7 : mg "DifferentLength" = some (.ref (C 7))
  n8 : mg "GoesBelow" = some (.ref (C 8))
  n9 : mg "TooLong" = some (.ref (C 9))
  n10 : mg "NothingToUndo" = some (.ref (C 10))
  n11 : mg "ParseError" = some (.ref (C 11))
  isi : mg "isinstance" = none
  ve : mg "ValueError" = none
def Rw (p : Pm) (j : Nat) : Hp → VK → Prop := fun H Q => ∃ L g, Rel p L g H ∧ ∀ v L' H', Stp L H L' H' → Rel p L' g H' → Dq L'.S v (raisedD j) → Q v H'
/-- _law_which, called with an exception of the class j -/
structure WhichD (P : Program) (w : World) (K : PySem.W.Frag) (mg : Str → Option Value) (base : Heap) (p : Pm) (k : Nat) (CP : Addr) (js : List Nat) : Prop where
  np : mg "PathError" = some (.ref CP)
  ex : ∃ f fd, mg "_law_which" = some (.ref f) ∧ PySem.W.keepIn K (.ref f) = true ∧ Binds K fd ["e"] [] ∧ ∀ j ∈ js, PySem.W.exmOne K (.ref (p.cls j)) (.ref CP) = some true ∧ FnW P w K mg base k f fd "e" (Zc (.ref (p.cls j)) none) (Rw p j)
theorem ok_which {P : Program} {w : World} {K : PySem.W.Frag} {mg : Str → Option Value} {base : Heap} {p : Pm} {k : Nat} {CP : Addr} {js : List Nat} {st : Stmt} {N : List Str} (np : mg "PathError" = some (.ref CP)) (A : FAt K mg "_law_which" st) (S : FnScope N ["e"] (defScope st)) (J : ∀ j ∈ js, XJ K p.cls CP j)
    (hb : ∀ (j : Nat), XJ K p.cls CP j → ∀ (f : Addr) (cdv : Value) (A : Around) (outer : List Env) (s : Shared) (H : Hp) (q : Addr × Obj), Hot1 A q → RoomH k (A.deeper (envOfC "_law_which" (defScope st) s.heap.objs.size f cdv)) → Zc (.ref (p.cls j)) none q.2 →
      DSs ⟨cxH (L2N.CX P w) P w K mg base N "_law_which" (defScope st) f cdv A outer s H (fun _ _ _ => False) q, p, W0⟩ (defBody st) (m_which q.1 (whichB j))) (hN : N.length = 2) (hbd : ∀ f fd, Fun K "_law_which" "_law_which" st f fd → Binds K fd ["e"] []) : WhichD P w K mg base p (k + 1) CP js := by
  obtain ⟨f, fd, F, hm, hk⟩ := A
  refine ⟨np, f, fd, hm, hk, hbd f fd F, fun j hj => ⟨(J j hj).exm, ?_⟩⟩
  obtain ⟨oc, od, kV, doc, pm, an, cdv, ct, osl, rfl, lk, hcd⟩ := F.ex
  refine fn_ofW lk hcd S fun A outer s H Q q hot hr hz hR => ⟨_, hb j (J j hj) f cdv A outer s H q hot hr hz, ?_⟩
  obtain ⟨L, g, rel, hq⟩ := hR
  have hl : L2.start N [V.ref q.1] = [some (.ref q.1), none] := by
    unfold L2.start
    rw [hN]
    rfl
  rw [hl]
  have fr : FR p L H L g [.pin q.1, .dead] [some (.ref q.1), none] H := by
    refine ⟨rel, Stp.refl rel, rfl, fun i s o h1 h2 => ?_, fun i j ds es a hij h1 h2 h3 => ?_⟩
    · match i, h1, h2 with
      | 0, h1, h2 => cases h1; cases h2; exact rfl
      | 1, h1, h2 => cases h1; trivial
    · match i, h1 with
      | 0, h1 => cases h1
      | 1, h1 => cases h1
  refine ⟨L, H, L, g, _, fr, ?_⟩
  rw [which_ok q.1 j (J j hj).lt g]
  exact fun v L' H' st' rel' hv => hq v L' H' st' rel' hv
theorem WhichD.mono {P : Program} {w : World} {K : PySem.W.Frag} {mg : Str → Option Value} {base : Heap} {p : Pm} {j k : Nat} {CP : Addr} {js : List Nat} (h : WhichD P w K mg base p j CP js) (e : j ≤ k) : WhichD P w K mg base p k CP js := by
  obtain ⟨f, fd, h1, h2, h3, h4⟩ := h.ex
  exact ⟨h.np, f, fd, h1, h2, h3, fun i hi => ⟨(h4 i hi).1, ⟨fun A outer s H args Q q hr => (h4 i hi).2.run A outer s H args Q q (RoomH.mono hr e)⟩⟩⟩
def js12 : List Nat := [0, 1, 2, 3, 4, 5, 6, 7, 8, 9, 10, 11]
/-! ### try: .. except PathError as e: return _law_which(e) -/
def sTry (js : List Nat) (m : List Sl → Mo Fl) : List Sl → Mo Fl := fun Γ g => match m Γ g with
  | .ok r g' => .ok r g'
  | .exc j g' => if js.contains j = true then .ok (.ret (raisedD j)) g' else .bad
  | .bad => .bad
section
variable {c : Ct} {k : Nat}
theorem Ct.Ok.tr {pn : List (Addr × Obj)} {xe : Value → Shared → Prop} {W : WX} (ok : c.Ok k) (tk : L2N.Takes (c.X.tr pn xe) W) (po : PassesOwn (model c.X.prog c.X.w) c.X.A c.X.env xe) : Ct.Ok ⟨c.X.tr pn xe, c.p, W⟩ k :=
  ⟨ok.K, ok.rm, ok.cm, ok.nd, tk, po⟩
theorem ds_try (i : Nat) {body : List Stmt} {m : List Sl → Mo Fl} {js : List Nat} {CP : Addr} {n : Str} {np q1 q2 p1 p2 pos pos' : Pos} (ok : c.Ok k) (hw : WhichD c.X.prog c.X.w c.X.K c.X.mg c.X.base c.p k CP js)
    (hb : ∀ (W : WX) (pn : List (Addr × Obj)) (xe : Value → Shared → Prop), L2N.Takes (c.X.tr pn xe) W → PassesOwn (model c.X.prog c.X.w) c.X.A c.X.env xe → DSs ⟨c.X.tr pn xe, c.p, W⟩ body m)
    (hs : c.X.stack = c.X.env :: c.X.outer := by rfl) (hf : c.X.env.frame = some c.X.env.locals := by rfl) (hi : c.X.N[i]? = some n := by rfl) (hln : c.X.env.kindOf n = some .local := by rfl) (hv : Vis c.X.env.scope n := by first | exact Or.inl rfl | exact Or.inr (Or.inl rfl) | exact Or.inr (Or.inr rfl))
    (hgP : Gl c.X "PathError" := by rfl) (hgW : Gl c.X "_law_which" := by rfl) (hd : (n == ("__debug__" : Str)) = false := by decide) (hcd : (n == ("__classdict__" : Str)) = false := by decide) (hiN : Nat.blt i c.X.N.length = true := by rfl)
    (he : starEach [.Name n q2] c.X.env = (false, eval (.Name n q2) c.X.env) :: starEach [] c.X.env := by rfl) (hpl : (backTo p1 (starEach [] c.X.env)).any (·.1) = false := by rfl) :
    DS c (.Try body [.ExceptHandler (some (.Name "PathError" np)) (some n) [.Return (some (.Call (.Name "_law_which" q1) [.Name n q2] [] p1)) p2] pos'] [] [] pos) (sTry js m) := by
  obtain ⟨f, fd, hm, hk, hbd, hj⟩ := hw.ex
  have su : ∀ (a : Addr) (oe : Obj) (cls : Value) (d : Option Addr) (pn : List (Addr × Obj)), L2N.Zn cls d oe → (∃ vs, oe.data = .fields vs) →
      PSs (c.X.suite a ((a, oe) :: pn)) [.Return (some (.Call (.Name "_law_which" q1) [.Name n q2] [] p1)) p2] (fun D σ H => ∃ j, j ∈ js ∧ cls = .ref (c.p.cls j) ∧ d = none ∧ (∃ σ0 : St, σ = σ0.set i (some (.ref a))) ∧ Rw c.p j H D.rt) := fun a oe cls d pn hz hfs => by
    refine ⟨fun pins s σ H D I h => ?_⟩
    obtain ⟨j, hjm, rfl, rfl, ⟨σ0, hσ0⟩, hR⟩ := h
    have hσ : σ[i]? = some (some (.ref a)) := by
      have hl : σ.length = c.X.N.length := I.len
      rw [hσ0] at hl ⊢
      rw [List.length_set] at hl
      rw [List.getElem?_set_self (by rw [hl]; exact Nat.le_of_ble_eq_true hiN)]
    obtain ⟨vs, hvs⟩ := hfs
    have e := pe_callW (X := c.X) (a := a) (oe := oe) (pn := pn) (q1 := q1) (q2 := q2) (pos := p1) (hj j hjm).2 ok.rm hz.zc ⟨vs, hvs, hz.2.2 vs hvs⟩ hgW hm hk hbd hi hv hd hcd (by decide) he hpl
    exact (pss_one (ps_ret (pos := p2) e)).run pins s σ H D I ⟨hσ, hR⟩
  refine PS.imp (L2N.ps_try_as (i := i) (c := .ref CP) (Wout := c.W) (tb := fun W => tS c.p W m) hs hf ok.nd hi hln ⟨hgP, by decide, .inl hw.np⟩ ok.tk (fun W pn xe tk po => hb W pn xe tk po) su) fun D σ H q => ?_
  obtain ⟨L0, H0, L, g, Γ, fr, po⟩ := q
  refine ⟨L0, H0, L, g, Γ, fr, ?_⟩
  have po : PostS c.p c.W L0 H0 L D (match m Γ g with
    | .ok r g' => .ok r g'
    | .exc j g' => if js.contains j = true then .ok (.ret (raisedD j)) g' else .bad
    | .bad => .bad) := po
  cases em : m Γ g with
  | bad => rw [em] at po; exact po
  | ok r g' =>
    rw [em] at po
    cases r with
    | next Γ' => exact po
    | ret d => exact po
  | exc j g' =>
    rw [em] at po
    have po : PostS c.p c.W L0 H0 L D (if js.contains j = true then .ok (.ret (raisedD j)) g' else .bad) := po
    cases hc : js.contains j with
    | false => rw [hc] at po; exact po.elim
    | true =>
      rw [hc, if_pos rfl] at po
      intro L' σ' H' st' rel'
      have hjm : j ∈ js := by simpa using hc
      exact ⟨true, (hj j hjm).1, fun _ a ha => ⟨j, hjm, rfl, rfl, ⟨σ', rfl⟩, L', g', rel', fun v L2 H2 st2 rel2 hv2 => po v L2 H2 (st'.trans st2) rel2 hv2⟩, fun z => nomatch z⟩
end
end Av

/-! ### [f, g, ..][e](..) -/
namespace L2
open PySem PySem.Spec PyProof.Rows
theorem pe_callE {X : Cx} {W : WX} {k : Nat} {fe e : Expr} {es : List Expr} {tf : TE} {t : TA} {pos : Pos} {S : Addr → Sp → Prop} (hf : PE X fe tf)
    (A : ∀ f sp, S f sp → ∃ fd ps, FnOk X.prog X.w X.K X.mg X.base (L2N.CX X.prog X.w) k f fd ps sp ∧ PySem.W.keepIn X.K (.ref f) = true ∧ Binds X.K fd ps []) (hr : Room k X.A) (tk : L2N.Takes X W) (ha : PA X (e :: es) t)
    (ht : eval (.Call fe (e :: es) [] pos) X.env = (do callWith pos (← eval fe X.env) [] (backTo pos (starEach (e :: es) X.env)) (backToKw pos (keywordEach [] X.env))))
    (he : starEach (e :: es) X.env = (false, eval e X.env) :: starEach es X.env) (hpl : (backTo pos (starEach es X.env)).any (·.1) = false) :
    PE X (.Call fe (e :: es) [] pos) (fun σ H Q => tf σ H fun y H1 => ∃ f sp, y = .ref f ∧ S f sp ∧ t σ H1 fun vs H2 => sp vs H2 Q (WE W σ)) := by
  refine ⟨fun pins s σ H Q I h => Call_ (thn (hf.run pins s σ H _ I h) fun u s1 ⟨y, H1, I1, ry, f, sp, ey, hS, q⟩ => ?_) ht⟩
  subst ey
  cases ry
  obtain ⟨fd, ps, F, hk, hb⟩ := A f sp hS
  exact PySem.W.callWith_K (h₀ := X.base) I1.ok.mod.kin hk (thn (ha.run pos pins s1 σ H1 _ I1 q) fun us s2 ⟨vs, H2, I2, r, q2⟩ => ⟨I2.kIn, run_fnS (E := WE W) F hr hb (L2N.passAt tk σ) I2 r q2⟩) he hpl
end L2
namespace Av
open PySem PySem.Spec L2
open PyProof.Rows hiding St
set_option autoImplicit false
section
variable {c : Ct} {k : Nat}
/-- the names of defs -/
inductive NmL (c : Ct) (k : Nat) : List Expr → List (List Sl → Mo PD) → Prop
  | nil : NmL c k [] []
  | cons {x : Str} {pos : Pos} {F : List Sl → Mo PD} {es : List Expr} {Fs : List (List Sl → Mo PD)} : FnD c.X.prog c.X.w c.X.K c.X.mg c.X.base c.p k x F → Gl c.X x → (x == ("__debug__" : Str)) = false → starEach (.Name x pos :: es) c.X.env = (false, eval (.Name x pos) c.X.env) :: starEach es c.X.env →
      NmL c k es Fs → NmL c k (.Name x pos :: es) (F :: Fs)
def Fk (c : Ct) (k : Nat) (f : Addr) (F : List Sl → Mo PD) : Prop := ∃ fd ps, FnOk c.X.prog c.X.w c.X.K c.X.mg c.X.base (L2N.CX c.X.prog c.X.w) k f fd ps (spF c.p F) ∧ PySem.W.keepIn c.X.K (.ref f) = true ∧ Binds c.X.K fd ps []
theorem NmL.pa {es : List Expr} {Fs : List (List Sl → Mo PD)} (h : NmL c k es Fs) : ∃ fs : List Addr, PA c.X es (fun _ H Q => Q (fs.map V.ref) H) ∧ fs.length = Fs.length ∧ ∀ (i : Nat) F, Fs[i]? = some F → ∃ f, fs[i]? = some f ∧ Fk c k f F := by
  induction h with
  | nil => exact ⟨[], PA.imp pa_nil fun σ H Q q => q, rfl, fun i F z => by simp at z⟩
  | cons fn hg hd hs _ ih =>
    rename_i x pos F es Fs _
    obtain ⟨f, fd, ps, FO, hm, hk, hb⟩ := fn.ex
    obtain ⟨fs, h1, h2, h3⟩ := ih
    refine ⟨f :: fs, PA.imp (pa_cons (pe_glob (v := .ref f) hg hm rfl hd) h1 hs) fun σ H Q q => q, by simp [h2], fun i G z => ?_⟩
    cases i with
    | zero => simp at z; subst z; exact ⟨f, rfl, fd, ps, FO, hk, hb⟩
    | succ i => exact h3 i G (by simpa using z)
def pickF (Fs : List (List Sl → Mo PD)) : PD → Option (List Sl → Mo PD)
  | .int i => atI Fs i
  | _ => none
def eCallAt (Fs : List (List Sl → Mo PD)) (fe : List Sl → Mo PD) (fa : List Sl → Mo (List Sl)) : List Sl → Mo PD := fun Γ => bnd (fe Γ) fun d => bnd (lift (pickF Fs d)) fun F => bnd (fa Γ) F
theorem de_callAt {es : List Expr} {Fs : List (List Sl → Mo PD)} {e a : Expr} {as : List Expr} {fe : List Sl → Mo PD} {fa : List Sl → Mo (List Sl)} {p1 p2 pos : Pos} (ok : c.Ok k) (hn : NmL c k es Fs) (he : DE c e fe) (ha : DAs c (a :: as) fa) (hsz : small Fs.length = true := by rfl) (hix : PlainIx e := by exact fun _ _ => rfl)
    (ht : eval (.Call (.Subscript (.List es p1) e p2) (a :: as) [] pos) c.X.env = (do callWith pos (← eval (.Subscript (.List es p1) e p2) c.X.env) [] (backTo pos (starEach (a :: as) c.X.env)) (backToKw pos (keywordEach [] c.X.env))) := by rfl)
    (hst : starEach (a :: as) c.X.env = (false, eval a c.X.env) :: starEach as c.X.env := by rfl) (hpl : (backTo pos (starEach as c.X.env)).any (·.1) = false := by rfl) :
    DE c (.Call (.Subscript (.List es p1) e p2) (a :: as) [] pos) (eCallAt Fs fe fa) := by
  obtain ⟨fs, hpa, hlen, hfs⟩ := hn.pa
  refine PE.imp (pe_callE (S := fun f sp => ∃ F, sp = spF c.p F ∧ Fk c k f F) (pe_ix ix_list (pe_lst hpa) he hix) (fun f sp ⟨F, e, fd, ps, h⟩ => ⟨fd, ps, by rw [e]; exact h⟩) ok.rm ok.tk ha ht hst hpl) fun σ H Q q => ?_
  obtain ⟨L0, H0, L, g, Γ, fr, po⟩ := q
  have po := Post.bind po
  refine ⟨by rw [List.length_map, hlen]; exact small_le hsz, fun q hq => ?_⟩
  have fr1 := fr.alloc (o := .lst (fs.map V.ref)) hq
  have st0 : Stp L H L (upd H q (.lst (fs.map V.ref))) := (Stp.refl fr.rel).at hq
  have po1 := Post.step st0 po
  refine ⟨L0, H0, L, g, Γ, fr1, po1.mono fun d g1 L1 H1 st1 rel1 po2 v hv => ?_⟩
  obtain ⟨F, hF, po3⟩ := Post.lift (Post.bind po2) rel1
  have po4 := Post.bind (po3 L1 H1 (Stp.refl rel1) rel1)
  clear po2 po3
  cases hv with
  | int i =>
    have hF : atI Fs i = some F := hF
    unfold L2.atI at hF
    obtain ⟨j, hj, hF⟩ := Option.bind_eq_some_iff.mp hF
    obtain ⟨f, hf, hk⟩ := hfs j F hF
    obtain ⟨h1, _, _⟩ := st1.apart upd_same (fr.rel.sq hq) (fr.rel.mq hq)
    refine ⟨q, fs.map V.ref, i, .ref f, rfl, rfl, SqL.of h1, ?_, f, spF c.p F, rfl, ⟨F, rfl, hk⟩, ?_⟩
    · unfold L2.atI
      rw [List.length_map, hlen, hj]
      show (fs.map V.ref)[j]? = _
      rw [List.getElem?_map, hf]
      rfl
    · have fr2 := fr1.step st1 rel1
      refine ⟨L0, H0, L1, g1, Γ, fr2, po4.mono fun as g2 L2 H2 st2 rel2 po3 vs hvs => ⟨L2, g2, as, rel2, hvs, ?_⟩⟩
      cases e2 : F as g2 with
      | ok d g3 => rw [e2] at po3; exact po3
      | exc i g3 => rw [e2] at po3; exact po3
      | bad => rw [e2] at po3; exact po3
  | non => cases hF
  | bl _ => cases hF
  | str _ => cases hF
  | lst _ _ => cases hF
  | tup _ _ _ => cases hF
end
end Av

/-! ### enumerate(tuple) -/
namespace PySem
open Sem (wp)
open AutoSeq1 (wpAny_loadPart')
theorem av_enum_new (u : Addr) (vs : Array Value) (n : Nat) (dc : Option Addr) (sl : Array (Option Value)) :
    Meets (Builtin.«enumerate.__new__» ⟨[.type "enumerate", .ref u], []⟩) (fun _ R s => s.heap.get? u = some { cls := .type "tuple", dict := dc, data := .seq vs n, slots := sl } ∧
      R (.ok (.ret (.ref (s.heap.push { cls := .type "tuple_iterator", data := .fields #[.ref u, .int 0 0] }).objs.size)))
        { s with heap := (s.heap.push { cls := .type "tuple_iterator", data := .fields #[.ref u, .int 0 0] }).push { cls := .type "enumerate", data := .fields #[.none, .bool false, .ref s.heap.objs.size, rawInt 0, .none, .none] } }) :=
  .of_wp fun prog w A R s q => by
    obtain ⟨h0, gl, dd, tk, os⟩ := s
    obtain ⟨hu, q⟩ := q
    have hsub := sub_enumerate
    have hT : Heap.IsTuple (Shared.heap ⟨h0, gl, dd, tk, os⟩) u vs := ⟨_, hu, rfl, n, rfl⟩
    wp_walk using wpAny_loadPart' hu
    refine wpAny_stack_any fun stk => wpAny_pure ?_
    split
    · rename_i cc _ _ _ _ _
      cases (cc == Value.type "enumerate")
      · wp_walk using wpAny_loadPart' hu, wpAny_pyIter_tuple hT
        exact ⟨_, rfl, q⟩
      · wp_walk using wpAny_loadPart' hu, wpAny_pyIter_tuple hT
        exact ⟨_, rfl, q⟩
    · wp_walk using wpAny_loadPart' hu, wpAny_pyIter_tuple hT
      exact ⟨_, rfl, q⟩
section
variable {prog : Program} {w : World} {A : Around} {E : Value → Shared → Prop} {s : Shared}
theorem av_nextOf_item {z u : Addr} {i : Nat} {vs} {x : Value} {Q : Value → Shared → Prop} (hz : s.heap.IsTupleIter z u i) (hu : s.heap.IsTuple u vs) (hx : vs[i]? = some x)
    (q : ∀ h', h'.IsTupleIter z u (i + 1) → Heap.SameBut z s.heap h' → Q x { s with heap := h' }) : wpAny (model prog w) A (Builtin.SmallTypes.nextOf (.ref z)) Q E s := by
  obtain ⟨oz, gz, cz, dz⟩ := id hz
  obtain ⟨ou, gu, _, nu, du⟩ := hu
  unfold Builtin.SmallTypes.nextOf
  refine wpAny_bind (wpAny_callSpecial?_slot (name := Str.ofString "__next__") hz.typeIs F.slot_tuple_iterator_next (wpAny_call_entry F.slot_tuple_iterator_next hz.typeIs F.entry_tuple_iterator_next ?_ (F.args_tuple_iterator_next_1 _)))
  show wpAny _ _ (field (.ref z) 0 >>= _) _ _ s
  refine wpAny_bind (wpAny_field gz dz (x := .ref u) rfl ?_)
  show wpAny _ _ (if (Value.ref u == Value.none) = true then _ else _) _ _ s
  rw [if_neg (show ¬ ((Value.ref u == Value.none) = true) from Bool.false_ne_true)]
  show wpAny _ _ (field (.ref z) 1 >>= _) _ _ s
  refine wpAny_bind (wpAny_field gz dz (x := .int i 0) rfl ?_)
  show wpAny _ _ (seqItems? (.ref u) >>= _) _ _ s
  refine wpAny_bind (wpAny_seqItems gu du ?_)
  simp only [Int.toNat_natCast, hx]
  refine wpAny_bind (wpAny_setField gz dz (by simp) (wpAny_pure ⟨x, rfl, wpAny_pure (q _ ?_ (Heap.SameBut.update ..))⟩))
  exact ⟨_, Heap.get?_update_self _ gz (Obj.isFreed_of_fields (Obj.data_mapFields dz _)), (Obj.cls_mapFields ..).trans cz, by rw [Obj.data_mapFields dz]; simp [rawInt]⟩
theorem av_nextOf_end {z u : Addr} {i : Nat} {vs} {Q : Value → Shared → Prop} (hh : A.handled = none) (hz : s.heap.IsTupleIter z u i) (hu : s.heap.IsTuple u vs) (hx : vs[i]? = none)
    (q : ∀ h' e, Heap.ExtBut z s.heap h' → (∃ o, h'.get? e = some o ∧ o.cls = .type "StopIteration") → E (.ref e) { s with heap := h' }) : wpAny (model prog w) A (Builtin.SmallTypes.nextOf (.ref z)) Q E s := by
  obtain ⟨oz, gz, cz, dz⟩ := id hz
  obtain ⟨ou, gu, _, nu, du⟩ := hu
  unfold Builtin.SmallTypes.nextOf
  refine wpAny_bind (wpAny_callSpecial?_slot (name := Str.ofString "__next__") hz.typeIs F.slot_tuple_iterator_next (wpAny_call_entry F.slot_tuple_iterator_next hz.typeIs F.entry_tuple_iterator_next ?_ (F.args_tuple_iterator_next_1 _)))
  show wpAny _ _ (field (.ref z) 0 >>= _) _ _ s
  refine wpAny_bind (wpAny_field gz dz (x := .ref u) rfl ?_)
  show wpAny _ _ (if (Value.ref u == Value.none) = true then _ else _) _ _ s
  rw [if_neg (show ¬ ((Value.ref u == Value.none) = true) from Bool.false_ne_true)]
  show wpAny _ _ (field (.ref z) 1 >>= _) _ _ s
  refine wpAny_bind (wpAny_field gz dz (x := .int i 0) rfl ?_)
  show wpAny _ _ (seqItems? (.ref u) >>= _) _ _ s
  refine wpAny_bind (wpAny_seqItems gu du ?_)
  simp only [Int.toNat_natCast, hx]
  refine wpAny_bind (wpAny_rule (wpAny_bind (wpAny_setField gz dz (by simp) ?_))); show wpAny _ _ (newExc (.type "StopIteration") [] >>= _) _ _ _
  refine wpAny_bind ?_
  simp only [newExc, newTuple]
  refine wpAny_bind (wpAny_newObj_type ?_ (by size_fits)); refine wpAny_bind (m := firstArgMember _ _) (wpAny_of_eq (a := Value.none) (by first | rfl | (simp only [firstArgMember]; rfl)) ?_)
  refine wpAny_newObj_type ?_ (by size_fits)
  simp only [raiseNew]
  refine wpAny_bind (wpAny_handled ?_)
  rw [show A.in1.handled = none from hh]
  refine wpAny_bind (wpAny_pure (wpAny_throw ?_))
  exact q _ _ (((Heap.SameBut.update ..).extBut.push _).push _) ⟨_, Heap.get?_push_size _ rfl, rfl⟩
theorem av_enum_next {e z u : Addr} {i : Nat} {vs : Array Value} {x old : Value} {Q : Value → Shared → Prop}
    (he : IsEnum s.heap e z i old) (hz : s.heap.IsTupleIter z u i) (hu : s.heap.IsTuple u vs) (hx : vs[i]? = some x) (hne : e ≠ z)
    (q : ∀ h', IsEnumOut h' e z ((i : Int) + 1) x s.heap.objs.size → h'.IsTupleIter z u (i + 1) → h'.get? s.heap.objs.size = some { cls := .type "tuple", data := .seq #[.int i s.toks, x] } → h'.objs.size = s.heap.objs.size + 1 →
      (∀ b o, b ≠ e → b ≠ z → s.heap.get? b = some o → h'.get? b = some o) → Q (.ref s.heap.objs.size) { s with heap := h', toks := s.toks + 1 }) :
    wpAny (model prog w) A (Builtin.«enumerate.__next__» ⟨[.ref e], []⟩) (fun fin s' => ∃ v, fin = .done (.ret v) ∧ Q v s') E s := by
  obtain ⟨h0, gl, dd, tk, os⟩ := s
  show wpAny _ _ (field (.ref e) 2 >>= _) _ _ _
  refine wpAny_bind (wpAny_field he rfl (x := .ref z) rfl ?_)
  refine wpAny_bind (av_nextOf_item hz hu hx fun a1 z1 b1 => ?_)
  replace b1 : Heap.SameBut z h0 a1 := b1
  have e1 : IsEnum a1 e z i old := (b1.2 e hne).trans he
  show wpAny _ _ (field (.ref e) 3 >>= _) _ _ ⟨a1, gl, dd, tk, os⟩
  refine wpAny_bind (wpAny_field e1 rfl (x := rawInt i) rfl ?_)
  show wpAny _ _ (field (.ref e) 4 >>= _) _ _ ⟨a1, gl, dd, tk, os⟩
  refine wpAny_bind (wpAny_field e1 rfl (x := .none) rfl ?_)
  show wpAny _ _ (mkInt i >>= _) _ _ ⟨a1, gl, dd, tk, os⟩
  refine wpAny_bind (wpAny_mkInt ?_)
  show wpAny _ _ (setField (.ref e) 3 (rawInt ((i : Int) + 1)) >>= _) _ _ ⟨a1, gl, dd, tk + 1, os⟩
  refine wpAny_bind (wpAny_setField_rec e1 (by simp) fun a2 e2 b2 => ?_)
  replace b2 : Heap.SameBut e a1 a2 := b2
  replace e2 : IsEnum a2 e z ((i : Int) + 1) old := e2
  show wpAny _ _ (setField (.ref e) 4 .none >>= _) _ _ ⟨a2, gl, dd, tk + 1, os⟩
  refine wpAny_bind (wpAny_setField_rec e2 (by simp) fun a3 e3 b3 => ?_)
  replace b3 : Heap.SameBut e a2 a3 := b3
  replace e3 : IsEnum a3 e z ((i : Int) + 1) old := e3
  show wpAny _ _ (newTuple [.int i tk, x] >>= _) _ _ ⟨a3, gl, dd, tk + 1, os⟩
  refine wpAny_bind (wpAny_newTuple ?_)
  have e4 : IsEnum (a3.push { cls := .type "tuple", data := .seq #[.int i tk, x] }) e z ((i : Int) + 1) old := Heap.get?_push_of_some _ e3
  generalize ea4 : a3.push { cls := .type "tuple", data := .seq #[.int i tk, x] } = a4 at e4
  have sz : a3.objs.size = h0.objs.size := by rw [b3.1, b2.1, b1.1]
  have lt : e < h0.objs.size := Heap.lt_size he
  have t4 : a4.get? h0.objs.size = some { cls := .type "tuple", data := .seq #[.int i tk, x] } := by rw [← ea4, ← sz]; exact Heap.get?_push_size _ rfl
  have s4 : a4.objs.size = h0.objs.size + 1 := by rw [← ea4, Heap.size_push, sz]
  have k4 : ∀ b o, b ≠ e → b ≠ z → h0.get? b = some o → a4.get? b = some o := fun b o n1 n2 hb => by rw [← ea4]; exact Heap.get?_push_of_some _ (b3.extBut b o n1 (b2.extBut b o n1 (b1.extBut b o n2 hb)))
  have z4 : a4.IsTupleIter z u (i + 1) := by
    rw [← ea4]
    obtain ⟨o, ho, r⟩ := (z1.extBut b2.extBut (Ne.symm hne)).extBut b3.extBut (Ne.symm hne)
    exact ⟨o, Heap.get?_push_of_some _ ho, r⟩
  show wpAny _ _ (Builtin.SmallTypes.ownedTupleIsFree (.ref e) >>= _) _ _ ⟨a4, gl, dd, tk + 1, os⟩
  rw [sz]
  clear ea4 e3 b3 e2 b2 e1 b1 z1 sz a3 a2 a1
  refine wpAny_bind ?_
  · unfold Builtin.SmallTypes.ownedTupleIsFree
    refine wpAny_bind (wpAny_field e4 rfl (x := .none) rfl (wpAny_pure ?_))
    simp only [if_true]
    refine wpAny_bind (wpAny_rule ?_)
    refine wpAny_bind (wpAny_field e4 rfl (x := old) rfl ?_)
    refine wpAny_bind (wpAny_setField_rec e4 (by simp) fun a5 e5 b5 => ?_)
    replace b5 : Heap.SameBut e a4 a5 := b5
    replace e5 : IsEnum a5 e z ((i : Int) + 1) x := e5
    show wpAny _ _ (Builtin.SmallTypes.ownedTupleHandOut (.ref e) (.ref h0.objs.size) >>= _) _ _ ⟨a5, gl, dd, tk + 1, os⟩
    refine wpAny_bind ?_
    · unfold Builtin.SmallTypes.ownedTupleHandOut
      refine wpAny_bind (wpAny_setField_rec e5 (by simp) fun a6 e6 b6 => ?_)
      replace b6 : Heap.SameBut e a5 a6 := b6
      replace e6 : IsEnumOut a6 e z ((i : Int) + 1) x h0.objs.size := e6
      refine wpAny_setField_rec e6 (by simp) fun a7 e7 b7 => ?_
      replace b7 : Heap.SameBut e a6 a7 := b7
      replace e7 : IsEnumOut a7 e z ((i : Int) + 1) x h0.objs.size := e7
      refine wpAny_bind (wpAny_letGo (wpAny_pure ⟨_, rfl, q a7 e7 ?_ ?_ ?_ ?_⟩))
      · exact ((z4.extBut b5.extBut (Ne.symm hne)).extBut b6.extBut (Ne.symm hne)).extBut b7.extBut (Ne.symm hne)
      · exact b7.extBut _ _ (Nat.ne_of_gt lt) (b6.extBut _ _ (Nat.ne_of_gt lt) (b5.extBut _ _ (Nat.ne_of_gt lt) t4))
      · rw [b7.1, b6.1, b5.1, s4]
      · exact fun b o n1 n2 hb => b7.extBut b o n1 (b6.extBut b o n1 (b5.extBut b o n1 (k4 b o n1 n2 hb)))
theorem av_pyNext_enum {e z u : Addr} {i : Nat} {vs : Array Value} {x old : Value} {Q : Option Value → Shared → Prop}
    (he : IsEnum s.heap e z i old) (hz : s.heap.IsTupleIter z u i) (hu : s.heap.IsTuple u vs) (hx : vs[i]? = some x) (hne : e ≠ z)
    (q : ∀ h', IsEnumOut h' e z ((i : Int) + 1) x s.heap.objs.size → h'.IsTupleIter z u (i + 1) → h'.get? s.heap.objs.size = some { cls := .type "tuple", data := .seq #[.int i s.toks, x] } → h'.objs.size = s.heap.objs.size + 1 →
      (∀ b o, b ≠ e → b ≠ z → s.heap.get? b = some o → h'.get? b = some o) → Q (some (.ref s.heap.objs.size)) { s with heap := h', toks := s.toks + 1 }) :
    wpAny (model prog w) A (pyNext (.ref e)) Q E s := by
  have ty : s.TypeIs (.ref e) "enumerate" := ⟨_, he, rfl⟩
  unfold pyNext
  exact wpAny_bind (wpAny_attempt (wpAny_callSpecial?_slot (name := Str.ofString "__next__") ty F.slot_enumerate_next (wpAny_call_entry F.slot_enumerate_next ty F.entry_enumerate_next
      (av_enum_next he hz hu hx hne fun h' r1 r2 r3 r4 r5 => wpAny_pure (q h' r1 r2 r3 r4 r5)) (F.args_enumerate_next_1 _))))
theorem av_pyNext_enumEnd {e z u : Addr} {i : Nat} {vs : Array Value} {old : Value} {Q : Option Value → Shared → Prop} (hh : A.handled = none)
    (he : IsEnum s.heap e z i old) (hz : s.heap.IsTupleIter z u i) (hu : s.heap.IsTuple u vs) (hx : vs[i]? = none)
    (q : ∀ h', Heap.ExtBut z s.heap h' → Q none { s with heap := h' }) : wpAny (model prog w) A (pyNext (.ref e)) Q E s := by
  have ty : s.TypeIs (.ref e) "enumerate" := ⟨_, he, rfl⟩
  unfold pyNext
  refine wpAny_bind (wpAny_attempt (wpAny_callSpecial?_slot (name := Str.ofString "__next__") ty F.slot_enumerate_next (wpAny_call_entry F.slot_enumerate_next ty F.entry_enumerate_next ?_ (F.args_enumerate_next_1 _))))
  show wpAny _ _ (field (.ref e) 2 >>= _) _ _ _
  refine wpAny_bind (wpAny_field he rfl (x := .ref z) rfl ?_)
  refine wpAny_bind (av_nextOf_end hh hz hu hx fun h' y eh hy => ?_)
  obtain ⟨o, ho, hc⟩ := hy
  refine wpAny_bind (wpAny_isInstance (T := "StopIteration") (b := true) ⟨o, ho, hc⟩ isSubtype_stop ?_)
  exact wpAny_pure (q _ eh)
theorem av_call_enum {u : Addr} {vs : Array Value} {Q : Value → Shared → Prop} (hT : s.heap.IsTuple u vs)
    (q : ∀ h', IsEnum h' (s.heap.objs.size + 1) s.heap.objs.size 0 .none → h'.IsTupleIter s.heap.objs.size u 0 → h'.objs.size = s.heap.objs.size + 2 → (∀ b o, s.heap.get? b = some o → h'.get? b = some o) → Q (.ref (s.heap.objs.size + 1)) { s with heap := h' }) :
    wpAny (model prog w) A (call (.type "enumerate") [.ref u]) Q E s := by
  obtain ⟨⟨cl, dc, dt, sl⟩, hu, hc, n, hd⟩ := hT
  replace hc : cl = .type "tuple" := hc
  replace hd : dt = .seq vs n := hd
  subst hc hd
  refine callType_new F.called_enumerate (by decide) (F.typeCall_enumerate_1 _) (F.newCall_enumerate_1 _) (fun obj => F.args_object_init_2 obj _) F.entry_enumerate_new (av_enum_new u vs n dc sl) ⟨hu, ?_⟩
  have hz : (s.heap.push { cls := .type "tuple_iterator", data := .fields #[.ref u, .int 0 0] }).objs.size = s.heap.objs.size + 1 := Heap.size_push ..
  show _ ∧ _
  rw [hz]
  have he : IsEnum ((s.heap.push { cls := .type "tuple_iterator", data := .fields #[.ref u, .int 0 0] }).push { cls := .type "enumerate", data := .fields #[.none, .bool false, .ref s.heap.objs.size, rawInt 0, .none, .none] }) (s.heap.objs.size + 1) s.heap.objs.size 0 .none := by
    have := Heap.get?_push_size (s.heap.push { cls := .type "tuple_iterator", data := .fields #[.ref u, .int 0 0] }) (o := { cls := .type "enumerate", data := .fields #[.none, .bool false, .ref s.heap.objs.size, rawInt 0, .none, .none] }) rfl
    rw [hz] at this
    exact this
  refine ⟨⟨_, he, rfl⟩, q _ he ⟨_, Heap.get?_push_of_some _ (Heap.get?_push_size _ rfl), rfl, rfl⟩ (by rw [Heap.size_push, hz]) fun b o y => Heap.get?_push_of_some _ (Heap.get?_push_of_some _ y)⟩
end
end PySem
namespace L2
open PySem PySem.Spec PyProof.Rows HT
def ItT (K : PySem.W.Frag) (a : Addr) : It :=
  ⟨fun i H => ∃ (xs : List V) (x : V), SqT K H a xs ∧ xs[i]? = some x, fun i H v H' => ∃ T x, v = .ref T ∧ H T = none ∧ H' = upd H T (.tup [.int (i : Nat), x]) ∧ ∀ xs, SqT K H a xs → xs[i]? = some x, fun i H => ∃ xs : List V, SqT K H a xs ∧ xs.length ≤ i⟩
theorem av_turn_enum {P : Program} {w : World} {K : PySem.W.Frag} {elts : List Expr} {kk : Nat} {tpos : Pos} (a e z : Addr) :
    Turn P w K (.Tuple elts kk tpos) (ItT K a) [e, z] e (fun i h => (∃ old, IsEnum h e z ((i : Nat) : Int) old) ∧ h.IsTupleIter z a i ∧ e ≠ z) where
  mem := by simp
  obj := fun i h st b hb => by
    obtain ⟨⟨old, he⟩, ⟨o, ho, hc, hd⟩, _⟩ := st
    have eb : b = e ∨ b = z := by simpa using hb
    rcases eb with rfl | rfl
    · exact ⟨_, he, fun v q => nomatch q⟩
    · exact ⟨o, ho, fun v q => by rw [hd] at q; cases q⟩
  keep := fun i h h' st k => let ⟨⟨old, he⟩, hi, hne⟩ := st; ⟨⟨old, k e (by simp) _ he⟩, hi.at fun o q => k z (by simp) o q, hne⟩
  item := by
    intro X hP hw hK hc i pins s σ H E I hf st hg
    subst hP hw hK
    obtain ⟨⟨old, he⟩, hz, hne⟩ := st
    obtain ⟨xs, x, hq, hx⟩ := hg
    obtain ⟨its, rv, p, hs⟩ := I.tuple hq
    obtain ⟨u, hu, ru⟩ := rv.get hx
    have l1 : e < s.heap.objs.size := Heap.lt_size he
    have l2 : z < s.heap.objs.size := by obtain ⟨_, q, _⟩ := hz; exact Heap.lt_size q
    refine av_pyNext_enum he hz p (x := u) (by simpa using hu) hne fun h' ho hit' hT hsz hk => ?_
    refine ⟨_, rfl, wpAny_letOwnedTupleGo_enum (s := { s with heap := h', toks := s.toks + 1 }) ho fun h2 he2 sb => ?_⟩
    have hT2 : h2.get? s.heap.objs.size = some { cls := .type "tuple", data := .seq #[.int i s.toks, u] } := (sb.2 _ (Nat.ne_of_gt l1)).trans hT
    have nw : ObjOk X.prog X.w (upd H s.heap.objs.size (.tup [.int (i : Nat), x])) h2 s.heap.objs.size (.tup [.int (i : Nat), x]) := ⟨by show 2 ≤ sizeLine; decide, [.int i s.toks, u], .cons ⟨_, rfl⟩ (.cons ru .nil), ⟨_, hT2, rfl, _, rfl⟩⟩
    have I1 : Inv X pins σ (upd H s.heap.objs.size (.tup [.int (i : Nat), x])) { s with heap := h2, toks := s.toks + 1 } :=
      I.turnedNew (ch := [e, z]) (fun b ob hb q => (sb.2 b (fun y => hb (by simp [y]))).trans (hk b ob (fun y => hb (by simp [y])) (fun y => hb (by simp [y])) q)) hf (Nat.le_refl _) nw
    refine ⟨.ref s.heap.objs.size, _, I1, rfl, ⟨_, x, rfl, I.hok.fresh (Nat.le_refl _), rfl, fun ys hy => ?_⟩, ⟨⟨u, ?_⟩, hit'.at fun o q => (sb.2 z (Ne.symm hne)).trans q, hne⟩, fun b hb => ?_⟩
    · rw [I.tuple_inj hy hq]; exact hx
    · have e1 : ((i + 1 : Nat) : Int) = (i : Int) + 1 := by omega
      rw [e1]
      exact he2
    · have hb' : b < s.heap.objs.size := by
        have eb : b = e ∨ b = z := by simpa using hb
        rcases eb with rfl | rfl
        · exact l1
        · exact l2
      rw [upd_ne (Nat.ne_of_lt hb')]
      exact (hf b hb).1
  done := by
    intro X hP hw hK hc i pins s σ H E I hf st hg
    subst hP hw hK
    obtain ⟨⟨old, he⟩, hz, hne⟩ := st
    obtain ⟨xs, hq, hx⟩ := hg
    obtain ⟨its, rv, p, hs⟩ := I.tuple hq
    obtain ⟨f0, f1, f2, f3, f4, f5⟩ := hf z (by simp)
    have hl := rv.length
    exact av_pyNext_enumEnd (I.ok.hd hc) he hz p (by simp; omega) fun h' eb => ⟨rfl, I.turned (t' := s.toks) (fun b o hb q => eb b o hb q) f0 f1 f3 f4 f5⟩
  self := fun A i s Q E st h => let ⟨⟨_, he⟩, _⟩ := st; wpAny_pyIter_enum he h
def iEnumT (K : PySem.W.Frag) (ta : TA) : TI := fun σ H R => ta σ H fun vs H1 => ∃ a xs, vs = [.ref a] ∧ SqT K H1 a xs ∧ R (ItT K a) H1
theorem pi_enumT {X : Cx} {e : Expr} {ta : TA} {p pos tpos : Pos} {elts : List Expr} {kk : Nat} (hg : Gl X "enumerate") (hm : X.mg "enumerate" = none) (ha : PA X [e] ta) (hs : starEach [e] X.env = [(false, eval e X.env)] := by rfl) :
    PI X (.Tuple elts kk tpos) (.Call (.Name "enumerate" p) [e] [] pos) (iEnumT X.K ta) := by
  refine ⟨fun pins s σ H R I h => Call_ (ld_blt I hg hm boot_enumerate (PyProof.Rows.callWith_type1 (thn (ha.run pos pins s σ H _ I h) fun us s1 ⟨vs, H1, I1, r1, q1⟩ => ?_) hs rfl))⟩
  obtain ⟨a, xs, ex, hq, q⟩ := q1
  subst ex
  cases r1 with
  | cons r rr =>
    cases rr
    cases r
    obtain ⟨its, rv, p2, hz⟩ := I1.tuple hq
    refine av_call_enum p2 fun h' he hit hsz hk => wpAny_pyIter_enum he ?_
    have I2 : Inv X pins σ H1 { s1 with heap := h' } := I1.kept (t' := s1.toks) hk
    refine ⟨s1.heap.objs.size + 1, [s1.heap.objs.size + 1, s1.heap.objs.size], _, _, H1, rfl, I2, av_turn_enum a (s1.heap.objs.size + 1) s1.heap.objs.size, ⟨⟨.none, he⟩, hit, Nat.succ_ne_self _⟩, fun b hb => ?_, q⟩
    have eb : b = s1.heap.objs.size + 1 ∨ b = s1.heap.objs.size := by simpa using hb
    have hle : s1.heap.objs.size ≤ b := by rcases eb with rfl | rfl <;> omega
    exact I1.fpOk hle (I1.hok.fresh hle)
end L2
namespace Av
open PySem PySem.Spec L2
open PyProof.Rows hiding St
set_option autoImplicit false
theorem enumL_len : ∀ (xs : List PD) (i : Nat), (enumL i xs).length = xs.length
  | [], _ => rfl
  | x :: xs, i => by show (enumL (i + 1) xs).length + 1 = _; rw [enumL_len xs]; rfl
theorem enumL_get : ∀ (xs : List PD) (j i : Nat) (d : PD), (enumL j xs)[i]? = some d → ∃ x, xs[i]? = some x ∧ d = .tuple [.int ((j + i : Nat)), x]
  | [], j, i, d, h => by simp [enumL] at h
  | x :: xs, j, 0, d, h => by simp [enumL] at h; exact ⟨x, rfl, h.symm⟩
  | x :: xs, j, i + 1, d, h => by
    obtain ⟨y, h1, h2⟩ := enumL_get xs (j + 1) i d (by simpa [enumL] using h)
    refine ⟨y, by simpa using h1, ?_⟩
    rw [h2, show j + 1 + i = j + (i + 1) by omega]
theorem walkD_enumT {p : Pm} {K : PySem.W.Frag} {S : Hp} {a : Addr} {xs : List V} {ds : List PD} {o : Obj} (hS : S a = some (.frz o (.tup xs))) (hA : DqA S xs ds) : WalkD p true S (ItT K a) (enumL 0 ds) where
  go := fun i L g H h ss rel => by
    rw [enumL_len] at h
    have l1 : i < xs.length := by rw [hA.len]; exact h
    exact ⟨xs, xs[i], SqTF (rel.s _ _ (ss _ _ hS)), List.getElem?_eq_getElem l1⟩
  stop := fun L g H ss rel => ⟨xs, SqTF (rel.s _ _ (ss _ _ hS)), by rw [enumL_len, hA.len]; exact Nat.le_refl _⟩
  yld := fun i d L g H x H' hd ss rel y => by
    obtain ⟨T, u, rfl, hT, rfl, e1⟩ := y
    obtain ⟨dx, h1, rfl⟩ := enumL_get _ _ _ _ hd
    obtain ⟨v1, hv1, q1⟩ := hA.get h1
    have e1 := e1 xs (SqTF (rel.s _ _ (ss _ _ hS)))
    rw [hv1] at e1
    cases e1
    rw [Nat.zero_add]
    have up := same_new (o := .tup [.int (i : Nat), u]) (rel.sq hT)
    exact ⟨_, Stp.new rel hT, rel.new hT, .inr ⟨rfl, T, _, u, _, dx, rfl, rfl, upd_same, .int _, (q1.mono ss).mono up⟩⟩
def enumT : List PD → Option (List PD)
  | [.tuple a] => some (enumL 0 a)
  | _ => none
theorem di_enumerate {c : Ct} {k : Nat} {a : Expr} {f : List Sl → Mo (List PD)} {p pos tpos : Pos} {elts : List Expr} {kk : Nat} (ok : c.Ok k) (hm : c.X.mg "enumerate" = none) (ha : DA c [a] f) (hg : Gl c.X "enumerate" := by rfl)
    (hs : starEach [a] c.X.env = [(false, eval a c.X.env)] := by rfl) : DI c (.Tuple elts kk tpos) (.Call (.Name "enumerate" p) [a] [] pos) (iVia enumT f) :=
  PI.imp (pi_enumT hg hm ha hs) fun σ H R q => by
    obtain ⟨L0, H0, L, g, Γ, fr, po⟩ := q
    have po := Post.bind po
    refine ⟨L0, H0, L, g, Γ, fr, po.mono fun ds g1 L1 H1 st1 rel1 po1 vs hvs => ?_⟩
    obtain ⟨z, hz, po1⟩ := po1.lift rel1
    have po1 := po1 L1 H1 (Stp.refl rel1) rel1
    match ds, hz with
    | [.tuple xs], hz =>
      cases hz
      cases hvs with
      | cons h r =>
        cases r
        cases h with
        | tup hS hA hN => exact ⟨_, _, rfl, SqTF (rel1.s _ _ hS), po1 _ (walkD_enumT hS hA)⟩
end Av

/-! ### sorted: ints, tuples of ints; lists and tuples -/
namespace SrtO
open PySem PyProof.Rows Srt
section
variable {prog : Program} {w : World} {A : Around} {E : Value → Shared → Prop} {s : Shared} {Q : Bool → Shared → Prop}
theorem av_lex {b : Bool} {fin : Bool} {us ws : List Value} {ns ms : List Int} (i : Nat) (hu : IntsAre us ns) (hw : IntsAre ws ms) (hf : fin = decide (ns.length < ms.length)) (h : Q (HT.lexLt ns ms) s) :
    PySem.W.KatLex prog w A b fin Q (us.zip ws) i s := by
  induction hu generalizing ws ms i with
  | nil =>
    cases hw with
    | nil =>
      rw [HT.lexLt_nil_nil] at h
      rw [hf]
      exact PySem.W.kat_nil h
    | cons c k hw =>
      rw [HT.lexLt_nil_cons] at h
      rw [hf]
      exact PySem.W.kat_nil h
  | @cons a t us ns hu ih =>
    cases hw with
    | nil =>
      rw [HT.lexLt_cons_nil] at h
      rw [hf]
      exact PySem.W.kat_nil h
    | @cons c k ws ms hw =>
      have hf' : fin = decide (ns.length < ms.length) := by
        rw [hf]
        exact decide_eq_decide.mpr (by simp)
      show PySem.W.KatLex prog w A b fin Q ((Value.int a t, Value.int c k) :: us.zip ws) i s
      rw [HT.lexLt_cons] at h
      refine PySem.W.kat_cons (wpAny_eqBool_int ?_)
      by_cases e : a = c
      · rw [if_pos e] at h
        rw [show (a == c) = true by rw [e]; exact beq_self_eq_true c]
        exact PySem.W.kat_yes (ih (i + 1) hw hf' h)
      · rw [if_neg e] at h
        rw [beq_eq_false_iff_ne.mpr e]
        exact PySem.W.kat_no (TS.oneLt_ints _ h)
theorem av_firsts {h : Heap} {k : Value → List Int} : ∀ vs : List Value, (∀ v ∈ vs, TS.TupInts h v (k v) ∧ k v ≠ []) → ∃ fs, PySem.W.KatTups h vs fs ∧ fs.length = vs.length ∧ ∀ f ∈ fs, ∃ n t, f = Value.int n t
  | [], _ => ⟨[], PySem.W.KatTups.nil, rfl, fun f hf => nomatch hf⟩
  | v :: vs, x => by
    obtain ⟨fs, kt, hl, hi⟩ := av_firsts vs fun u hu => x u (List.mem_cons_of_mem _ hu)
    obtain ⟨⟨a, xs, rfl, ⟨o, ho, hc, n, hd⟩, i⟩, hne⟩ := x v List.mem_cons_self
    generalize k (Value.ref a) = kk at i hne
    obtain ⟨xl⟩ := xs
    cases i with
    | nil => exact absurd rfl hne
    | cons m t r =>
      refine ⟨.int m t :: fs, PySem.W.KatTups.cons ho hc hd rfl kt, by simp [hl], fun f hf => ?_⟩
      rcases List.mem_cons.mp hf with rfl | hf
      · exact ⟨m, t, rfl⟩
      · exact hi f hf
theorem av_tups {a : Addr} {vs : List Value} {k : Value → List Int} (h2 : 2 ≤ vs.length) (hp : ∀ v ∈ vs, TS.TupInts s.heap v (k v) ∧ k v ≠ []) (ha : ∀ o, s.heap.get? a = some o → o.cls ≠ .type "tuple") : SortableO prog w A s a vs fun v u => HT.lexLt (k v) (k u) := by
  intro h' keep
  have hp' : ∀ v ∈ vs, TS.TupInts h' v (k v) ∧ k v ≠ [] := fun v hm => ⟨(hp v hm).1.keeps fun b o e c => keep b o (fun z => by subst z; exact ha o e c) e, (hp v hm).2⟩
  obtain ⟨fs, h1, h3, h4⟩ := av_firsts vs hp'
  refine ⟨tuples' true, fun Q E hq => ?_, fun p q hm hm' => ?_⟩
  · refine PySem.W.kat_kind (T := .type "int") h1 (by omega) (fun f hm => ?_) (by rfl) ?_
    · obtain ⟨x, t, rfl⟩ := h4 f hm
      exact PySem.W.Looks.now
    · rw [show (Value.type "int" != Value.type "tuple") = true by decide +kernel]
      exact hq
  · obtain ⟨⟨a1, xs, e1, ⟨o1, g1, c1, n1, d1⟩, i1⟩, _⟩ := hp' _ hm
    obtain ⟨⟨a2, ys, e2, ⟨o2, g2, c2, n2, d2⟩, i2⟩, _⟩ := hp' _ hm'
    show wpAny (model prog w) A (keyLt' (tuples' true) p.1 q.1) (fun r s' => s' = { s with heap := h' } ∧ r = HT.lexLt (k p.1) (k q.1)) (fun _ _ => False) _
    rw [e1] at i1 ⊢
    rw [e2] at i2 ⊢
    refine PySem.W.kat_lt g1 d1 g2 d2 (av_lex 0 i1 i2 ?_ ⟨rfl, rfl⟩)
    rw [← i1.length, ← i2.length, Array.length_toList, Array.length_toList]
theorem av_collectT {l : Addr} {vs : List Value} {Q : List Value → Shared → Prop} (hl : s.heap.IsTuple l vs.toArray) (q : Q vs { s with heap := (s.heap.push (seqObj "list" #[] 0)).update s.heap.objs.size (Obj.mapSeq (· ++ vs.toArray)) }) (hsz : vs.length ≤ sizeLine) :
    wpAny (model prog w) A (collect (.ref l)) Q E s := by
  obtain ⟨ob, g0, c0, n0, d0⟩ := id hl
  unfold collect
  refine wpAny_bind (wpAny_runValue (codeAny_builtin entry_proto_collect' ?_))
  show wpAny _ _ (do again (.builtin "list.__iadd__" ⟨[← newList [], .ref l], []⟩)) _ _ s
  refine wpAny_bind (wpAny_newList (wpAny_pure ⟨Code.quiet_builtin _ (by decide +kernel), codeAny_builtin entry_list_iadd' ?_⟩)); show wpAny _ _ (Builtin.List.listExtendWith (.ref s.heap.objs.size) (.ref l) (.ref s.heap.objs.size)) _ _ { s with heap := s.heap.push (seqObj "list" #[] 0) }
  unfold Builtin.List.listExtendWith
  have g1 : (s.heap.push (seqObj "list" #[] 0)).get? l = some ob := Heap.get?_push_of_some _ g0
  refine wpAny_bind (wpAny_typeOf (T := "tuple") ⟨ob, g1, c0⟩ ?_)
  rw [if_pos (by rw [show (Value.type "tuple" == Value.type "tuple") = true by rfl, Bool.or_true])]
  refine wpAny_bind (listItems_at g1 d0 ?_)
  refine wpAny_bind (listItems_at (n := 0) (xs := #[]) (Heap.get?_push_size _ rfl) rfl ?_)
  rw [if_neg (by simp)]
  refine wpAny_bind (listUpdate_at (n := 0) (xs := #[]) (Heap.get?_push_size _ rfl) rfl ?_ (Nat.zero_le _) (by show (#[] ++ vs.toArray).size ≤ sizeLine + 1; simp only [Array.size_append, List.size_toArray, List.length_nil]; omega))
  refine wpAny_pure ?_
  show wpAny (model prog w) A (do let o ← load s.heap.objs.size; match o.data with | .seq xs _ => pure xs.toList | _ => unsupported "internal:collect") Q E { s with heap := (s.heap.push (seqObj "list" #[] 0)).update s.heap.objs.size (Obj.mapSeq (· ++ vs.toArray)) }
  refine wpAny_bind (wpAny_load (get?_update_seq (Heap.get?_push_size _ rfl) _) ?_)
  show wpAny _ _ (pure ((#[] : Array Value) ++ vs.toArray).toList) Q E _
  rw [show ((#[] : Array Value) ++ vs.toArray).toList = vs by simp]
  exact wpAny_pure q
theorem av_sortedT {l : Addr} {vs : List Value} {ltv : Value → Value → Bool} {Q : Value → Shared → Prop} (O : Swo ltv) (hl : s.heap.IsTuple l vs.toArray) (hz : vs.length ≤ sizeLine)
    (hS : 2 ≤ vs.length → ∀ (h₁ : Heap) (a : Addr), h₁.get? a = some (seqObj "list" vs.toArray 0) → (∀ b o, s.heap.get? b = some o → b ≠ a ∧ h₁.get? b = some o) → SortableO prog w A.in1.in1 { s with heap := h₁ } a vs ltv)
    (q : ∀ out : List Value, Srtd ltv out → Stb ltv out vs → Q (.ref (s.heap.objs.size + 1)) { s with heap := sortedAll s.heap vs out.toArray }) : wpAny (model prog w) A (call (.builtin "sorted") [.ref l]) Q E s := by
  refine Calls.call_function_entry kind_sorted plain_sorted entry_sorted (args_sorted1 _) ?_
  unfold Builtin.«sorted»
  refine wpAny_bind (m := checkCount "sorted" 1 1 _) (wpAny_pure (wpAny_bind (av_collectT hl ?_ hz)))
  refine wpAny_bind (wpAny_newList ?_ hz)
  have e1 : ((s.heap.push (seqObj "list" #[] 0)).update s.heap.objs.size (Obj.mapSeq (· ++ vs.toArray))).objs.size = s.heap.objs.size + 1 := by rw [Heap.size_update, size_push']
  have e2 : (((s.heap.push (seqObj "list" #[] 0)).update s.heap.objs.size (Obj.mapSeq (· ++ vs.toArray))).push (seqObj "list" vs.toArray 0)).get? (s.heap.objs.size + 1) = some (seqObj "list" vs.toArray 0) := by rw [← e1]; exact Heap.get?_push_size _ rfl
  have e3 : ∀ b o, s.heap.get? b = some o → b ≠ s.heap.objs.size + 1 ∧ (((s.heap.push (seqObj "list" #[] 0)).update s.heap.objs.size (Obj.mapSeq (· ++ vs.toArray))).push (seqObj "list" vs.toArray 0)).get? b = some o := fun b o y => by
    have lt : b < s.heap.objs.size := Heap.lt_size y
    refine ⟨Nat.ne_of_lt (Nat.lt_succ_of_lt lt), Heap.get?_push_of_some _ ?_⟩
    rw [Heap.get?_update_ne _ _ _ _ (Nat.ne_of_lt lt)]
    exact Heap.get?_push_of_some _ y
  show wpAny _ _ _ _ _ { s with heap := ((s.heap.push (seqObj "list" #[] 0)).update s.heap.objs.size (Obj.mapSeq (· ++ vs.toArray))).push (seqObj "list" vs.toArray 0) }
  rw [e1]
  refine wpAny_bind (wpAny_holding (wpAny_call_entry slot_list_sort ⟨_, e2, rfl⟩ entry_list_sort (list_sort_ord O e2 hz (fun h2 => hS h2 _ _ e2 e3) fun out y1 y2 => ⟨_, rfl, wpAny_pure ⟨_, rfl, q out y1 y2⟩⟩) (args_list_sort _)))
end
end SrtO
namespace L2
open PySem PySem.Spec PyProof.Rows
section
variable {X : Cx}
/-- sorted(t), t a tuple of ints -/
def rSortedIT (K : PySem.W.Frag) : List V → Hp → VK → Prop := fun vs H Q => ∃ (a : Addr) (ns : List Int), vs = [V.ref a] ∧ SqT K H a (ns.map V.int) ∧ ∀ (ms : List Int) (p : Addr), ms.Perm ns → ms.Pairwise (· ≤ ·) → H p = none → Q (.ref p) (upd H p (.lst (ms.map V.int)))
theorem cr_sortedIT : CallR X (.builtin "sorted") (rSortedIT X.K) := by
  intro pins s σ H vs us Q I r h
  obtain ⟨a, ns, rfl, hs, q⟩ := h
  obtain ⟨its, rv, ⟨ob, g0, c0, n0, d0⟩, hz⟩ := I.tuple hs
  rw [Vals.ref1 r]
  have hi := rv.ints
  refine SrtO.av_sortedT SrtO.swo_int ⟨ob, g0, c0, n0, d0⟩ (by rw [← rv.length]; exact hz) (fun h2 h₁ a' _ _ => SrtO.ints_sortable hi h2) fun out y1 y2 => ?_
  obtain ⟨k1, k2, k3⟩ := SrtO.ints_out hi y1 y2
  obtain ⟨ep, he'⟩ := PyProof.Rows.sortedAll_at s.heap its out.toArray
  have hl : ((out.map SrtO.iv).map V.int).length ≤ sizeLine := by
    rw [List.length_map, k2.length_eq]
    simpa using hz
  exact ⟨.ref _, upd H (s.heap.objs.size + 1) (.lst ((out.map SrtO.iv).map V.int)), I.laid (t' := s.toks) (fun _ _ => PyProof.Rows.sortedAll_old) (Nat.le_succ _) ⟨hl, out, ep, vals_of_ints k1, he'⟩, rfl, q _ _ k2 k3 (I.hok.fresh (Nat.le_succ _))⟩
/-- sorted(xs), xs a list of tuples of ints, none of them empty -/
def rSortedTI (K : PySem.W.Frag) : List V → Hp → VK → Prop := fun vs H Q => ∃ (a : Addr) (xs : List V) (k : V → List Int), vs = [V.ref a] ∧ SqL K H a xs ∧ (∀ x ∈ xs, k x ≠ [] ∧ ∃ t, x = V.ref t ∧ SqT K H t ((k x).map V.int)) ∧
  ∀ ys p, SrtO.Srtd (fun x y => HT.lexLt (k x) (k y)) ys → ys.Perm xs → H p = none → Q (.ref p) (upd H p (.lst ys))
theorem cr_sortedTI : CallR X (.builtin "sorted") (rSortedTI X.K) := by
  intro pins s σ H vs us Q I r h
  obtain ⟨a, xs, k, rfl, hs, hx, q⟩ := h
  obtain ⟨its, rv, hl, hz⟩ := I.list hs
  rw [Vals.ref1 r]
  obtain ⟨e1, e2⟩ := refs_back rv fun x m => by
    obtain ⟨_, t, e, _⟩ := hx x m
    exact ⟨t, e⟩
  have hp : ∀ v ∈ its, TS.TupInts s.heap v (k (backV v)) ∧ k (backV v) ≠ [] := fun v hv => by
    obtain ⟨t, rfl⟩ := e2 v hv
    have hm : V.ref t ∈ xs := by rw [e1]; exact List.mem_map.mpr ⟨_, hv, rfl⟩
    obtain ⟨hne, t2, e, ht⟩ := hx _ hm
    cases e
    obtain ⟨its2, r2, p2, _⟩ := I.tuple ht
    exact ⟨⟨t, _, rfl, p2, r2.ints⟩, hne⟩
  refine SrtO.sorted_ord (ltv := fun v u => HT.lexLt (k (backV v)) (k (backV u))) (NtL.swo_lexL fun v => k (backV v)) hl.isList (by rw [← rv.length]; exact hz) (fun h2 h₁ a' ha kk => ?_) fun out y1 y2 => ?_
  · refine SrtO.av_tups (s := { s with heap := h₁ }) h2 (fun v hm => ⟨(hp v hm).1.keeps fun b o e _ => (kk b o e).2, (hp v hm).2⟩) fun o e c => ?_
    have e' : some o = some (seqObj "list" its.toArray 0) := e.symm.trans ha
    cases e'
    exact absurd (Value.type.inj c) (by decide)
  · have h3 : ∀ u ∈ out, ∃ a, u = Value.ref a := fun u hu => e2 u (y2.perm.mem_iff.mp hu)
    obtain ⟨ep, he'⟩ := PyProof.Rows.sortedAll_at s.heap its out.toArray
    have hb : (out.map backV).Perm xs := by rw [e1]; exact y2.perm.map backV
    refine ⟨.ref _, upd H (s.heap.objs.size + 1) (.lst (out.map backV)), I.laid (t' := s.toks) (fun _ _ => PyProof.Rows.sortedAll_old) (Nat.le_succ _) ⟨?_, out, ep, vals_back h3, he'⟩, rfl, q _ _ (SrtO.srtd_map y1) hb (I.hok.fresh (Nat.le_succ _))⟩
    rw [hb.length_eq]
    exact hz
end
end L2
namespace Av
open PySem PySem.Spec L2
open PyProof.Rows hiding St
set_option autoImplicit false
/-! a sort for the mirrors -/
section
variable {α : Type} (lt : α → α → Bool)
def insL (d : α) : List α → List α
  | [] => [d]
  | e :: r => if lt e d = true then e :: insL d r else d :: e :: r
def isrt : List α → List α
  | [] => []
  | d :: r => insL lt d (isrt r)
def mrgL : Nat → List α → List α → List α
  | _, [], ys => ys
  | _, xs, [] => xs
  | 0, xs, ys => isrt lt (xs ++ ys)
  | n + 1, x :: xs, y :: ys => if lt y x = true then y :: mrgL n (x :: xs) ys else x :: mrgL n xs (y :: ys)
def splL : List α → List α × List α
  | [] => ([], [])
  | [x] => ([x], [])
  | x :: y :: r => (x :: (splL r).1, y :: (splL r).2)
def msrt : Nat → List α → List α
  | 0, xs => isrt lt xs
  | n + 1, xs => match xs with
    | [] => []
    | [x] => [x]
    | x :: y :: r => mrgL lt 4000 (msrt n (splL (x :: y :: r)).1) (msrt n (splL (x :: y :: r)).2)
variable {lt}
theorem insL_perm (d : α) : ∀ l : List α, (insL lt d l).Perm (d :: l)
  | [] => .refl _
  | e :: r => by
    unfold insL
    split
    · exact ((insL_perm d r).cons e).trans (.swap d e r)
    · exact .refl _
theorem isrt_perm : ∀ l : List α, (isrt lt l).Perm l
  | [] => .refl _
  | d :: r => (insL_perm d _).trans ((isrt_perm r).cons d)
theorem mrgL_perm : ∀ (n : Nat) (xs ys : List α), (mrgL lt n xs ys).Perm (xs ++ ys)
  | n, [], ys => by unfold mrgL; exact .refl _
  | n, x :: xs, [] => by unfold mrgL; rw [List.append_nil]
  | 0, x :: xs, y :: ys => by unfold mrgL; exact isrt_perm _
  | n + 1, x :: xs, y :: ys => by
    unfold mrgL
    split
    · exact ((mrgL_perm n (x :: xs) ys).cons y).trans List.perm_middle.symm
    · exact (mrgL_perm n xs (y :: ys)).cons x
theorem splL_perm : ∀ l : List α, ((splL l).1 ++ (splL l).2).Perm l
  | [] => .refl _
  | [x] => .refl _
  | x :: y :: r => by
    show (x :: (splL r).1 ++ y :: (splL r).2).Perm _
    exact List.Perm.cons x (List.perm_middle.trans ((splL_perm r).cons y))
theorem msrt_perm : ∀ (n : Nat) (l : List α), (msrt lt n l).Perm l
  | 0, l => isrt_perm l
  | n + 1, [] => .refl _
  | n + 1, [x] => .refl _
  | n + 1, x :: y :: r => (mrgL_perm _ _ _).trans (((msrt_perm n _).append (msrt_perm n _)).trans (splL_perm _))
theorem insL_srt (O : SrtO.Swo lt) (d : α) : ∀ l : List α, SrtO.Srtd lt l → SrtO.Srtd lt (insL lt d l)
  | [], _ => List.pairwise_singleton _ _
  | e :: r, h => by
    unfold insL
    rw [SrtO.Srtd, List.pairwise_cons] at h
    split
    · rename_i hd
      refine List.pairwise_cons.mpr ⟨fun x hx => ?_, insL_srt O d r h.2⟩
      rcases List.mem_cons.mp ((insL_perm d r).mem_iff.mp hx) with rfl | hx
      · exact O.asym _ _ hd
      · exact h.1 x hx
    · rename_i hd
      refine List.pairwise_cons.mpr ⟨fun x hx => ?_, List.pairwise_cons.mpr h⟩
      have hd : lt e d = false := by simpa using hd
      rcases List.mem_cons.mp hx with rfl | hx
      · exact hd
      · exact O.tr _ _ _ hd (h.1 x hx)
theorem isrt_srt (O : SrtO.Swo lt) : ∀ l : List α, SrtO.Srtd lt (isrt lt l)
  | [] => .nil
  | d :: r => insL_srt O d _ (isrt_srt O r)
theorem mrgL_srt (O : SrtO.Swo lt) : ∀ (n : Nat) (xs ys : List α), SrtO.Srtd lt xs → SrtO.Srtd lt ys → SrtO.Srtd lt (mrgL lt n xs ys)
  | n, [], ys, _, h => by unfold mrgL; exact h
  | n, x :: xs, [], h, _ => by unfold mrgL; exact h
  | 0, x :: xs, y :: ys, _, _ => by unfold mrgL; exact isrt_srt O _
  | n + 1, x :: xs, y :: ys, hx, hy => by
    unfold mrgL
    have px := List.pairwise_cons.mp hx
    have py := List.pairwise_cons.mp hy
    split
    · rename_i hd
      refine List.pairwise_cons.mpr ⟨fun z hz => ?_, mrgL_srt O n _ _ hx py.2⟩
      rcases List.mem_append.mp ((mrgL_perm n _ _).mem_iff.mp hz) with hz | hz
      · rcases List.mem_cons.mp hz with rfl | hz
        · exact O.asym _ _ hd
        · exact O.tr _ _ _ (O.asym _ _ hd) (px.1 z hz)
      · exact py.1 z hz
    · rename_i hd
      have hd : lt y x = false := by simpa using hd
      refine List.pairwise_cons.mpr ⟨fun z hz => ?_, mrgL_srt O n _ _ px.2 hy⟩
      rcases List.mem_append.mp ((mrgL_perm n _ _).mem_iff.mp hz) with hz | hz
      · exact px.1 z hz
      · rcases List.mem_cons.mp hz with rfl | hz
        · exact hd
        · exact O.tr _ _ _ hd (py.1 z hz)
theorem msrt_srt (O : SrtO.Swo lt) : ∀ (n : Nat) (l : List α), SrtO.Srtd lt (msrt lt n l)
  | 0, l => isrt_srt O l
  | n + 1, [] => .nil
  | n + 1, [x] => List.pairwise_singleton _ _
  | n + 1, x :: y :: r => mrgL_srt O _ _ _ (msrt_srt O n _) (msrt_srt O n _)
/-- there is one sorted arrangement -/
theorem srt_uniq (anti : ∀ a b, lt a b = false → lt b a = false → a = b) : ∀ {l m : List α}, l.Perm m → SrtO.Srtd lt l → SrtO.Srtd lt m → l = m
  | [], m, p, _, _ => (List.nil_perm.mp p).symm
  | a :: l, [], p, _, _ => absurd p.length_eq (by simp)
  | a :: l, b :: m, p, hl, hm => by
    have pl := List.pairwise_cons.mp hl
    have pm := List.pairwise_cons.mp hm
    have e : a = b := by
      rcases List.mem_cons.mp (p.mem_iff.mp List.mem_cons_self) with h | h
      · exact h
      · rcases List.mem_cons.mp (p.mem_iff.mpr List.mem_cons_self) with h' | h'
        · exact h'.symm
        · exact anti a b (pm.1 a h) (pl.1 b h')
    subst e
    rw [srt_uniq anti (List.Perm.cons_inv p) pl.2 pm.2]
end
def ltI (a b : Int) : Bool := decide (a < b)
theorem swo_ltI : SrtO.Swo ltI := ⟨fun x y h => decide_eq_false (by have := of_decide_eq_true h; omega), fun x y z h1 h2 => decide_eq_false (by have := of_decide_eq_false h1; have := of_decide_eq_false h2; omega)⟩
theorem anti_ltI (a b : Int) (h1 : ltI a b = false) (h2 : ltI b a = false) : a = b := by have := of_decide_eq_false h1; have := of_decide_eq_false h2; omega
theorem swo_lex : SrtO.Swo HT.lexLt := NtL.swo_lexL fun l : List Int => l
theorem anti_lex : ∀ a b : List Int, HT.lexLt a b = false → HT.lexLt b a = false → a = b
  | [], [], _, _ => rfl
  | [], y :: ys, h, _ => by rw [HT.lexLt_nil_cons] at h; cases h
  | x :: xs, [], _, h => by rw [HT.lexLt_nil_cons] at h; cases h
  | x :: xs, y :: ys, h1, h2 => by
    rw [HT.lexLt_cons] at h1 h2
    by_cases e : x = y
    · rw [if_pos e] at h1
      rw [if_pos e.symm] at h2
      rw [e, anti_lex xs ys h1 h2]
    · rw [if_neg e] at h1
      rw [if_neg (Ne.symm e)] at h2
      have := of_decide_eq_false h1
      have := of_decide_eq_false h2
      exact absurd (by omega) e
theorem srt_ints {ns ms : List Int} (hp : ms.Perm ns) (hs : ms.Pairwise (· ≤ ·)) : ms = msrt ltI 12 ns :=
  srt_uniq anti_ltI (hp.trans (msrt_perm 12 ns).symm) (hs.imp fun {x y} h => decide_eq_false (by omega)) (msrt_srt swo_ltI 12 ns)
/-- tuples of ints -/
def tupsOf : List PD → Option (List (List Int))
  | [] => some []
  | .tuple ds :: r => match intsOf ds, tupsOf r with
    | some ns, some ks => some (ns :: ks)
    | _, _ => none
  | _ :: _ => none
def tupD (ns : List Int) : PD := .tuple (ns.map PyData.int)
def isNil {α : Type} : List α → Bool
  | [] => true
  | _ :: _ => false
def allNe {α : Type} : List (List α) → Bool
  | [] => true
  | x :: r => if isNil x = true then false else allNe r
def srtD2 (ds : List PD) : Option PD := match intsOf ds with
  | some ns => some (.list ((msrt ltI 12 ns).map PyData.int))
  | none => match tupsOf ds with
    | some ks => if allNe ks = true then some (.list ((msrt HT.lexLt 12 ks).map tupD)) else none
    | none => none
def sorted2 : List PD → Option PD
  | [.list ds] => srtD2 ds
  | [.tuple ds] => (intsOf ds).map fun ns => .list ((msrt ltI 12 ns).map PyData.int)
  | _ => none
theorem DqA.ofInts {S : Hp} : ∀ ns : List Int, DqA S (ns.map V.int) (ns.map PyData.int)
  | [] => .nil
  | n :: r => .cons (.int n) (DqA.ofInts r)
/-- the ints of a tuple that is told by its reading -/
noncomputable def keyOf (S : Hp) (v : V) : List Int := by
  classical
  exact if h : ∃ ns, Dq S v (tupD ns) then h.choose else []
theorem tupD_inj : ∀ {a b : List Int}, tupD a = tupD b → a = b := by
  intro a b h
  have h : a.map PyData.int = b.map PyData.int := by
    unfold tupD at h
    injection h
  have e := congrArg intsOf h
  rw [intsOf_map, intsOf_map] at e
  exact Option.some.inj e
mutual
theorem Dq.fun {S : Hp} : ∀ {v : V} {d e : PD}, Dq S v d → Dq S v e → d = e
  | _, _, _, .non, .non => rfl
  | _, _, _, .bl _, .bl _ => rfl
  | _, _, _, .int _, .int _ => rfl
  | _, _, _, .str _, .str _ => rfl
  | _, _, _, .lst h r, .lst h' r' => by
    rw [h] at h'
    cases h'
    rw [DqA.fun r r']
  | _, _, _, .tup h r _, .tup h' r' _ => by
    rw [h] at h'
    cases h'
    rw [DqA.fun r r']
  | _, _, _, .lst h _, .tup h' _ _ => by rw [h] at h'; cases h'
  | _, _, _, .tup h _ _, .lst h' _ => by rw [h] at h'; cases h'
theorem DqA.fun {S : Hp} : ∀ {vs : List V} {ds es : List PD}, DqA S vs ds → DqA S vs es → ds = es
  | _, _, _, .nil, .nil => rfl
  | _, _, _, .cons h r, .cons h' r' => by rw [Dq.fun h h', DqA.fun r r']
end
theorem keyOf_is {S : Hp} {v : V} {ns : List Int} (h : Dq S v (tupD ns)) : keyOf S v = ns := by
  unfold keyOf
  have ex : ∃ ns, Dq S v (tupD ns) := ⟨ns, h⟩
  rw [dif_pos ex]
  exact tupD_inj (Dq.fun ex.choose_spec h)
theorem tups_of {S : Hp} : ∀ {xs : List V} {ds : List PD} {ks : List (List Int)}, DqA S xs ds → tupsOf ds = some ks → xs.map (keyOf S) = ks ∧ ∀ x ∈ xs, Dq S x (tupD (keyOf S x))
  | _, _, _, .nil, e => by cases e; exact ⟨rfl, fun x h => nomatch h⟩
  | _, _, _, .cons (v := v) (d := d) (ds := ds) h r, e => by
    cases d with
    | tuple es =>
      have e : (match Av.intsOf es, tupsOf ds with | some ns, some ks => some (ns :: ks) | _, _ => none) = some _ := e
      cases e1 : Av.intsOf es with
      | none => rw [e1] at e; cases e
      | some ns =>
        cases e2 : tupsOf ds with
        | none => rw [e1, e2] at e; cases e
        | some ks =>
          rw [e1, e2] at e
          cases e
          obtain ⟨h1, h2⟩ := tups_of r e2
          have e3 : es = ns.map PyData.int := by
            have : ∀ {ds : List PD} {ns : List Int}, Av.intsOf ds = some ns → ds = ns.map PyData.int := by
              intro ds
              induction ds with
              | nil => intro ns h; cases h; rfl
              | cons d r ih =>
                intro ns h
                cases d with
                | int i =>
                  obtain ⟨m, hm, rfl⟩ := Option.map_eq_some_iff.mp h
                  rw [ih hm]
                  rfl
                | none => cases h
                | bool _ => cases h
                | str _ => cases h
                | list _ => cases h
                | tuple _ => cases h
                | dict _ => cases h
            exact this e1
          subst e3
          have hk := keyOf_is (ns := ns) h
          refine ⟨by rw [List.map_cons, hk, h1], fun x hx => ?_⟩
          rcases List.mem_cons.mp hx with rfl | hx
          · rw [hk]; exact h
          · exact h2 x hx
    | none => cases e
    | bool _ => cases e
    | int _ => cases e
    | str _ => cases e
    | list _ => cases e
    | dict _ => cases e
theorem allNe_mem {α : Type} : ∀ {l : List (List α)}, allNe l = true → ∀ x ∈ l, x ≠ []
  | [], _, x, h => nomatch h
  | [] :: r, e, x, h => by cases e
  | (a :: b) :: r, e, x, h => by
    rcases List.mem_cons.mp h with rfl | h
    · intro z; cases z
    · exact allNe_mem (l := r) e x h
theorem DqA.ofKeys {S : Hp} : ∀ {xs : List V}, (∀ x ∈ xs, Dq S x (tupD (keyOf S x))) → DqA S xs ((xs.map (keyOf S)).map tupD)
  | [], _ => .nil
  | x :: xs, h => .cons (h x List.mem_cons_self) (DqA.ofKeys fun y hy => h y (List.mem_cons_of_mem _ hy))
section
variable {c : Ct} {k : Nat}
def rSortA (K : PySem.W.Frag) : List V → Hp → VK → Prop := fun vs H Q => rSortedI K vs H Q ∨ rSortedTI K vs H Q ∨ rSortedIT K vs H Q
theorem cr_sortA {X : Cx} : CallR X (.builtin "sorted") (rSortA X.K) := cr_sortedI.or (cr_sortedTI.or cr_sortedIT)
theorem calls_sortA : CallS c (rSortA c.X.K) sorted2 := fun L g H vs ds z Q rel hvs hz k => by
  match ds, hz with
  | [.tuple ds], hz =>
    obtain ⟨ns, hn, rfl⟩ := Option.map_eq_some_iff.mp hz
    cases hvs with
    | cons hv ht =>
      cases ht
      cases hv with
      | tup hS hA hN =>
        cases intsOf_vals hA hn
        refine .inr (.inr ⟨_, ns, rfl, SqTF (rel.s _ _ hS), fun ms p hp hs hq => ?_⟩)
        rw [srt_ints hp hs]
        exact k _ _ _ (Stp.new rel hq) (rel.new hq) (.lst upd_same (DqA.ofInts _))
  | [.list ds], hz =>
    have hz : srtD2 ds = some z := hz
    cases hvs with
    | cons hv ht =>
      cases ht
      cases hv with
      | @lst a xs _ hS hA =>
        unfold srtD2 at hz
        cases hn : Av.intsOf ds with
        | some ns =>
          rw [hn] at hz
          cases hz
          cases intsOf_vals hA hn
          refine .inl ⟨_, ns, rfl, SqL.of (rel.s _ _ hS), fun ms p hp hs hq => ?_⟩
          rw [srt_ints hp hs]
          exact k _ _ _ (Stp.new rel hq) (rel.new hq) (.lst upd_same (DqA.ofInts _))
        | none =>
          rw [hn] at hz
          cases ht : tupsOf ds with
          | none => rw [ht] at hz; cases hz
          | some ks =>
            rw [ht] at hz
            obtain ⟨hb, rfl⟩ := if_some hz
            obtain ⟨e1, e2⟩ := tups_of hA ht
            refine .inr (.inl ⟨a, xs, keyOf L.S, rfl, SqL.of (rel.s _ _ hS), fun x hx => ⟨?_, ?_⟩, fun ys p hs hp hq => ?_⟩)
            · exact allNe_mem hb _ (by rw [← e1]; exact List.mem_map.mpr ⟨x, hx, rfl⟩)
            · have hd := e2 x hx
              generalize keyOf L.S x = kk at hd
              unfold tupD at hd
              cases hd with
              | tup hS' hA' hN' =>
                refine ⟨_, rfl, ?_⟩
                rw [← hA'.ints]
                exact SqTF (rel.s _ _ hS')
            · have hd : ∀ y ∈ ys, Dq L.S y (tupD (keyOf L.S y)) := fun y hy => e2 y (hp.mem_iff.mp hy)
              have e3 : ys.map (keyOf L.S) = msrt HT.lexLt 12 ks := srt_uniq anti_lex (((hp.map (keyOf L.S)).trans (by rw [e1])).trans (msrt_perm 12 ks).symm) (SrtO.srtd_map hs) (msrt_srt swo_lex 12 ks)
              refine k _ _ _ (Stp.new rel hq) (rel.new hq) (.lst upd_same ?_)
              rw [← e3]
              exact (DqA.ofKeys hd).mono (same_new (rel.sq hq))
end
end Av

/-! ### min(list) of pairs of an int and a tuple of ints -/
namespace L2
open PySem PySem.Spec PyProof.Rows
section
variable {X : Cx}
def rMinP (K : PySem.W.Frag) : List V → Hp → VK → Prop := fun vs H Q => ∃ (a : Addr) (xs : List V) (x : PyData) (ds : List PyData), vs = [V.ref a] ∧ SqL K H a xs ∧ DpAll K H xs (x :: ds) ∧ PySem.W.AlikeAll (x :: ds) ∧ PyData.canLayAll0 (x :: ds) = true ∧ PyData.depthAll (x :: ds) ≤ 50 ∧
  ∀ (i : Nat) (y : V), xs[i]? = some y → (x :: ds)[i]? = some (PySem.W.minD x ds) → Q y H
theorem Vals.get' : ∀ {xs : List V} {us : List Value} {i : Nat} {u : Value}, Vals xs us → us[i]? = some u → ∃ x, xs[i]? = some x ∧ RelV x u
  | _, _, _, _, .nil, h => by simp at h
  | x :: xs, u :: us, 0, _, .cons r t, h => by simp at h; subst h; exact ⟨x, rfl, r⟩
  | x :: xs, u :: us, i + 1, v, .cons r t, h => by
    obtain ⟨y, h1, h2⟩ := Vals.get' (i := i) (u := v) t (by simpa using h)
    exact ⟨y, by simpa using h1, h2⟩
theorem lay_at : ∀ {ds : List PyData} {i : Nat} {d : PyData}, PyData.canLayAll0 ds = true → ds[i]? = some d → d.canLay0 = true
  | [], i, d, _, h => by simp at h
  | e :: r, 0, d, hc, h => by
    simp at h
    subst h
    simp only [PyData.canLayAll0, Bool.and_eq_true] at hc
    exact hc.1
  | e :: r, i + 1, d, hc, h => by
    simp only [PyData.canLayAll0, Bool.and_eq_true] at hc
    exact lay_at hc.2 (by simpa using h)
theorem cr_minP (hc : X.calm = true) (hu : X.A.units + 65 < cLine) : CallR X (.builtin "min") (rMinP X.K) := by
  intro pins s σ H vs us Q I r h
  obtain ⟨a, xs, x, ds, rfl, hs, hd, ha, hl, hdp, q⟩ := h
  obtain ⟨its, rv, hL, _⟩ := I.list hs
  rw [Vals.ref1 r]
  obtain ⟨as, hr⟩ := Dp.readsAll I (x :: ds) xs its hd rv
  refine PySem.W.min_list_data (I.ok.hd hc) hL.isList (show ReadsAll s.heap its.toArray.toList (x :: ds) as from hr) ha (by omega) fun i v h' tk bs hv hrd hk => ?_
  have hv : its[i]? = some v := by simpa using hv
  obtain ⟨y, hy, ry⟩ := Vals.get' rv hv
  refine ⟨y, H, I.kept hk, ry, q i y hy ?_⟩
  obtain ⟨bs2, r2, hlt, _, _⟩ := PySem.W.readsAll_at hr i v hv
  have e1 : (x :: ds)[i]? = some ((x :: ds).getD i .none) := by
    rw [List.getD_eq_getElem?_getD, List.getElem?_eq_getElem hlt]
    rfl
  rw [e1]
  exact congrArg some (SeqAt.Reads.unique _ _ _ _ _ (lay_at hl e1) (Reads.keeps hk r2) hrd)
end
end L2
namespace Av
open PySem PySem.Spec L2
open PyProof.Rows hiding St
set_option autoImplicit false
def allInt : List PD → Bool
  | [] => true
  | .int _ :: r => allInt r
  | _ :: _ => false
def isPr : PD → Bool
  | .tuple [.int _, .tuple ds] => allInt ds
  | _ => false
def allPr : List PD → Bool
  | [] => true
  | d :: r => if isPr d = true then allPr r else false
theorem allInt_alike : ∀ (xs ys : List PD), allInt xs = true → allInt ys = true → PySem.W.alikeAll xs ys = true
  | [], ys, _, _ => by simp [PySem.W.alikeAll]
  | .int i :: xs, [], _, _ => by simp [PySem.W.alikeAll]
  | .int i :: xs, .int j :: ys, h1, h2 => by
    have := allInt_alike xs ys h1 h2
    simp [PySem.W.alikeAll, PySem.W.alike, this]
  | .int i :: xs, .none :: ys, _, h2 => by cases h2
  | .int i :: xs, .bool _ :: ys, _, h2 => by cases h2
  | .int i :: xs, .str _ :: ys, _, h2 => by cases h2
  | .int i :: xs, .list _ :: ys, _, h2 => by cases h2
  | .int i :: xs, .tuple _ :: ys, _, h2 => by cases h2
  | .int i :: xs, .dict _ :: ys, _, h2 => by cases h2
  | .none :: xs, _, h1, _ => by cases h1
  | .bool _ :: xs, _, h1, _ => by cases h1
  | .str _ :: xs, _, h1, _ => by cases h1
  | .list _ :: xs, _, h1, _ => by cases h1
  | .tuple _ :: xs, _, h1, _ => by cases h1
  | .dict _ :: xs, _, h1, _ => by cases h1
theorem allInt_lay : ∀ (xs : List PD), allInt xs = true → PyData.canLayAll0 xs = true ∧ PyData.depthAll xs = 0
  | [], _ => by simp [PyData.canLayAll0, PyData.depthAll]
  | .int i :: xs, h => by
    obtain ⟨h1, h2⟩ := allInt_lay xs h
    simp [PyData.canLayAll0, PyData.canLay0, PyData.depthAll, PyData.depth, h1, h2]
  | .none :: xs, h1 => by cases h1
  | .bool _ :: xs, h1 => by cases h1
  | .str _ :: xs, h1 => by cases h1
  | .list _ :: xs, h1 => by cases h1
  | .tuple _ :: xs, h1 => by cases h1
  | .dict _ :: xs, h1 => by cases h1
theorem isPr_is {d : PD} (h : isPr d = true) : ∃ i ds, d = .tuple [.int i, .tuple ds] ∧ allInt ds = true := by
  unfold isPr at h
  split at h
  · exact ⟨_, _, rfl, h⟩
  · cases h
theorem allPr_mem : ∀ {ds : List PD}, allPr ds = true → ∀ d ∈ ds, isPr d = true
  | [], _, d, h => nomatch h
  | e :: r, hb, d, h => by
    unfold allPr at hb
    cases he : isPr e with
    | false => rw [he] at hb; cases hb
    | true =>
      rw [he, if_pos rfl] at hb
      rcases List.mem_cons.mp h with rfl | h
      · exact he
      · exact allPr_mem hb d h
theorem allPr_lay : ∀ {ds : List PD}, allPr ds = true → PyData.canLayAll0 ds = true ∧ PyData.depthAll ds ≤ 2
  | [], _ => by simp [PyData.canLayAll0, PyData.depthAll]
  | e :: r, hb => by
    unfold allPr at hb
    cases he : isPr e with
    | false => rw [he] at hb; cases hb
    | true =>
      rw [he, if_pos rfl] at hb
      obtain ⟨h1, h2⟩ := allPr_lay hb
      obtain ⟨i, xs, rfl, hx⟩ := isPr_is he
      obtain ⟨h3, h4⟩ := allInt_lay xs hx
      simp [PyData.canLayAll0, PyData.canLay0, PyData.depthAll, PyData.depth, h1, h3, h4]
      omega
theorem allPr_alike {ds : List PD} (h : allPr ds = true) : PySem.W.AlikeAll ds := by
  refine ⟨fun x hx y hy => ?_, fun x hx e => ?_⟩
  · obtain ⟨i, xs, rfl, h1⟩ := isPr_is (allPr_mem h x hx)
    obtain ⟨j, ys, rfl, h2⟩ := isPr_is (allPr_mem h y hy)
    simp [PySem.W.alike, PySem.W.alikeAll, allInt_alike xs ys h1 h2]
  · subst e
    have := allPr_mem h _ hx
    cases this
def minP (x : PD) (ds : List PD) : Option PD := if allPr (x :: ds) = true then some (PySem.W.minD x ds) else none
def minE : List PD → Option PD
  | [.list (.int i :: ds)] => minD [.list (.int i :: ds)]
  | [.list (.tuple xs :: ds)] => minP (.tuple xs) ds
  | _ => none
section
variable {c : Ct} {k : Nat}
def rMinE (K : PySem.W.Frag) : List V → Hp → VK → Prop := fun vs H Q => rMin K vs H Q ∨ rMinP K vs H Q
theorem cr_minE {X : Cx} {k : Nat} (hc : X.calm = true) (hr : Room k X.A) : CallR X (.builtin "min") (rMinE X.K) := (cr_min hc).or (cr_minP hc (u65 hr))
theorem calls_minE : CallS c (rMinE c.X.K) minE := fun L g H vs ds z Q rel hv hz k => by
  match ds, hz with
  | [.list (.int i :: es)], hz => exact .inl (calls_min L g H vs _ z Q rel hv hz k)
  | [.list (.tuple es :: ds)], hz =>
    have hz : (if allPr (.tuple es :: ds) = true then some (PySem.W.minD (.tuple es) ds) else none) = some z := hz
    obtain ⟨hb, rfl⟩ := if_some hz
    cases hv with
    | cons h r =>
      cases r
      cases h with
      | lst hS hA =>
        obtain ⟨h1, h2⟩ := allPr_lay hb
        refine .inr ⟨_, _, _, _, rfl, SqL.of (rel.s _ _ hS), (hA.mono rel.s).dp, allPr_alike hb, h1, by omega, fun i y hy hd => ?_⟩
        obtain ⟨v, hv', hq⟩ := hA.get hd
        rw [hy] at hv'
        cases hv'
        exact k _ L H (Stp.refl rel) rel hq
end
end Av

namespace L2
open PySem PySem.Spec PyProof.Rows
section
variable {X : Cx} {CX : CXT} {k : Nat} {f : Addr} {fd : FuncData} {ps : List Str} {sp : Sp} {E : St → XK} {x : Str} {p pos : Pos}
/-- f() -/
theorem pe_call0S (F : FnOk X.prog X.w X.K X.mg X.base CX k f fd ps sp) (hr : Room k X.A) (hg : Gl X x) (hm : X.mg x = some (.ref f)) (hk : PySem.W.keepIn X.K (.ref f) = true) (hb : Binds X.K fd ps []) (hx : ∀ σ, PassesAt CX X σ (E σ)) (hdb : (x == ("__debug__" : Str)) = false := by decide) :
    PE X (.Call (.Name x p) [] [] pos) (fun σ H Q => sp [] H Q (E σ)) :=
  ⟨fun pins s σ H Q I h => wpAny_Call_Name_kw (ld_glob I hg hm (PySem.W.callWith_K0 I.kIn hk (run_fnS (us := []) F hr hb (hx σ) I .nil h)) hdb)⟩
end
end L2
namespace Av
open PySem PySem.Spec L2
open PyProof.Rows hiding St
set_option autoImplicit false
section
variable {c : Ct} {k : Nat}
theorem de_call0 {x : Str} {F : List Sl → Mo PD} {p pos : Pos} (ok : c.Ok k) (fn : FnD c.X.prog c.X.w c.X.K c.X.mg c.X.base c.p k x F) (hg : Gl c.X x := by rfl) (hdb : (x == ("__debug__" : Str)) = false := by decide) : DE c (.Call (.Name x p) [] [] pos) (eCallF F sNil) := by
  obtain ⟨f, fd, ps, FO, hm, hk, hb⟩ := fn.ex
  refine PE.imp (pe_call0S FO ok.rm hg hm hk hb (fun σ => L2N.passAt ok.tk σ) hdb) fun σ H Q q => ?_
  obtain ⟨L0, H0, L, g, Γ, fr, po⟩ := q
  have po : Post c.p c.W σ L H (fun d _ L' H' => ∀ v, Dq L'.S v d → Q v H') (F [] g) := po
  refine ⟨L, g, [], fr.rel, .nil, ?_⟩
  cases e2 : F [] g with
  | ok d g2 => rw [e2] at po; exact po
  | exc i g2 => rw [e2] at po; exact po
  | bad => rw [e2] at po; exact po
/-- a, b, c = a list of three -/
def sUn3 (i j l : Nat) (f : List Sl → Mo PD) : List Sl → Mo Fl := fun Γ => bnd (f Γ) fun d => lift (match d with
  | .list [x, y, z] => some (.next (((Γ.set i (.val x)).set j (.val y)).set l (.val z)))
  | _ => none)
theorem ds_un3 (i j l : Nat) {x y z : Str} {e : Expr} {f : List Sl → Mo PD} {px py pz pt pos : Pos} {kt : Nat} (ok : c.Ok k) (he : DE c e f) (hi : c.X.N[i]? = some x := by rfl) (hj : c.X.N[j]? = some y := by rfl) (hl : c.X.N[l]? = some z := by rfl)
    (hx : Loc c.X.env.scope x := by first | exact Or.inl rfl | exact Or.inr rfl) (hy : Loc c.X.env.scope y := by first | exact Or.inl rfl | exact Or.inr rfl) (hz : Loc c.X.env.scope z := by first | exact Or.inl rfl | exact Or.inr rfl)
    (fx : c.X.fn x = true ∨ c.X.env.scope.names.lookup x = some .local := by first | exact .inl rfl | exact .inr rfl) (fy : c.X.fn y = true ∨ c.X.env.scope.names.lookup y = some .local := by first | exact .inl rfl | exact .inr rfl) (fz : c.X.fn z = true ∨ c.X.env.scope.names.lookup z = some .local := by first | exact .inl rfl | exact .inr rfl)
    (hs : swapsWithSole [.Tuple [.Name x px, .Name y py, .Name z pz] kt pt] e pos.line c.X.env = pure false := by rfl) (hw : swappedStores [.Tuple [.Name x px, .Name y py, .Name z pz] kt pt] e c.X.env = pure none := by rfl)
    (h1 : (assignEach [.Tuple [.Name x px, .Name y py, .Name z pz] kt pt] c.X.env).map (·.2) = [assign (.Tuple [.Name x px, .Name y py, .Name z pz] kt pt) c.X.env] := by rfl) :
    DS c (.Assign [.Tuple [.Name x px, .Name y py, .Name z pz] kt pt] e pos) (sUn3 i j l f) :=
  PS.imp (ps_asg he (pg_lst ok.cm (pgs_cons (pg_name ok.nd hi hx fx) (pgs_cons (pg_name ok.nd hj hy fy) (pgs_cons (pg_name ok.nd hl hz fz) pgs_nil)))) hs hw h1) fun D σ H q => by
    obtain ⟨L0, H0, L, g, Γ, fr, po⟩ := q
    have po := PostS.bind fr po
    refine ⟨L0, H0, L, g, Γ, fr, po.mono fun d g1 L1 H1 st1 rel1 po1 v hv => ?_⟩
    have fr1 := fr.step st1 rel1
    cases hv with
    | @lst a xs ds hS hA =>
      match ds, hA, po1 with
      | [d1, d2, d3], .cons q1 (.cons q2 (.cons q3 .nil)), po1 =>
        exact ⟨_, _, rfl, SqL.of (rel1.s _ _ hS), rfl, _, _, rfl, _, _, rfl, _, _, rfl, rfl, po1 L1 _ _ (((fr1.set i q1).set j q2).set l q3) (Same.refl _)⟩
      | [], _, po1 => exact po1.elim
      | [_], _, po1 => exact po1.elim
      | [_, _], _, po1 => exact po1.elim
      | _ :: _ :: _ :: _ :: _, _, po1 => exact po1.elim
    | non => exact po1.elim
    | bl _ => exact po1.elim
    | int _ => exact po1.elim
    | str _ => exact po1.elim
    | tup _ _ _ => exact po1.elim
/-- list(range(e)) -/
def lrgD : PD → Option PD
  | .int n => if rOk n = true then some (.list (rangeL 0 n.toNat)) else none
  | _ => none
theorem rgV_dq {S : Hp} : ∀ (n : Nat) (lo : Int), DqA S ((List.range n).map fun i => V.int (lo + (i : Nat))) (rangeL lo n)
  | 0, _ => .nil
  | n + 1, lo => by
    rw [List.range_succ_eq_map, List.map_cons, List.map_map]
    refine .cons (by show Dq S (V.int (lo + (0 : Nat))) (.int lo); rw [show lo + ((0 : Nat) : Int) = lo by omega]; exact .int lo) ?_
    have h := rgV_dq (S := S) n (lo + 1)
    have e : ((fun i : Nat => V.int (lo + (i : Nat))) ∘ Nat.succ) = fun i : Nat => V.int (lo + 1 + (i : Nat)) := by
      funext i
      show V.int (lo + ((i + 1 : Nat) : Int)) = _
      congr 1
      omega
    rw [e]
    exact h
theorem de_listRg {e : Expr} {f : List Sl → Mo PD} {p p2 pos pos2 : Pos} (ok : c.Ok k) (hm : c.X.mg "list" = none) (hmr : c.X.mg "range" = none) (he : DE c e f) (hg : Gl c.X "list" := by rfl) (hgr : Gl c.X "range" := by rfl) (na : starEach [e] c.X.env = (false, eval e c.X.env) :: starEach [] c.X.env := by rfl)
    (nb : starEach [.Call (.Name "range" p2) [e] [] pos2] c.X.env = (false, eval (.Call (.Name "range" p2) [e] [] pos2) c.X.env) :: starEach [] c.X.env := by rfl) : DE c (.Call (.Name "list" p) [.Call (.Name "range" p2) [e] [] pos2] [] pos) (eUnD lrgD f) :=
  PE.imp (pe_listRg ok.cm hg hm (prg_1 hgr hmr he na) nb) fun σ H Q q => by
    obtain ⟨L0, H0, L, g, Γ, fr, po⟩ := q
    have po := Post.bind po
    refine ⟨L0, H0, L, g, Γ, fr, po.mono fun d g1 L1 H1 st1 rel1 po1 v hv => ?_⟩
    obtain ⟨z, hz, po1⟩ := po1.lift rel1
    cases hv with
    | int n =>
      obtain ⟨hb, rfl⟩ := if_some hz
      have b := rOk_b hb
      refine ⟨n, rfl, ⟨by omega, by omega, by omega, by omega, by omega⟩, fun q hq => ?_⟩
      refine po1 _ _ (Stp.new rel1 hq) (rel1.new hq) _ (.lst upd_same ?_)
      have h := rgV_dq (S := upd L1.S q (.lst (rgV 0 n))) n.toNat 0
      unfold L2.rgV
      rw [show (n - 0).toNat = n.toNat by omega]
      unfold L2.rgV at h
      rw [show (n - 0).toNat = n.toNat by omega] at h
      exact h
    | non => cases hz
    | bl _ => cases hz
    | str _ => cases hz
    | lst _ _ => cases hz
    | tup _ _ _ => cases hz
/-- range(a, b, -1) -/
def downL : Int → Nat → List PD
  | _, 0 => []
  | hi, n + 1 => .int hi :: downL (hi - 1) n
def rng3 : List PD → Option (List PD)
  | [.int i, .int j, .int c] => if (rOk i && rOk j && decide (c = -1)) = true then some (downL i (i - j).toNat) else none
  | _ => none
theorem downL_len : ∀ (n : Nat) (i : Int), (downL i n).length = n
  | 0, _ => rfl
  | n + 1, i => by show (downL (i - 1) n).length + 1 = _; rw [downL_len n]
theorem downL_get : ∀ (n i : Nat) (hi : Int) (d : PD), (downL hi n)[i]? = some d → d = .int (hi + (i : Nat) * (-1))
  | 0, i, hi, d, h => by simp [downL] at h
  | n + 1, 0, hi, d, h => by simp [downL] at h; subst h; simp
  | n + 1, i + 1, hi, d, h => by
    rw [downL_get n i (hi - 1) d (by simpa [downL] using h)]
    congr 1
    omega
theorem walkD_down {p : Pm} {wk : Bool} {S : Hp} {hi : Int} {n : Nat} : WalkD p wk S (Itc hi (-1) n) (downL hi n) where
  go := fun i L g H h _ _ => by rw [downL_len] at h; exact h
  stop := fun L g H _ _ => by rw [downL_len]; exact Nat.le_refl _
  yld := fun i d L g H x H' hd _ rel y => by
    obtain ⟨rfl, rfl⟩ := y
    cases downL_get n i hi d hd
    exact ⟨L, Stp.refl rel, rel, .inl (.int _)⟩
theorem di_range3 {tg a b d : Expr} {f : List Sl → Mo (List PD)} {p pos : Pos} (hm : c.X.mg "range" = none) (ha : DA c [a, b, d] f) (hg : Gl c.X "range" := by rfl) (hs : starEach [a, b, d] c.X.env = (false, eval a c.X.env) :: starEach [b, d] c.X.env := by rfl) (hpl : (backTo pos (starEach [b, d] c.X.env)).any (·.1) = false := by rfl) : DI c tg (.Call (.Name "range" p) [a, b, d] [] pos) (iVia rng3 f) :=
  PI.imp (pi_range3 hg hm ha hs hpl) fun σ H R q => by
    obtain ⟨L0, H0, L, g, Γ, fr, po⟩ := q
    have po := Post.bind po
    refine ⟨L0, H0, L, g, Γ, fr, po.mono fun ds g1 L1 H1 st1 rel1 po1 vs hvs => ?_⟩
    obtain ⟨z, hz, po2⟩ := po1.lift rel1
    have po3 := po2 L1 H1 (Stp.refl rel1) rel1
    clear po1 po2
    match ds, hz with
    | [.int i, .int j, .int e], hz =>
      obtain ⟨hb, rfl⟩ := if_some hz
      simp only [Bool.and_eq_true, decide_eq_true_eq] at hb
      obtain ⟨⟨b1, b2⟩, rfl⟩ := hb
      have b1 := rOk_b b1
      have b2 := rOk_b b2
      cases hvs with
      | cons q1 r =>
        cases r with
        | cons q2 r =>
          cases r with
          | cons q3 r =>
            cases r
            cases q1
            cases q2
            cases q3
            exact ⟨i, j, -1, _, rfl, RgC.neg (by omega) (by omega) (by omega) (by omega), po3 _ walkD_down⟩
/-- x.remove(e), ints -/
def remI (k : Int) : List PD → Option (List PD)
  | [] => none
  | .int i :: r => if i = k then some r else (remI k r).map (.int i :: ·)
  | _ :: _ => none
def remD (ds : List PD) : PD → Option (List PD)
  | .int k => if allInt ds = true then remI k ds else none
  | _ => none
def sRem (i : Nat) (f : List Sl → Mo PD) : List Sl → Mo Fl := fun Γ => bnd (lift (getOw Γ[i]?)) fun ds => bnd (f Γ) fun d => lift ((remD ds d).map fun es => .next (Γ.set i (.own es)))
theorem allInt_map : ∀ {ds : List PD}, allInt ds = true → ∃ ns : List Int, ds = ns.map PyData.int
  | [], _ => ⟨[], rfl⟩
  | .int i :: r, h => by
    obtain ⟨ns, rfl⟩ := allInt_map (ds := r) h
    exact ⟨i :: ns, rfl⟩
  | .none :: xs, h1 => by cases h1
  | .bool _ :: xs, h1 => by cases h1
  | .str _ :: xs, h1 => by cases h1
  | .list _ :: xs, h1 => by cases h1
  | .tuple _ :: xs, h1 => by cases h1
  | .dict _ :: xs, h1 => by cases h1
theorem remI_is {k : Int} : ∀ {ns : List Int} {es : List PD}, remI k (ns.map PyData.int) = some es → ∃ j : Nat, ns[j]? = some k ∧ (∀ m : Nat, m < j → ns[m]? ≠ some k) ∧ es = (ns.eraseIdx j).map PyData.int
  | [], es, h => by cases h
  | n :: r, es, h => by
    have h : (if n = k then some (r.map PyData.int) else (remI k (r.map PyData.int)).map (PyData.int n :: ·)) = some es := h
    by_cases e : n = k
    · rw [if_pos e] at h
      cases h
      exact ⟨0, by simp [e], fun m hm => absurd hm (Nat.not_lt_zero _), rfl⟩
    · rw [if_neg e] at h
      obtain ⟨es', h', rfl⟩ := Option.map_eq_some_iff.mp h
      obtain ⟨j, h1, h2, rfl⟩ := remI_is h'
      refine ⟨j + 1, by simpa using h1, fun m hm => ?_, rfl⟩
      cases m with
      | zero => simpa using e
      | succ m => simpa using h2 m (by omega)
theorem ds_rem (i : Nat) {x : Str} {e : Expr} {f : List Sl → Mo PD} {p1 p2 p4 p5 : Pos} (he : DE c e f) (hN : c.X.N[i]? = some x := by rfl) (hv : Vis c.X.env.scope x := by first | exact Or.inl rfl | exact Or.inr (Or.inl rfl) | exact Or.inr (Or.inr rfl))
    (hd : (x == ("__debug__" : Str)) = false := by decide) (hcd : (x == ("__classdict__" : Str)) = false := by decide) (hline : (p2.endLine == p4.line) = true := by rfl)
    (hfew : ((backTo p4 (starEach [e] c.X.env)).all (fun x => !x.1) && (backToKw p4 (keywordEach [] c.X.env)).all (fun x => x.1.isSome) && decide ([e].length + ([] : List Keyword).length + (if ([] : List Keyword).isEmpty then 0 else 1) < 30)) = true := by rfl)
    (hs : starEach [e] c.X.env = (false, eval e c.X.env) :: starEach [] c.X.env := by rfl) (hw : swapsWith (.Call (.Attribute (.Name x p1) "remove" p2) [e] [] p4) none p5.line c.X.env = pure false := by rfl) :
    DS c (.Expr (.Call (.Attribute (.Name x p1) "remove" p2) [e] [] p4) p5) (sRem i f) :=
  PS.imp (ps_expr (pe_bm PySem.F.plainAttrs_list PySem.F.slot_list_remove PySem.F.type_list_remove mt_remove (pe_var hN hv hd hcd) (pa_cons he pa_nil hs) rfl hfew hline hs rfl) hw) fun D σ H q => by
    obtain ⟨L0, H0, L, g, Γ, fr, po⟩ := q
    obtain ⟨ds, ho, po⟩ := Post.lift (PostS.bind fr po) fr.rel
    have po := PostS.bind fr (po L H (Stp.refl fr.rel) fr.rel)
    have ho := getOw_some ho
    obtain ⟨a, xs, e, h1, h2, h3, h4, h5⟩ := fr.own ho
    refine ⟨_, e, .inl ⟨rfl, _, .inl (.inl h1)⟩, L0, H0, L, g, Γ, fr, po.mono fun d g1 L1 H1 st1 rel1 po1 v hv => ?_⟩
    obtain ⟨h1', _, _⟩ := st1.apart h1 h3 h4
    have fr1 := fr.step st1 rel1
    cases hz : remD ds d with
    | none => rw [hz] at po1; exact po1.elim
    | some es =>
      rw [hz] at po1
      cases hv with
      | int kk =>
        obtain ⟨hb, hz⟩ : allInt ds = true ∧ remI kk ds = some es := by
          have hz : (if allInt ds = true then remI kk ds else none) = some es := hz
          cases hb : allInt ds with
          | true => rw [hb, if_pos rfl] at hz; exact ⟨rfl, hz⟩
          | false => rw [hb, if_neg Bool.false_ne_true] at hz; cases hz
        obtain ⟨ns, rfl⟩ := allInt_map hb
        obtain ⟨j, j1, j2, rfl⟩ := remI_is hz
        cases h2.ints
        refine ⟨a, ns, kk, j, rfl, rfl, h1', j1, j2, ?_⟩
        exact po1 L1 σ _ (fr1.putOwn (xs := ns.map V.int) ho e (DqA.ofInts _)) (Same.refl _)
      | non => cases hz
      | bl _ => cases hz
      | str _ => cases hz
      | lst _ _ => cases hz
      | tup _ _ _ => cases hz
/-- x, y = e1, e2, where x or y is shared with a comprehension: by a tuple; e1 data, e2 a new own list -/
theorem ds_parVOc (i j : Nat) {x y : Str} {a b : Expr} {f1 : List Sl → Mo PD} {f2 : List Sl → Mo (List PD)} {px py pt pt2 pos : Pos} {kt k2 : Nat} (ok : c.Ok k) (ha : DE c a f1) (hb : DF c b f2) (hi : c.X.N[i]? = some x := by rfl) (hj : c.X.N[j]? = some y := by rfl)
    (hx : Loc c.X.env.scope x := by first | exact Or.inl rfl | exact Or.inr rfl) (hy : Loc c.X.env.scope y := by first | exact Or.inl rfl | exact Or.inr rfl)
    (fx : c.X.fn x = true ∨ c.X.env.scope.names.lookup x = some .local := by first | exact .inl rfl | exact .inr rfl) (fy : c.X.fn y = true ∨ c.X.env.scope.names.lookup y = some .local := by first | exact .inl rfl | exact .inr rfl)
    (hs : swapsWithSole [.Tuple [.Name x px, .Name y py] kt pt] (.Tuple [a, b] k2 pt2) pos.line c.X.env = pure false := by rfl) (hw : swappedStores [.Tuple [.Name x px, .Name y py] kt pt] (.Tuple [a, b] k2 pt2) c.X.env = pure none := by rfl)
    (h0 : (assignEach [.Tuple [.Name x px, .Name y py] kt pt] c.X.env).map (·.2) = [assign (.Tuple [.Name x px, .Name y py] kt pt) c.X.env] := by rfl)
    (h1 : starEach [a, b] c.X.env = (false, eval a c.X.env) :: starEach [b] c.X.env := by rfl) (h2 : starEach [b] c.X.env = (false, eval b c.X.env) :: starEach [] c.X.env := by rfl) :
    DS c (.Assign [.Tuple [.Name x px, .Name y py] kt pt] (.Tuple [a, b] k2 pt2) pos) (sParVO i j f1 f2) :=
  PS.imp (ps_asg (pe_tupF (pa_cons ha (pa_cons hb pa_nil h2) h1)) (pg_tup ok.cm (pgs_cons (pg_name ok.nd hi hx fx) (pgs_cons (pg_name ok.nd hj hy fy) pgs_nil))) hs hw h0) fun D σ H q => by
    obtain ⟨L0, H0, L, g, Γ, fr, po⟩ := q
    have po := PostS.bind fr po
    refine ⟨L0, H0, L, g, Γ, fr, po.mono fun d g1 L1 H1 st1 rel1 po1 v hv => ?_⟩
    have fr1 := fr.step st1 rel1
    have po1 := PostS.bind fr1 po1
    refine ⟨L0, H0, L1, g1, Γ, fr1, po1.mono fun ds g2 L2 H2 st2 rel2 po2 q vs hq hvs => ?_⟩
    refine ⟨by show 2 ≤ sizeLine; decide, fun t o ht hN => ?_⟩
    have fr2 := (fr1.step st2 rel2).set i (hv.mono st2.ss)
    have fr3 := (fr2.setOwn j hq hvs).alloc (o := .frz o (.tup [v, .ref q])) ht
    exact ⟨t, [v, .ref q], rfl, SqTF upd_same, rfl, _, _, rfl, _, _, rfl, rfl, PostS.pure po2 fr3⟩
theorem dss_fail {st : List Stmt} : DSs c st (fun _ => fail) := ⟨fun pins s σ H D I q => by
  obtain ⟨L0, H0, L, g, Γ, fr, po⟩ := q
  exact po.elim⟩
end
end Av

/-! ### own objects: the walkers -/
namespace L2
open PySem PySem.Spec PyProof.Rows
section
variable {X : Cx} {CX : CXT} {k : Nat} {f C : Addr} {fd : FuncData} {ps : List Str} {sp : Sp} {E : St → XK} {x m : Str} {p pos apos : Pos} {e o : Expr} {es : List Expr} {ta : TE} {t : TA}
/-- the callee runs at another depth -/
theorem run_atS {A : Around} {pins : List (Addr × Obj)} {σ : St} {H : Hp} {s : Shared} {Q : VK} {us : List Value} {vs : List V} (F : FnOk X.prog X.w X.K X.mg X.base CX k f fd ps sp) (hr : Room k A) (e0 : Env0 X.prog X.w X.K X.mg X.base A X.stack s H) (hb : Binds X.K fd ps []) (hx : PassesAt CX X σ (E σ))
    (I : Inv X pins σ H s) (r : Vals vs us) (h : sp vs H Q (E σ)) : wpAny (model X.prog X.w) A (call (.ref f) us) (EP X pins σ Q) X.xe s := by
  have hl : us.length = ps.length := by rw [← r.length]; exact F.len _ _ _ _ h
  have b := hb s us I.kIn (by rw [List.append_nil]; exact hl)
  rw [List.append_nil] at b
  refine wpAny_call (codeAny_mono (F.run A X.stack s H ⟨us, []⟩ us vs Q (E σ) hr e0 b r h) fun y s' hq => ?_)
  cases y with
  | error e => exact hx pins H s e s' I hq
  | ok fl =>
    cases fl with
    | ret u => exact I.after hq
    | next => exact False.elim hq
    | brk => exact False.elim hq
    | cont => exact False.elim hq
def tMethW (C : Addr) (m : Str) (sp : Sp) (E : St → XK) (ta : TE) (t : TA) : TE := fun σ H Q => ta σ H fun x H1 => ∃ a dx fs, x = .ref a ∧ H1 a = some (.ins C dx fs) ∧ fs.lookup m = none ∧ t σ H1 fun vs H2 => sp (x :: vs) H2 Q (E σ)
theorem pe_methW {pl : Sem Bool} (he : PE X o ta) (c : Cls X.K C) (hm : Meth X.K C m f) (F : FnOk X.prog X.w X.K X.mg X.base CX k f fd ps sp) (hr : Room k X.A) (hb : Binds X.K fd ps []) (hx : ∀ σ, PassesAt CX X σ (E σ)) (ha : PA X (e :: es) t)
    (hst : starEach (e :: es) X.env = (false, eval e X.env) :: starEach es X.env) (hpl : (backTo pos (starEach es X.env)).any (·.1) = false)
    (ht : eval (.Call (.Attribute o m apos) (e :: es) [] pos) X.env = (do let ov ← eval o X.env; standAt apos.atName; let (f, first) ← holding [ov] (getMethod ov m pl); callWith pos f first (backTo pos (starEach (e :: es) X.env)) (backToKw pos (keywordEach [] X.env)))) :
    PE X (.Call (.Attribute o m apos) (e :: es) [] pos) (tMethW C m sp E ta t) := by
  refine ⟨fun pins s σ H Q I h => PySem.W.methodCall_KW (pl := pl) (thn (he.run pins s σ H _ I h) fun u s1 ⟨y, H1, I1, rx, a, dx, fs, ex, ea, l, q⟩ => ?_) ht⟩
  subst ex
  cases rx
  refine getmeth_ok I1 ea c hm l (PySem.W.callWith_K (first := [.ref a]) (h₀ := X.base) I.ok.mod.kin hm.kp (thn (ha.run pos pins s1 σ H1 _ I1 q) fun us s2 ⟨vs, H2, I2, r, q2⟩ => ⟨I2.kIn, ?_⟩) hst hpl)
  exact run_fnS (us := .ref a :: us) (vs := .ref a :: vs) F hr hb (hx σ) I2 (.cons rfl r) q2
theorem pe_meth0W {pl : Sem Bool} (he : PE X o ta) (c : Cls X.K C) (hm : Meth X.K C m f) (F : FnOk X.prog X.w X.K X.mg X.base CX k f fd ps sp) (hr : Room k X.A) (hb : Binds X.K fd ps []) (hx : ∀ σ, PassesAt CX X σ (E σ))
    (ht : eval (.Call (.Attribute o m apos) [] [] pos) X.env = (do let ov ← eval o X.env; standAt apos.atName; let (f, first) ← holding [ov] (getMethod ov m pl); callWith pos f first (backTo pos (starEach [] X.env)) (backToKw pos (keywordEach [] X.env)))) :
    PE X (.Call (.Attribute o m apos) [] [] pos) (tMethW C m sp E ta tNil) := by
  refine ⟨fun pins s σ H Q I h => PySem.W.methodCall_KW (pl := pl) (thn (he.run pins s σ H _ I h) fun u s1 ⟨y, H1, I1, rx, a, dx, fs, ex, ea, l, q⟩ => ?_) ht⟩
  subst ex
  cases rx
  exact getmeth_ok I1 ea c hm l (PySem.W.callWith_K0 (first := [.ref a]) I1.kIn hm.kp (run_fnS (us := [.ref a]) (vs := [.ref a]) F hr hb (hx σ) I1 (.cons rfl .nil) q))
/-- len(x), str(x) by an own def; σ: the slots at which it is asked -/
theorem len_own (hm : PySem.W.findIn X.K (.ref C) "__len__" = some (some (.ref f))) (hf : PySem.W.isFn X.K (.ref f) = true) (F : FnOk X.prog X.w X.K X.mg X.base CX k f fd ps sp) (hr : Room (k + 1) X.A) (hb : Binds X.K fd ps []) (hx : ∀ σ, PassesAt CX X σ (E σ))
    {pins : List (Addr × Obj)} {s : Shared} {σ : St} {H : Hp} {Q : VK} {a dx : Addr} {fs : List (Str × V)} (I : Inv X pins σ H s) (ea : H a = some (.ins C dx fs)) (h : sp [.ref a] H (fun z H' => ∃ i, z = .int i ∧ 0 ≤ i ∧ i < 1000000 ∧ Q z H') (E σ)) :
    wpAny (model X.prog X.w) X.A (call (.builtin "len") [.ref a]) (EP X pins σ Q) X.xe s := by
  obtain ⟨mA, O, _⟩ := ins_get I.hok ea
  obtain ⟨od, J, _⟩ := O.look
  obtain ⟨mm, hF⟩ := I.fr
  refine PySem.W.len_K hF I.ok.mod.kin J hm hf (wpAny_mono (run_atS (us := [.ref a]) (vs := [.ref a]) F hr.in1 I.env0.in1 hb (hx σ) I (.cons rfl .nil) h) (fun u s' z => ?_) fun _ _ y => y)
  obtain ⟨z, H', I', rz, i, ei, i0, i1, q⟩ := z
  subst ei
  obtain ⟨t, rfl⟩ := rz
  exact ⟨⟨i0, by omega⟩, .int i, H', I'.tok _, ⟨_, rfl⟩, q⟩
theorem str_own (hm : PySem.W.findIn X.K (.ref C) "__str__" = some (some (.ref f))) (hf : PySem.W.isFn X.K (.ref f) = true) (F : FnOk X.prog X.w X.K X.mg X.base CX k f fd ps sp) (hr : Room (k + 2) X.A) (hb : Binds X.K fd ps []) (hx : ∀ σ, PassesAt CX X σ (E σ))
    {pins : List (Addr × Obj)} {s : Shared} {σ : St} {H : Hp} {Q : VK} {a dx : Addr} {fs : List (Str × V)} (I : Inv X pins σ H s) (ea : H a = some (.ins C dx fs)) (h : sp [.ref a] H (fun z H' => ∃ i, z = .str i ∧ Q z H') (E σ)) :
    wpAny (model X.prog X.w) X.A (call (.type "str") [.ref a]) (EP X pins σ Q) X.xe s := by
  obtain ⟨mA, O, _⟩ := ins_get I.hok ea
  obtain ⟨od, J, _⟩ := O.look
  have hr2 : Room k X.A.in1.in1 := (show Room (k + 1) X.A.in1 from hr.in1).in1
  refine PySem.W.kso_call hr2.units0 I.kIn J hm hf (wpAny_mono (run_atS (us := [.ref a]) (vs := [.ref a]) F hr2 I.env0.in1.in1 hb (hx σ) I (.cons rfl .nil) h) (fun u s' z => ?_) fun _ _ y => y)
  obtain ⟨z, H', I', rz, i, ei, q⟩ := z
  subst ei
  obtain ⟨t, rfl⟩ := rz
  exact ⟨.str i, H', I', ⟨_, rfl⟩, q⟩
end
end L2
namespace Av
open PySem PySem.Spec L2
open PyProof.Rows hiding St
set_option autoImplicit false
structure WkC (K : PySem.W.Frag) (C : Addr) : Prop where
  cl : Cls K C
  nS : NoAttr K C "steps"
  nK : NoAttr K C "kept"
/-- the walker that a slot names -/
def getW (o : Option Sl) (g : G) : Option (Nat × (List PD × Int)) := match o with
  | some (.obj n) => match n with
    | j + 2 => match g.ws[j]? with
      | some w => some (j, w)
      | none => none
    | _ => none
  | _ => none
theorem getW_some {o : Option Sl} {g : G} {j : Nat} {w : List PD × Int} (h : getW o g = some (j, w)) : o = some (.obj (j + 2)) ∧ g.ws[j]? = some w := by
  unfold getW at h
  split at h
  · split at h
    · split at h
      · rename_i e
        cases h
        exact ⟨rfl, e⟩
      · cases h
    · cases h
  · cases h
section
variable {c : Ct} {k : Nat} {p : Pm} {L0 L : Lay} {H0 H : Hp} {g : G} {Γ : List Sl} {σ : St}
theorem Rel.wk (rel : Rel p L g H) {j : Nat} {w : List PD × Int} {a : Addr} (ha : L.oa[j + 2]? = some a) (hw : g.ws[j]? = some w) : WAt p L a w := rel.gi.wk j w a hw ha
theorem walkF_S (v : V) (n : Int) : (walkF v n).lookup ("steps" : Str) = some v := rfl
theorem walkF_K (v : V) (n : Int) : (walkF v n).lookup ("kept" : Str) = some (.int n) := rfl
theorem walkF_putS (v v' : V) (n : Int) : putF "steps" v' (walkF v n) = walkF v' n := by
  show (if ("steps" : Str) = "steps" then _ else _) = _
  rw [if_pos rfl]
  rfl
theorem walkF_putK (v : V) (n n' : Int) : putF "kept" (.int n') (walkF v n) = walkF v n' := by
  show (if ("steps" : Str) = "kept" then _ else (("steps" : Str), v) :: (if ("kept" : Str) = "kept" then _ else _)) = _
  rw [if_neg (by decide +kernel), if_pos rfl]
  rfl
/-- x.steps, x.kept -/
def eFldS (i : Nat) : List Sl → Mo PD := fun Γ g => match getW Γ[i]? g with
  | some (_, w) => .ok (.tuple w.1) g
  | none => .bad
def eFldK (i : Nat) : List Sl → Mo PD := fun Γ g => match getW Γ[i]? g with
  | some (_, w) => .ok (.int w.2) g
  | none => .bad
theorem de_fldS (i : Nat) {x : Str} {p1 pos : Pos} (ok : c.Ok k) (wc : WkC c.X.K c.p.C) (hN : c.X.N[i]? = some x := by rfl) (hv : Vis c.X.env.scope x := by first | exact Or.inl rfl | exact Or.inr (Or.inl rfl) | exact Or.inr (Or.inr rfl)) (hd : (x == ("__debug__" : Str)) = false := by decide) (hcd : (x == ("__classdict__" : Str)) = false := by decide)
    (hb : attributeBase (.Name x p1) "steps" c.X.env (eval (.Name x p1) c.X.env) = eval (.Name x p1) c.X.env := by rfl) : DE c (.Attribute (.Name x p1) "steps" pos) (eFldS i) :=
  PE.imp (pe_fld (pe_var hN hv hd hcd) hb) fun σ H Q q => by
    obtain ⟨L0, H0, L, g, Γ, fr, po⟩ := q
    unfold eFldS at po
    cases e : getW Γ[i]? g with
    | none => rw [e] at po; exact po.elim
    | some x =>
      obtain ⟨j, w⟩ := x
      rw [e] at po
      obtain ⟨h1, h2⟩ := getW_some e
      obtain ⟨a, e2, ha⟩ := fr.obj h1
      obtain ⟨dx, v, m1, m2, m3, m4⟩ := fr.rel.wk ha h2
      exact ⟨_, e2, a, c.p.C, dx, _, v, rfl, fr.rel.m _ _ m1, wc.cl, wc.nS, walkF_S v w.2, po L H (Stp.refl fr.rel) fr.rel v m3⟩
theorem de_fldK (i : Nat) {x : Str} {p1 pos : Pos} (ok : c.Ok k) (wc : WkC c.X.K c.p.C) (hN : c.X.N[i]? = some x := by rfl) (hv : Vis c.X.env.scope x := by first | exact Or.inl rfl | exact Or.inr (Or.inl rfl) | exact Or.inr (Or.inr rfl)) (hd : (x == ("__debug__" : Str)) = false := by decide) (hcd : (x == ("__classdict__" : Str)) = false := by decide)
    (hb : attributeBase (.Name x p1) "kept" c.X.env (eval (.Name x p1) c.X.env) = eval (.Name x p1) c.X.env := by rfl) : DE c (.Attribute (.Name x p1) "kept" pos) (eFldK i) :=
  PE.imp (pe_fld (pe_var hN hv hd hcd) hb) fun σ H Q q => by
    obtain ⟨L0, H0, L, g, Γ, fr, po⟩ := q
    unfold eFldK at po
    cases e : getW Γ[i]? g with
    | none => rw [e] at po; exact po.elim
    | some x =>
      obtain ⟨j, w⟩ := x
      rw [e] at po
      obtain ⟨h1, h2⟩ := getW_some e
      obtain ⟨a, e2, ha⟩ := fr.obj h1
      obtain ⟨dx, v, m1, m2, m3, m4⟩ := fr.rel.wk ha h2
      exact ⟨_, e2, a, c.p.C, dx, _, _, rfl, fr.rel.m _ _ m1, wc.cl, wc.nK, walkF_K v w.2, po L H (Stp.refl fr.rel) fr.rel _ (.int _)⟩
/-- a walker is changed -/
theorem Rel.wkUp (rel : Rel p L g H) {j : Nat} {a dx : Addr} {v v' : V} {n : Int} {w' : List PD × Int} (ha : L.oa[j + 2]? = some a) (m1 : L.M a = some (.ins p.C dx (walkF v n))) (m2 : L.M dx = some (.own a)) (hd : Dq L.S v' (.tuple w'.1)) (hp : plainA w'.1 = true) :
    Stp L H { L with M := upd L.M a (.ins p.C dx (walkF v' w'.2)) } (upd H a (.ins p.C dx (walkF v' w'.2))) ∧ Rel p { L with M := upd L.M a (.ins p.C dx (walkF v' w'.2)) } { g with ws := g.ws.set j w' } (upd H a (.ins p.C dx (walkF v' w'.2))) := by
  generalize ho : (.ins p.C dx (walkF v' w'.2) : HO) = o
  have hMne : L.M a ≠ none := by rw [m1]; exact fun z => nomatch z
  have hS : L.S a = none := opt_none fun q => hMne (rel.sm a q)
  refine ⟨⟨Same.refl _, List.prefix_refl _, fun b u hb e => ?_, fun b hb => .inl hb, fun b hb => ?_, fun b hb => ?_⟩, ⟨fun b u e => ?_, fun b u e => ?_, fun b hb => ?_, ⟨?_, rel.gi.nd, ?_, ?_, fun i w b hw hb => ?_⟩⟩⟩
  · have : b ≠ a := fun z => by subst z; exact hMne hb
    rw [upd_ne this]; exact e
  · have hb' : upd L.M a o b ≠ none := hb
    by_cases z : b = a
    · subst z; exact .inl hMne
    · rw [upd_ne z] at hb'; exact .inl hb'
  · by_cases z : b = a
    · subst z; rw [upd_same]; exact fun z => nomatch z
    · rw [upd_ne z]; exact rel.mh hb
  · have : b ≠ a := fun z => by subst z; have e' : L.S b = some u := e; rw [hS] at e'; cases e'
    rw [upd_ne this]; exact rel.s b u e
  · have e' : upd L.M a o b = some u := e
    by_cases z : b = a
    · subst z; rw [upd_same] at e' ⊢; exact e'
    · rw [upd_ne z] at e' ⊢; exact rel.m b u e'
  · show upd L.M a o b = none
    have z : b ≠ a := fun z => by subst z; exact hb hS
    rw [upd_ne z]; exact rel.sm b hb
  · show L.oa.length = (g.ws.set j w').length + 2
    rw [List.length_set]; exact rel.gi.len
  · obtain ⟨b, hb, hq⟩ := rel.gi.town
    refine ⟨b, hb, ?_⟩
    have z : b ≠ a := fun z => by subst z; rw [m1] at hq; cases hq
    show upd L.M a o b = _
    rw [upd_ne z]; exact hq
  · obtain ⟨b, hb, hq⟩ := rel.gi.scr
    refine ⟨b, hb, ?_⟩
    rcases hq with ⟨u, hq⟩ | hq
    · have z : b ≠ a := fun z => by subst z; rw [m1] at hq; cases hq
      exact .inl ⟨u, by show upd L.M a o b = _; rw [upd_ne z]; exact hq⟩
    · exact .inr hq
  · have hdx : dx ≠ a := fun z => by subst z; rw [m1] at m2; cases m2
    rcases set_get hw with ⟨rfl, rfl, _⟩ | ⟨hij, hw⟩
    · have hb : L.oa[j + 2]? = some b := hb
      rw [ha] at hb
      cases hb
      subst ho
      exact ⟨dx, v', upd_same, by show upd L.M a _ dx = _; rw [upd_ne hdx]; exact m2, hd, hp⟩
    · obtain ⟨dy, u, r1, r2, r3, r4⟩ := rel.gi.wk i w b hw hb
      have z1 : b ≠ a := fun z => by
        subst z
        have hb : L.oa[i + 2]? = some b := hb
        have hn := rel.gi.nd
        have h1 : (L.oa.drop 2)[i]? = some b := by rw [List.getElem?_drop, Nat.add_comm]; exact hb
        have h2 : (L.oa.drop 2)[j]? = some b := by rw [List.getElem?_drop, Nat.add_comm]; exact ha
        obtain ⟨l1, e1⟩ := List.getElem?_eq_some_iff.mp h1
        obtain ⟨l2, e2⟩ := List.getElem?_eq_some_iff.mp h2
        have pw := List.pairwise_iff_getElem.mp hn
        rcases Nat.lt_or_gt_of_ne hij with q | q
        · exact pw j i l2 l1 q (e2.trans e1.symm)
        · exact pw i j l1 l2 q (e1.trans e2.symm)
      have z2 : dy ≠ a := fun z => by subst z; rw [m1] at r2; cases r2
      exact ⟨dy, u, by show upd L.M a o b = _; rw [upd_ne z1]; exact r1, by show upd L.M a o dy = _; rw [upd_ne z2]; exact r2, r3, r4⟩
/-- x.steps = e, x.kept = e -/
def asT : PD → Option (List PD)
  | .tuple ds => if plainA ds = true then some ds else none
  | _ => none
def sSetS (i : Nat) (f : List Sl → Mo PD) : List Sl → Mo Fl := fun Γ => bnd (f Γ) fun d g => match getW Γ[i]? g, asT d with
  | some (j, w), some ds => .ok (.next Γ) { g with ws := g.ws.set j (ds, w.2) }
  | _, _ => .bad
def sSetK (i : Nat) (f : List Sl → Mo PD) : List Sl → Mo Fl := fun Γ => bnd (f Γ) fun d g => match getW Γ[i]? g, d with
  | some (j, w), .int n => .ok (.next Γ) { g with ws := g.ws.set j (w.1, n) }
  | _, _ => .bad
theorem ds_setS (i : Nat) {x : Str} {e : Expr} {f : List Sl → Mo PD} {p1 pos' pos : Pos} (ok : c.Ok k) (wc : WkC c.X.K c.p.C) (he : DE c e f) (hN : c.X.N[i]? = some x := by rfl) (hv : Vis c.X.env.scope x := by first | exact Or.inl rfl | exact Or.inr (Or.inl rfl) | exact Or.inr (Or.inr rfl)) (hd : (x == ("__debug__" : Str)) = false := by decide) (hcd : (x == ("__classdict__" : Str)) = false := by decide)
    (hs : swapsWith e (some (.Attribute (.Name x p1) "steps" pos')) pos.line c.X.env = pure false := by rfl) : DS c (.Assign [.Attribute (.Name x p1) "steps" pos'] e pos) (sSetS i f) :=
  PS.imp (ps_fld (pe_var hN hv hd hcd) he hs) fun D σ H q => by
    obtain ⟨L0, H0, L, g, Γ, fr, po⟩ := q
    have po := PostS.bind fr po
    refine ⟨L0, H0, L, g, Γ, fr, po.mono fun d g1 L1 H1 st1 rel1 po1 v hv => ?_⟩
    have fr1 := fr.step st1 rel1
    cases e : getW Γ[i]? g1 with
    | none => rw [e] at po1; exact po1.elim
    | some x =>
      obtain ⟨j, w⟩ := x
      cases ed : asT d with
      | none => rw [e, ed] at po1; exact po1.elim
      | some ds =>
        rw [e, ed] at po1
        obtain ⟨h1, h2⟩ := getW_some e
        obtain ⟨a, e2, ha⟩ := fr1.obj h1
        obtain ⟨dx, v0, m1, m2, m3, m4⟩ := fr1.rel.wk ha h2
        have hds : d = .tuple ds ∧ plainA ds = true := by
          cases d with
          | tuple es =>
            obtain ⟨hb, rfl⟩ := if_some ed
            exact ⟨rfl, hb⟩
          | none => cases ed
          | bool _ => cases ed
          | int _ => cases ed
          | str _ => cases ed
          | list _ => cases ed
          | dict _ => cases ed
        obtain ⟨rfl, hp⟩ := hds
        obtain ⟨st2, rel2⟩ := rel1.wkUp (w' := (ds, w.2)) ha m1 m2 hv hp
        refine ⟨_, e2, a, c.p.C, dx, _, rfl, rel1.m _ _ m1, wc.cl, wc.nS, by show 2 < 1000; decide, ?_⟩
        rw [walkF_putS]
        exact po1 _ σ _ (fr1.step st2 rel2) (Same.refl _)
theorem ds_setK (i : Nat) {x : Str} {e : Expr} {f : List Sl → Mo PD} {p1 pos' pos : Pos} (ok : c.Ok k) (wc : WkC c.X.K c.p.C) (he : DE c e f) (hN : c.X.N[i]? = some x := by rfl) (hv : Vis c.X.env.scope x := by first | exact Or.inl rfl | exact Or.inr (Or.inl rfl) | exact Or.inr (Or.inr rfl)) (hd : (x == ("__debug__" : Str)) = false := by decide) (hcd : (x == ("__classdict__" : Str)) = false := by decide)
    (hs : swapsWith e (some (.Attribute (.Name x p1) "kept" pos')) pos.line c.X.env = pure false := by rfl) : DS c (.Assign [.Attribute (.Name x p1) "kept" pos'] e pos) (sSetK i f) :=
  PS.imp (ps_fld (pe_var hN hv hd hcd) he hs) fun D σ H q => by
    obtain ⟨L0, H0, L, g, Γ, fr, po⟩ := q
    have po := PostS.bind fr po
    refine ⟨L0, H0, L, g, Γ, fr, po.mono fun d g1 L1 H1 st1 rel1 po1 v hv => ?_⟩
    have fr1 := fr.step st1 rel1
    cases e : getW Γ[i]? g1 with
    | none => rw [e] at po1; exact po1.elim
    | some x =>
      obtain ⟨j, w⟩ := x
      rw [e] at po1
      cases hv with
      | int n =>
        obtain ⟨h1, h2⟩ := getW_some e
        obtain ⟨a, e2, ha⟩ := fr1.obj h1
        obtain ⟨dx, v0, m1, m2, m3, m4⟩ := fr1.rel.wk ha h2
        obtain ⟨st2, rel2⟩ := rel1.wkUp (w' := (w.1, n)) ha m1 m2 m3 m4
        refine ⟨_, e2, a, c.p.C, dx, _, rfl, rel1.m _ _ m1, wc.cl, wc.nK, by show 2 < 1000; decide, ?_⟩
        rw [walkF_putK]
        exact po1 _ σ _ (fr1.step st2 rel2) (Same.refl _)
      | non => exact po1.elim
      | bl _ => exact po1.elim
      | str _ => exact po1.elim
      | lst _ _ => exact po1.elim
      | tup _ _ _ => exact po1.elim

/-! ### methods -/
structure FnMt (P : Program) (w : World) (K : PySem.W.Frag) (mg : Str → Option Value) (base : Heap) (p : Pm) (k : Nat) (m : Str) (F : List Sl → Mo PD) : Prop where
  ex : ∃ f fd ps, FnOk P w K mg base (L2N.CX P w) k f fd ps (spF p F) ∧ Meth K p.C m f ∧ Binds K fd ps []
  no : ∀ (v : V) (n : Int), (walkF v n).lookup m = none
theorem FnMt.mono {P : Program} {w : World} {K : PySem.W.Frag} {mg : Str → Option Value} {base : Heap} {p : Pm} {j k : Nat} {m : Str} {F : List Sl → Mo PD} (h : FnMt P w K mg base p j m F) (e : j ≤ k) : FnMt P w K mg base p k m F := by
  obtain ⟨⟨f, fd, ps, h1, h2, h3⟩, no⟩ := h
  exact ⟨⟨f, fd, ps, h1.mono e, h2, h3⟩, no⟩
/-- x.m(..) -/
def eMeth (F : List Sl → Mo PD) (i : Nat) (fa : List Sl → Mo (List Sl)) : List Sl → Mo PD := fun Γ g => match getW Γ[i]? g with
  | some (j, _) => bnd (fa Γ) (fun as => F (.obj (j + 2) :: as)) g
  | none => .bad
theorem meth_of {F : List Sl → Mo PD} {i : Nat} {fa : List Sl → Mo (List Sl)} {m : Str} {σ : St} {H : Hp} {Q : VK} (no : ∀ (v : V) (n : Int), (walkF v n).lookup m = none) (q : tE c.p c.W (eMeth F i fa) σ H Q) :
    ∃ v, σ[i]? = some (some v) ∧ ∃ a dx fs, v = .ref a ∧ H a = some (.ins c.p.C dx fs) ∧ fs.lookup m = none ∧ tAs c.p c.W fa σ H fun vs H2 => spF c.p F (v :: vs) H2 Q (WE c.W σ) := by
  obtain ⟨L0, H0, L, g, Γ, fr, po⟩ := q
  unfold eMeth at po
  cases e : getW Γ[i]? g with
  | none => rw [e] at po; exact po.elim
  | some x =>
    obtain ⟨j, w⟩ := x
    rw [e] at po
    obtain ⟨h1, h2⟩ := getW_some e
    obtain ⟨a, e2, ha⟩ := fr.obj h1
    obtain ⟨dx, v, m1, m2, m3, m4⟩ := fr.rel.wk ha h2
    refine ⟨_, e2, a, dx, _, rfl, fr.rel.m _ _ m1, no v w.2, ?_⟩
    have po : Post c.p c.W σ L H (fun d _ L' H' => ∀ v, Dq L'.S v d → Q v H') (bnd (fa Γ) (fun as => F (.obj (j + 2) :: as)) g) := po
    have po := Post.bind po
    refine ⟨L0, H0, L, g, Γ, fr, po.mono fun as g1 L1 H1 st1 rel1 po1 vs hvs => ⟨L1, g1, .obj (j + 2) :: as, rel1, .cons ⟨a, rfl, prefix_get st1.oa ha⟩ hvs, ?_⟩⟩
    cases e3 : F (.obj (j + 2) :: as) g1 with
    | ok d g2 => rw [e3] at po1; exact po1
    | exc i g2 => rw [e3] at po1; exact po1
    | bad => rw [e3] at po1; exact po1
theorem de_meth (i : Nat) {x m : Str} {F : List Sl → Mo PD} {e : Expr} {es : List Expr} {fa : List Sl → Mo (List Sl)} {p1 apos pos : Pos} {pl : Sem Bool} (ok : c.Ok k) (wc : WkC c.X.K c.p.C) (fn : FnMt c.X.prog c.X.w c.X.K c.X.mg c.X.base c.p k m F) (ha : DAs c (e :: es) fa) (hN : c.X.N[i]? = some x := by rfl)
    (hv : Vis c.X.env.scope x := by first | exact Or.inl rfl | exact Or.inr (Or.inl rfl) | exact Or.inr (Or.inr rfl)) (hd : (x == ("__debug__" : Str)) = false := by decide) (hcd : (x == ("__classdict__" : Str)) = false := by decide)
    (hst : starEach (e :: es) c.X.env = (false, eval e c.X.env) :: starEach es c.X.env := by rfl) (hpl : (backTo pos (starEach es c.X.env)).any (·.1) = false := by rfl)
    (ht : eval (.Call (.Attribute (.Name x p1) m apos) (e :: es) [] pos) c.X.env = (do let ov ← eval (.Name x p1) c.X.env; standAt apos.atName; let (f, first) ← holding [ov] (getMethod ov m pl); callWith pos f first (backTo pos (starEach (e :: es) c.X.env)) (backToKw pos (keywordEach [] c.X.env))) := by rfl) :
    DE c (.Call (.Attribute (.Name x p1) m apos) (e :: es) [] pos) (eMeth F i fa) := by
  obtain ⟨f, fd, ps, FO, hm, hb⟩ := fn.ex
  exact PE.imp (pe_methW (pe_var hN hv hd hcd) wc.cl hm FO ok.rm hb (fun σ => L2N.passAt ok.tk σ) ha hst hpl ht) fun σ H Q q => meth_of fn.no q
theorem de_meth0 (i : Nat) {x m : Str} {F : List Sl → Mo PD} {p1 apos pos : Pos} {pl : Sem Bool} (ok : c.Ok k) (wc : WkC c.X.K c.p.C) (fn : FnMt c.X.prog c.X.w c.X.K c.X.mg c.X.base c.p k m F) (hN : c.X.N[i]? = some x := by rfl)
    (hv : Vis c.X.env.scope x := by first | exact Or.inl rfl | exact Or.inr (Or.inl rfl) | exact Or.inr (Or.inr rfl)) (hd : (x == ("__debug__" : Str)) = false := by decide) (hcd : (x == ("__classdict__" : Str)) = false := by decide)
    (ht : eval (.Call (.Attribute (.Name x p1) m apos) [] [] pos) c.X.env = (do let ov ← eval (.Name x p1) c.X.env; standAt apos.atName; let (f, first) ← holding [ov] (getMethod ov m pl); callWith pos f first (backTo pos (starEach [] c.X.env)) (backToKw pos (keywordEach [] c.X.env))) := by rfl) :
    DE c (.Call (.Attribute (.Name x p1) m apos) [] [] pos) (eMeth F i sNil) := by
  obtain ⟨f, fd, ps, FO, hm, hb⟩ := fn.ex
  refine PE.imp (pe_meth0W (pe_var hN hv hd hcd) wc.cl hm FO ok.rm hb (fun σ => L2N.passAt ok.tk σ) ht) fun σ H Q q => ?_
  obtain ⟨v, e1, a, dx, fs, e2, e3, e4, q⟩ := meth_of fn.no q
  refine ⟨v, e1, a, dx, fs, e2, e3, e4, ?_⟩
  obtain ⟨L0, H0, L, g, Γ, fr, po⟩ := q
  exact po.pure fr.rel [] .nil
/-! ### a new walker -/
def spInit (p : Pm) : Sp := fun vs H Q _ => ∃ a dx, vs = [.ref a] ∧ H a = some (.ins p.C dx []) ∧ ∀ t o, H t = none → o.dict = none → Q .non (upd (upd (upd H t (.frz o (.tup []))) a (.ins p.C dx [("steps", .ref t)])) a (.ins p.C dx (walkF (.ref t) 0)))
theorem init_put (v : V) : putF "kept" (.int 0) [(("steps" : Str), v)] = walkF v 0 := by
  show (if ("steps" : Str) = "kept" then _ else (("steps" : Str), v) :: [(("kept" : Str), V.int 0)]) = _
  rw [if_neg (by decide +kernel)]
  rfl
theorem init_of {P : Program} {w : World} {K : PySem.W.Frag} {mg : Str → Option Value} {base : Heap} {st : Stmt} {f : Addr} {fd : FuncData} {k : Nat} {p : Pm} {x qual : Str} {p1 p2 p3 p4 p5 p6 p7 p8 : Pos} {kk j : Nat} (F : Fun K x qual st f fd) (S : FnScope ["self"] ["self"] (defScope st)) (wc : WkC K p.C)
    (hbody : defBody st = [.Assign [.Attribute (.Name "self" p1) "steps" p2] (.Tuple [] kk p3) p4, .Assign [.Attribute (.Name "self" p5) "kept" p6] (.Constant (.int 0) j p7) p8])
    (hvis : Vis (defScope st) "self") (hs1 : ∀ env, swapsWith (.Tuple [] kk p3) (some (.Attribute (.Name "self" p1) "steps" p2)) p4.line env = pure false) (hs2 : ∀ env, swapsWith (.Constant (.int 0) j p7) (some (.Attribute (.Name "self" p5) "kept" p6)) p8.line env = pure false) :
    FnOk P w K mg base (L2N.CX P w) (k + 1) f fd ["self"] (spInit p) := by
  refine fnOkN F S (fun vs H Q E h => ?_) fun cdv A outer s H vs Q E hr h => ⟨tSeq (sFld K (tVar 0) (tTupF tNil) "steps") (sFld K (tVar 0) (tC (.int 0)) "kept"), ?_, ?_⟩
  rotate_left
  · rw [hbody]
    exact pss_cons (ps_fld (pe_var (i := 0) rfl hvis (by decide) (by decide)) (pe_tupF pa_nil) (hs1 _)) (pss_one (ps_fld (pe_var (i := 0) rfl hvis (by decide) (by decide)) pe_int (hs2 _)))
  · obtain ⟨a, dx, rfl, ha, q⟩ := h
    refine ⟨Nat.zero_le _, fun t o ht hN => ⟨.ref a, rfl, a, p.C, dx, [], rfl, ?_, wc.cl, wc.nS, by show 0 < 1000; decide, ?_⟩⟩
    · rw [upd_ne (ne_of_none ha ht)]; exact ha
    · refine ⟨.ref a, rfl, a, p.C, dx, [("steps", .ref t)], rfl, upd_same, wc.cl, wc.nK, by show 1 < 1000; decide, ?_⟩
      rw [init_put]
      exact q t o ht hN
  · obtain ⟨a, dx, rfl, _⟩ := h
    rfl
theorem Rel.wkNew (rel : Rel p L g H) {x dx t : Addr} {o : Obj} (hx : H x = none) (hdx : H dx = none) (hne : dx ≠ x) (ht : upd (upd H dx (.own x)) x (.ins p.C dx []) t = none) (hN : o.dict = none) {o1 o2 : HO} :
    Stp L H ⟨upd L.S t (.frz o (.tup [])), upd (upd L.M dx (.own x)) x (.ins p.C dx (walkF (.ref t) 0)), L.oa ++ [x]⟩ (upd (upd (upd (upd (upd H dx (.own x)) x o1) t (.frz o (.tup []))) x o2) x (.ins p.C dx (walkF (.ref t) 0))) ∧
    Rel p ⟨upd L.S t (.frz o (.tup [])), upd (upd L.M dx (.own x)) x (.ins p.C dx (walkF (.ref t) 0)), L.oa ++ [x]⟩ { g with ws := g.ws ++ [([], 0)] } (upd (upd (upd (upd (upd H dx (.own x)) x o1) t (.frz o (.tup []))) x o2) x (.ins p.C dx (walkF (.ref t) 0))) := by
  have tx : t ≠ x := fun z => by subst z; rw [upd_same] at ht; cases ht
  have td : t ≠ dx := fun z => by subst z; rw [upd_ne tx, upd_same] at ht; cases ht
  have hH : H t = none := by rw [upd_ne tx, upd_ne td] at ht; exact ht
  generalize hh : upd (upd (upd (upd (upd H dx (.own x)) x o1) t (.frz o (.tup []))) x o2) x (.ins p.C dx (walkF (.ref t) 0)) = H'
  have ax : H' x = some (.ins p.C dx (walkF (.ref t) 0)) := by rw [← hh, upd_same]
  have at_ : H' t = some (.frz o (.tup [])) := by rw [← hh, upd_ne tx, upd_ne tx, upd_same]
  have ad : H' dx = some (.own x) := by rw [← hh, upd_ne hne, upd_ne hne, upd_ne (Ne.symm td), upd_ne hne, upd_same]
  have ab : ∀ b, b ≠ x → b ≠ t → b ≠ dx → H' b = H b := fun b b1 b2 b3 => by rw [← hh, upd_ne b1, upd_ne b1, upd_ne b2, upd_ne b1, upd_ne b3]
  have sx := rel.sq hx
  have sd := rel.sq hdx
  have sT := rel.sq hH
  have mx' := rel.mq hx
  have md := rel.mq hdx
  have mt := rel.mq hH
  clear hh
  have old : ∀ (b : Addr) (u : HO), H b = some u → H' b = some u := fun b u e => by
    rw [ab b (ne_of_none e hx) (ne_of_none e hH) (ne_of_none e hdx)]; exact e
  have Mold : ∀ (b : Addr) (u : HO), L.M b = some u → upd (upd L.M dx (.own x)) x (.ins p.C dx (walkF (.ref t) 0)) b = some u := fun b u e => by
    rw [upd_ne (ne_of_none e mx'), upd_ne (ne_of_none e md)]; exact e
  refine ⟨⟨same_new sT, List.prefix_append _ _, fun b u _ e => old b u e, fun b hb => ?_, fun b hb => ?_, fun b hb => ?_⟩, ⟨fun b u e => ?_, fun b u e => ?_, fun b hb => ?_, ⟨?_, ?_, ?_, ?_, fun i w b hw hb => ?_⟩⟩⟩
  · have hb' : upd L.S t (.frz o (.tup [])) b ≠ none := hb
    by_cases z : b = t
    · subst z; exact .inr hH
    · rw [upd_ne z] at hb'; exact .inl hb'
  · have hb' : upd (upd L.M dx (.own x)) x (.ins p.C dx (walkF (.ref t) 0)) b ≠ none := hb
    by_cases z : b = x
    · subst z; exact .inr hx
    · rw [upd_ne z] at hb'
      by_cases z2 : b = dx
      · subst z2; exact .inr hdx
      · rw [upd_ne z2] at hb'; exact .inl hb'
  · obtain ⟨u, e⟩ := opt_some (rel.mh hb)
    rw [old b u e]
    exact fun z => nomatch z
  · have e' : upd L.S t (.frz o (.tup [])) b = some u := e
    by_cases z : b = t
    · subst z; rw [upd_same] at e'; rw [at_]; exact e'
    · rw [upd_ne z] at e'; exact old b u (rel.s b u e')
  · have e' : upd (upd L.M dx (.own x)) x (.ins p.C dx (walkF (.ref t) 0)) b = some u := e
    by_cases z : b = x
    · subst z; rw [upd_same] at e'; rw [ax]; exact e'
    · rw [upd_ne z] at e'
      by_cases z2 : b = dx
      · subst z2; rw [upd_same] at e'; rw [ad]; exact e'
      · rw [upd_ne z2] at e'; exact old b u (rel.m b u e')
  · have hb' : upd L.S t (.frz o (.tup [])) b ≠ none := hb
    show upd (upd L.M dx (.own x)) x (.ins p.C dx (walkF (.ref t) 0)) b = none
    by_cases z : b = t
    · subst z; rw [upd_ne tx, upd_ne td]; exact mt
    · rw [upd_ne z] at hb'
      have b1 : b ≠ x := fun z => by subst z; exact hb' sx
      have b2 : b ≠ dx := fun z => by subst z; exact hb' sd
      rw [upd_ne b1, upd_ne b2]; exact rel.sm b hb'
  · show (L.oa ++ [x]).length = (g.ws ++ [([], 0)]).length + 2
    rw [List.length_append, List.length_append, rel.gi.len]
    rfl
  · show ((L.oa ++ [x]).drop 2).Nodup
    rw [List.drop_append_of_le_length (by rw [rel.gi.len]; omega)]
    refine List.nodup_append.mpr ⟨rel.gi.nd, (by simp), fun a ha b hb => ?_⟩
    rw [List.mem_singleton] at hb
    subst hb
    intro z
    subst z
    obtain ⟨i, hi, e⟩ := List.getElem_of_mem ha
    have e1 : (L.oa.drop 2)[i]? = some a := by rw [List.getElem?_eq_getElem hi, e]
    rw [List.getElem?_drop, Nat.add_comm] at e1
    have hi2 : i < g.ws.length := by
      have := (List.getElem?_eq_some_iff.mp e1).1
      rw [rel.gi.len] at this
      omega
    obtain ⟨dy, u, r1, _⟩ := rel.gi.wk i _ a (List.getElem?_eq_getElem hi2) e1
    rw [mx'] at r1
    cases r1
  · obtain ⟨b, hb, hq⟩ := rel.gi.town
    exact ⟨b, prefix_get (List.prefix_append _ _) hb, Mold _ _ hq⟩
  · obtain ⟨b, hb, hq⟩ := rel.gi.scr
    refine ⟨b, prefix_get (List.prefix_append _ _) hb, ?_⟩
    rcases hq with ⟨u, hq⟩ | hq
    · exact .inl ⟨u, Mold _ _ hq⟩
    · exact .inr hq
  · have hw : (g.ws ++ [([], 0)])[i]? = some w := hw
    have hb : (L.oa ++ [x])[i + 2]? = some b := hb
    by_cases hi : i < g.ws.length
    · rw [List.getElem?_append_left hi] at hw
      rw [List.getElem?_append_left (by rw [rel.gi.len]; omega)] at hb
      obtain ⟨dy, u, r1, r2, r3, r4⟩ := rel.gi.wk i w b hw hb
      exact ⟨dy, u, Mold _ _ r1, Mold _ _ r2, r3.mono (same_new sT), r4⟩
    · rw [List.getElem?_append_right (by omega)] at hw
      rw [List.getElem?_append_right (by rw [rel.gi.len]; omega)] at hb
      have hlt := (List.getElem?_eq_some_iff.mp hw).1
      rw [List.length_singleton] at hlt
      have e0 : i - g.ws.length = 0 := by omega
      have e1 : i + 2 - L.oa.length = 0 := by rw [rel.gi.len]; omega
      rw [e0] at hw
      rw [e1] at hb
      cases hw
      cases hb
      exact ⟨dx, .ref t, upd_same, by show upd (upd L.M dx (.own x)) x _ dx = _; rw [upd_ne hne, upd_same], .tup upd_same .nil hN, rfl⟩
theorem FR.setObj (fr : FR p L0 H0 L g Γ σ H) (i : Nat) {a : Addr} {n : Nat} (h : L.oa[n]? = some a) : FR p L0 H0 L g (Γ.set i (.obj n)) (σ.set i (some (.ref a))) H := by
  refine ⟨fr.rel, fr.st, by rw [List.length_set, List.length_set]; exact fr.len, fun j s o h1 h2 => ?_, fun j k ds es b hjk h1 h2 h3 => ?_⟩
  · rcases set_get h1 with ⟨rfl, rfl, hi⟩ | ⟨hij, h1⟩
    · rcases set_get h2 with ⟨_, rfl, _⟩ | ⟨z, _⟩
      · exact ⟨a, rfl, h⟩
      · exact absurd rfl z
    · rcases set_get h2 with ⟨z, _, _⟩ | ⟨_, h2⟩
      · exact absurd z hij
      · exact fr.sl j s o h1 h2
  · rcases set_get h1 with ⟨_, z, _⟩ | ⟨ij, h1⟩
    · cases z
    rcases set_get h2 with ⟨_, z, _⟩ | ⟨ik, h2⟩
    · cases z
    rcases set_get h3 with ⟨z, _, _⟩ | ⟨_, h3⟩
    · exact absurd z ij
    rw [List.getElem?_set_ne ik]
    exact fr.dis j k ds es b hjk h1 h2 h3
structure FnNew (P : Program) (w : World) (K : PySem.W.Frag) (mg : Str → Option Value) (base : Heap) (p : Pm) (k : Nat) : Prop where
  ex : ∃ f fd, Mk K p.C f ∧ FnOk P w K mg base (L2N.CX P w) k f fd ["self"] (spInit p) ∧ mg "Walker" = some (.ref p.C) ∧ Binds K fd ["self"] []
theorem FnNew.mono {P : Program} {w : World} {K : PySem.W.Frag} {mg : Str → Option Value} {base : Heap} {p : Pm} {j k : Nat} (h : FnNew P w K mg base p j) (e : j ≤ k) : FnNew P w K mg base p k := by
  obtain ⟨f, fd, h1, h2, h3, h4⟩ := h.ex
  exact ⟨f, fd, h1, h2.mono e, h3, h4⟩
theorem passF {X : Cx} : Passes (L2N.CX X.prog X.w) X (fun _ _ _ => False) := fun pins σ H s e s' I q => L2N.passAt (W := fun _ _ _ _ => False) takes0N σ pins H s e s' I q
theorem pe_new {pos pp : Pos} (ok : c.Ok (k + 1)) (fn : FnNew c.X.prog c.X.w c.X.K c.X.mg c.X.base c.p k) (hg : Gl c.X "Walker") : PE c.X (.Call (.Name "Walker" pp) [] [] pos) (tMake c.p.C (spInit c.p) [] (fun _ _ _ => False) tNil) := by
  obtain ⟨f, fd, M, F, hm, hb⟩ := fn.ex
  exact pe_make0 M F ok.rm hg hm hb .nil passF
/-- x = Walker() -/
def newG (g : G) : G := { g with ws := g.ws ++ [([], 0)] }
def sNew (i : Nat) : List Sl → Mo Fl := fun Γ g => .ok (.next (Γ.set i (.obj (g.ws.length + 2)))) (newG g)
theorem new_at (rel : Rel p L g H) {x : Addr} : (L.oa ++ [x])[g.ws.length + 2]? = some x := by
  rw [← rel.gi.len, List.getElem?_append_right (Nat.le_refl _), Nat.sub_self]
  rfl
theorem ds_new (i : Nat) {x : Str} {pp pos pos' spos : Pos} (ok : c.Ok (k + 1)) (fn : FnNew c.X.prog c.X.w c.X.K c.X.mg c.X.base c.p k) (hg : Gl c.X "Walker" := by rfl) (hi : c.X.N[i]? = some x := by rfl) (hx : Loc c.X.env.scope x := by first | exact Or.inl rfl | exact Or.inr rfl)
    (hs : swapsWith (.Call (.Name "Walker" pp) [] [] pos) (some (.Name x pos')) spos.line c.X.env = pure false := by rfl) (hf : c.X.fn x = true ∨ c.X.env.scope.names.lookup x = some .local := by first | exact .inl rfl | exact .inr rfl) :
    DS c (.Assign [.Name x pos'] (.Call (.Name "Walker" pp) [] [] pos) spos) (sNew i) :=
  PS.imp (ps_set ok.nd hi hx (pe_new ok fn hg) hs hf) fun D σ H q => by
    obtain ⟨L0, H0, L, g, Γ, fr, po⟩ := q
    intro x dx hx hdx hne
    refine ⟨x, dx, rfl, upd_same, fun t o ht hN => ⟨rfl, ?_⟩⟩
    obtain ⟨st, rel'⟩ := fr.rel.wkNew (o1 := .ins c.p.C dx []) (o2 := .ins c.p.C dx [("steps", .ref t)]) hx hdx hne ht hN
    exact po _ _ _ ((fr.step st rel').setObj i (new_at fr.rel)) st.ss
/-- x, y = Walker(), a new own list -/
def sParNO (i j : Nat) (f : List Sl → Mo (List PD)) : List Sl → Mo Fl := fun Γ g => bnd (f Γ) (fun ds => ret (.next ((Γ.set i (.obj (g.ws.length + 2))).set j (.own ds)))) (newG g)
theorem ds_parNO (i j : Nat) {x y : Str} {b : Expr} {f2 : List Sl → Mo (List PD)} {pp ppos px py pt pt2 pos : Pos} {kt k2 : Nat} (ok : c.Ok (k + 1)) (fn : FnNew c.X.prog c.X.w c.X.K c.X.mg c.X.base c.p k) (hb : DF c b f2) (hg : Gl c.X "Walker" := by rfl) (hi : c.X.N[i]? = some x := by rfl) (hj : c.X.N[j]? = some y := by rfl) (hij : i ≠ j := by decide)
    (hx : c.X.env.scope.names.lookup x = some .local := by rfl) (hy : c.X.env.scope.names.lookup y = some .local := by rfl)
    (hw : swappedStores [.Tuple [.Name x px, .Name y py] kt pt] (.Tuple [.Call (.Name "Walker" pp) [] [] ppos, b] k2 pt2) c.X.env = pure (some [x, y]) := by rfl)
    (hs : swapsWithSole [.Tuple [.Name x px, .Name y py] kt pt] (.Tuple [.Call (.Name "Walker" pp) [] [] ppos, b] k2 pt2) pos.line c.X.env = pure false := by rfl)
    (h1 : starEach [.Call (.Name "Walker" pp) [] [] ppos, b] c.X.env = (false, eval (.Call (.Name "Walker" pp) [] [] ppos) c.X.env) :: starEach [b] c.X.env := by rfl) (h2 : starEach [b] c.X.env = (false, eval b c.X.env) :: starEach [] c.X.env := by rfl) :
    DS c (.Assign [.Tuple [.Name x px, .Name y py] kt pt] (.Tuple [.Call (.Name "Walker" pp) [] [] ppos, b] k2 pt2) pos) (sParNO i j f2) :=
  PS.imp (ps_par ok.cm ok.nd hi hj hij hx hy (pa_cons (pe_new ok fn hg) (pa_cons hb pa_nil h2) h1) hw hs) fun D σ H q => by
    obtain ⟨L0, H0, L, g, Γ, fr, po⟩ := q
    intro x dx hx hdx hne
    refine ⟨x, dx, rfl, upd_same, fun t o ht hN => ⟨rfl, ?_⟩⟩
    obtain ⟨st, rel'⟩ := fr.rel.wkNew (o1 := .ins c.p.C dx []) (o2 := .ins c.p.C dx [("steps", .ref t)]) hx hdx hne ht hN
    have fr1 := fr.step st rel'
    have po1 := PostS.bind fr1 (PostS.up st.ss po)
    refine ⟨L0, H0, _, _, Γ, fr1, po1.mono fun ds g2 L2 H2 st2 rel2 po2 q vs hq hvs => ?_⟩
    have fr2 := (fr1.step st2 rel2).setObj i (prefix_get st2.oa (new_at fr.rel))
    exact ⟨_, _, rfl, PostS.pure po2 (fr2.setOwn j hq hvs)⟩
/-! ### len(x), str(x) -/
def okLen : PD → Option PD
  | .int i => if (decide (0 ≤ i) && decide (i < 1000000)) = true then some (.int i) else none
  | _ => none
def eLenW (F : List Sl → Mo PD) (i : Nat) : List Sl → Mo PD := fun Γ g => match getW Γ[i]? g with
  | some (j, _) => bnd (nx (F [.obj (j + 2)])) (fun d => lift (okLen d)) g
  | none => .bad
def okStr : PD → Option PD
  | .str x => some (.str x)
  | _ => none
def eStrW (F : List Sl → Mo PD) (i : Nat) : List Sl → Mo PD := fun Γ g => match getW Γ[i]? g with
  | some (j, _) => bnd (nx (F [.obj (j + 2)])) (fun d => lift (okStr d)) g
  | none => .bad
theorem own_core {F : List Sl → Mo PD} {i : Nat} {h : PD → Option PD} {σ : St} {H : Hp} {Q : VK} {R : V → Prop} (hR : ∀ (S : Hp) (v : V) (d z : PD), Dq S v d → h d = some z → z = d ∧ R v)
    (q : tE c.p c.W (fun Γ g => match getW Γ[i]? g with
      | some (j, _) => bnd (nx (F [.obj (j + 2)])) (fun d => lift (h d)) g
      | none => .bad) σ H Q) : ∃ v, σ[i]? = some (some v) ∧ ∃ a dx fs, v = .ref a ∧ H a = some (.ins c.p.C dx fs) ∧ spF c.p F [.ref a] H (fun z H' => R z ∧ Q z H') (fun _ _ _ => False) := by
  obtain ⟨L0, H0, L, g, Γ, fr, po⟩ := q
  cases e : getW Γ[i]? g with
  | none => simp only [e] at po; exact po.elim
  | some x =>
    obtain ⟨j, w⟩ := x
    simp only [e] at po
    obtain ⟨h1, h2⟩ := getW_some e
    obtain ⟨a, e2, ha⟩ := fr.obj h1
    obtain ⟨dx, v, m1, m2, m3, m4⟩ := fr.rel.wk ha h2
    have po := Post.bind po
    refine ⟨_, e2, a, dx, _, rfl, fr.rel.m _ _ m1, L, g, [.obj (j + 2)], fr.rel, .cons ⟨a, rfl, ha⟩ .nil, ?_⟩
    refine (Post.nx po).mono fun d g1 L1 H1 st1 rel1 po1 u hu => ?_
    obtain ⟨z, hz, po2⟩ := Post.lift po1 rel1
    obtain ⟨e3, r⟩ := hR _ _ _ _ hu hz
    rw [e3] at po2
    exact ⟨r, po2 L1 H1 (Stp.refl rel1) rel1 u hu⟩
/-- own defs that are found by name: len, str, == -/
structure FnSp (P : Program) (w : World) (K : PySem.W.Frag) (mg : Str → Option Value) (base : Heap) (p : Pm) (k : Nat) (m : Str) (F : List Sl → Mo PD) : Prop where
  ex : ∃ f fd ps, FnOk P w K mg base (L2N.CX P w) k f fd ps (spF p F) ∧ PySem.W.findIn K (.ref p.C) m = some (some (.ref f)) ∧ PySem.W.isFn K (.ref f) = true ∧ Binds K fd ps []
theorem FnSp.mono {P : Program} {w : World} {K : PySem.W.Frag} {mg : Str → Option Value} {base : Heap} {p : Pm} {j k : Nat} {m : Str} {F : List Sl → Mo PD} (h : FnSp P w K mg base p j m F) (e : j ≤ k) : FnSp P w K mg base p k m F := by
  obtain ⟨f, fd, ps, h1, h2, h3, h4⟩ := h.ex
  exact ⟨f, fd, ps, h1.mono e, h2, h3, h4⟩
theorem passA {X : Cx} (σ : St) : PassesAt (L2N.CX X.prog X.w) X σ ((fun _ _ _ _ => False : St → XK) σ) := fun pins H s e s' I q => L2N.passAt (W := fun _ _ _ _ => False) takes0N σ pins H s e s' I q
theorem de_lenW (i : Nat) {x : Str} {F : List Sl → Mo PD} {p1 p2 pos : Pos} (ok : c.Ok (k + 1)) (fn : FnSp c.X.prog c.X.w c.X.K c.X.mg c.X.base c.p k "__len__" F) (hm : c.X.mg "len" = none) (hN : c.X.N[i]? = some x := by rfl)
    (hv : Vis c.X.env.scope x := by first | exact Or.inl rfl | exact Or.inr (Or.inl rfl) | exact Or.inr (Or.inr rfl)) (hg : Gl c.X "len" := by rfl) (hd : (x == ("__debug__" : Str)) = false := by decide) (hcd : (x == ("__classdict__" : Str)) = false := by decide) :
    DE c (.Call (.Name "len" p1) [.Name x p2] [] pos) (eLenW F i) := by
  obtain ⟨f, fd, ps, FO, h1, h2, h3⟩ := fn.ex
  have CR : CallR c.X (.builtin "len") (fun vs H Q => ∃ a dx fs, vs = [.ref a] ∧ H a = some (.ins c.p.C dx fs) ∧ spF c.p F [.ref a] H (fun z H' => (∃ i, z = .int i ∧ 0 ≤ i ∧ i < 1000000) ∧ Q z H') (fun _ _ _ => False)) := by
    intro pins s σ H vs us Q I r h
    obtain ⟨a, dx, fs, rfl, ha, q⟩ := h
    rw [Vals.ref1 r]
    refine len_own (E := fun _ _ _ _ => False) h1 h2 FO ok.rm h3 passA I ha ?_
    obtain ⟨L, g, as, rel, hp, po⟩ := q
    exact ⟨L, g, as, rel, hp, po.mono fun d g' L' H' st' rel' po' v hv => by
      obtain ⟨⟨i, e, i0, i1⟩, q⟩ := po' v hv
      exact ⟨i, e, i0, i1, q⟩⟩
  refine PE.imp (pe_callB CR hg hm PySem.boot_len (pa_cons (pe_var hN hv hd hcd) pa_nil)) fun σ H Q q => ?_
  obtain ⟨v, e1, a, dx, fs, e2, e3, q⟩ := own_core (h := okLen) (R := fun v => ∃ i, v = .int i ∧ 0 ≤ i ∧ i < 1000000) (fun S v d z hv hz => by
    cases hv with
    | int i =>
      obtain ⟨hb, rfl⟩ := if_some hz
      simp only [Bool.and_eq_true, decide_eq_true_eq] at hb
      exact ⟨rfl, i, rfl, hb.1, hb.2⟩
    | non => cases hz
    | bl _ => cases hz
    | str _ => cases hz
    | lst _ _ => cases hz
    | tup _ _ _ => cases hz) q
  subst e2
  exact ⟨_, e1, a, dx, fs, rfl, e3, q⟩
theorem de_strW (i : Nat) {x : Str} {F : List Sl → Mo PD} {p1 p2 pos : Pos} (ok : c.Ok (k + 2)) (fn : FnSp c.X.prog c.X.w c.X.K c.X.mg c.X.base c.p k "__str__" F) (hm : c.X.mg "str" = none) (hN : c.X.N[i]? = some x := by rfl)
    (hv : Vis c.X.env.scope x := by first | exact Or.inl rfl | exact Or.inr (Or.inl rfl) | exact Or.inr (Or.inr rfl)) (hg : Gl c.X "str" := by rfl) (hd : (x == ("__debug__" : Str)) = false := by decide) (hcd : (x == ("__classdict__" : Str)) = false := by decide) :
    DE c (.Call (.Name "str" p1) [.Name x p2] [] pos) (eStrW F i) := by
  obtain ⟨f, fd, ps, FO, h1, h2, h3⟩ := fn.ex
  have CR : CallR c.X (.type "str") (fun vs H Q => ∃ a dx fs, vs = [.ref a] ∧ H a = some (.ins c.p.C dx fs) ∧ spF c.p F [.ref a] H (fun z H' => (∃ i, z = .str i) ∧ Q z H') (fun _ _ _ => False)) := by
    intro pins s σ H vs us Q I r h
    obtain ⟨a, dx, fs, rfl, ha, q⟩ := h
    rw [Vals.ref1 r]
    refine str_own (E := fun _ _ _ _ => False) h1 h2 FO ok.rm h3 passA I ha ?_
    obtain ⟨L, g, as, rel, hp, po⟩ := q
    exact ⟨L, g, as, rel, hp, po.mono fun d g' L' H' st' rel' po' v hv => by
      obtain ⟨⟨i, e⟩, q⟩ := po' v hv
      exact ⟨i, e, q⟩⟩
  refine PE.imp (pe_callTy CR hg hm PyProof.Rows.boot_str (pa_cons (pe_var hN hv hd hcd) pa_nil)) fun σ H Q q => ?_
  obtain ⟨v, e1, a, dx, fs, e2, e3, q⟩ := own_core (h := okStr) (R := fun v => ∃ i, v = .str i) (fun S v d z hv hz => by
    cases hv with
    | str i => cases hz; exact ⟨rfl, i, rfl⟩
    | non => cases hz
    | bl _ => cases hz
    | int _ => cases hz
    | lst _ _ => cases hz
    | tup _ _ _ => cases hz) q
  subst e2
  exact ⟨_, e1, a, dx, fs, rfl, e3, q⟩
/-- str(text) -/
def strD : List PD → Option PD
  | [.str x] => some (.str x)
  | _ => none
theorem calls_str : CallS c (fun xs H Q => ∃ a, xs = [V.str a] ∧ Q (.str a) H) strD := fun L g H vs ds z Q rel hvs hz k => by
  match ds, hz with
  | [.str x], hz =>
    cases hz
    cases hvs with
    | cons hv ht =>
      cases ht
      cases hv
      exact ⟨x, rfl, k _ L H (Stp.refl rel) rel (.str _)⟩
end
/-! ### what the top has left of a class -/
def MAt (K : PySem.W.Frag) (C : Addr) (m qual : Str) (st : Stmt) : Prop := ∃ f fd, Fun K m qual st f fd ∧ Meth K C m f
def NAt (K : PySem.W.Frag) (C : Addr) (m qual : Str) (st : Stmt) : Prop := ∃ f fd, Fun K m qual st f fd ∧ Mk K C f
section
variable {K : PySem.W.Frag} {C : Addr} {m qual : Str} {st : Stmt} {f : Addr} {oc : Value} {od an : Option Addr} {osl : Array (Option Value)} {kV doc pm cdv ct : Value}
theorem mat_mk (a : PySem.W.findIn K (.ref C) m = some (some (.ref f))) (l : K.lookup f = some ⟨oc, od, .func (PySem.W.fnOf m qual (defArgs st) (defBody st) (defScope st) .none kV doc pm an cdv ct), osl⟩) (c : PySem.W.codeIn K cdv qual = true) (k : PySem.W.keepIn K (.ref f) = true) (i : PySem.W.isFn K (.ref f) = true) : MAt K C m qual st :=
  ⟨f, _, fun_mk l c k, a, i, k⟩
theorem nat_mk (a : PySem.W.findIn K (.ref C) "__init__" = some (some (.ref f))) (l : K.lookup f = some ⟨oc, od, .func (PySem.W.fnOf "__init__" qual (defArgs st) (defBody st) (defScope st) .none kV doc pm an cdv ct), osl⟩) (c : PySem.W.codeIn K cdv qual = true) (k : PySem.W.keepIn K (.ref f) = true) (i : PySem.W.isFn K (.ref f) = true) (mk : PySem.W.makesIn K C = true) (kc : PySem.W.keepIn K (.ref C) = true) : NAt K C "__init__" qual st :=
  ⟨f, _, fun_mk l c k, mk, a, i, kc⟩
end
end Av

namespace Lw
open PySem PySem.Spec L2 Av
open PyProof.Rows hiding St
set_option autoImplicit false
def m_is_integer : List Sl → Mo Fl :=
  (sRet (eAnd (eIsi .int (eVar 0)) (eAnd (eNot (eIsi .bool (eVar 0))) (eChain leD leD (eVar 1) (eVar 0) (eVar 2)))))
def F_is_integer : List Sl → Mo PD := runB 3 3 m_is_integer
def m_is_path : List Sl → Mo Fl :=
  (sSeq (sIf (bOr (bNot (eTest (eIsi .tuple (eVar 0)))) (eTest (eBin gtD (eCall lenD (aCons (eVar 0) aNil)) (eC (.int 12))))) (sRet (eC (.bool false))) sNext)
    (sRet (eCall allD (aCons (eLc (iSeq (eVar 0)) (.one 1) tYesM (eAnd (eCallF F_is_integer (sCons (eVar 1) (sCons (eUn negD (eC (.int 1))) (sCons (eC (.int 1)) sNil)))) (eBin neD (eVar 1) (eC (.int 0))))) aNil))))
def F_is_path : List Sl → Mo PD := runB 1 2 m_is_path
def m_check_path : List Sl → Mo Fl :=
  (sIf (bNot (eTest (eCallF F_is_path (sCons (eVar 0) sNil)))) (sRaise 0) sNext)
def F_check_path : List Sl → Mo PD := runB 1 1 m_check_path
def m_heights_of : List Sl → Mo Fl :=
  (sSeq (sOwn 1 (fLst (aCons (eC (.int 0)) aNil)))
    (sSeq (sFor (iSeq (eVar 0)) (.one 2) (sApp 1 (eBor 1 (eBin addD (eBin ixD (eVar 1) (eUn negD (eC (.int 1)))) (eVar 2)))))
    (sFrz 1 (sRet (eVar 1)))))
def F_heights_of : List Sl → Mo PD := runB 1 3 m_heights_of
def m_is_up : List Sl → Mo Fl :=
  (sRet (eBin geD (eCall minE (aCons (eCallF F_heights_of (sCons (eVar 0) sNil)) aNil)) (eC (.int 0))))
def F_is_up : List Sl → Mo PD := runB 1 1 m_is_up
def m_closes : List Sl → Mo Fl :=
  (sRet (eAnd (eCallF F_is_up (sCons (eVar 0) sNil)) (eBin eqD (eCall sumE (aCons (eVar 0) aNil)) (eC (.int 0)))))
def F_closes : List Sl → Mo PD := runB 1 1 m_closes
def m__law_climb : List Sl → Mo Fl :=
  (sSeq (sParVO 1 2 (eC (.int 0)) (fLst (aCons (eC (.int 0)) aNil)))
    (sSeq (sFor (iSeq (eVar 0)) (.one 3) (sSeq (sAug 1 ipAdd (eVar 3))
    (sApp 2 (eVar 1))))
    (sFrz 2 (sRet (eVar 2)))))
def F__law_climb : List Sl → Mo PD := runB 1 4 m__law_climb
def m_choose : List Sl → Mo Fl :=
  (sSeq (sIf (bNot (eTest (eChain leD leD (eC (.int 0)) (eVar 1) (eVar 0)))) (sRet (eC (.int 0))) sNext)
    (sSeq (sAsg 2 (eC (.int 1)))
    (sSeq (sFor (iVia rng1 (aCons (eVar 1) aNil)) (.one 3) (sAsg 2 (eBin fdivD (eBin mulE (eVar 2) (eBin subD (eVar 0) (eVar 3))) (eBin addD (eVar 3) (eC (.int 1))))))
    (sRet (eVar 2)))))
def F_choose : List Sl → Mo PD := runB 2 4 m_choose
def m_check_hill : List Sl → Mo Fl :=
  (sSeq (sDrop (eCallF F_check_path (sCons (eVar 0) sNil)))
    (sIf (bNot (eTest (eCallF F_closes (sCons (eVar 0) sNil)))) (sRaise 5) sNext))
def F_check_hill : List Sl → Mo PD := runB 1 1 m_check_hill
end Lw

namespace Lw
open PySem PySem.Spec L2 Av
set_option autoImplicit false
def tupI (p : List Int) : PD := .tuple (p.map .int)
def lstI (p : List Int) : PD := .list (p.map .int)
section
variable (i j : Int) (b b' : Bool) (ds : List PD)
theorem le_i : leD (.int i) (.int j) = some (.bool (decide (i ≤ j))) := rfl
theorem gt_i : gtD (.int i) (.int j) = some (.bool (decide (j < i))) := rfl
theorem ge_i : geD (.int i) (.int j) = some (.bool (decide (j ≤ i))) := rfl
theorem lt_i : ltD (.int i) (.int j) = some (.bool (decide (i < j))) := rfl
theorem sub_i : subD (.int i) (.int j) = some (.int (i - j)) := rfl
theorem add_i : addD (.int i) (.int j) = some (.int (i + j)) := rfl
theorem ipAdd_i : ipAdd (.int i) (.int j) = some (.int (i + j)) := rfl
theorem ipSub_i : ipSub (.int i) (.int j) = some (.int (i - j)) := rfl
theorem neg_i : negD (.int i) = some (.int (-i)) := rfl
theorem is_b : isD (.bool b) (.bool b') = some (.bool (decide (b = b'))) := rfl
theorem isNot_b : isNotD (.bool b) (.bool b') = some (.bool (!decide (b = b'))) := rfl
theorem asB_b : asB (.bool b) = some b := rfl
theorem asI_i : asI (.int i) = some (some i) := rfl
theorem isi_ii : isiD .int (.int i) = some true := rfl
theorem isi_bi : isiD .bool (.int i) = some false := rfl
theorem isi_bb : isiD .bool (.bool b) = some true := rfl
theorem isi_ib : isiD .int (.bool b) = some true := rfl
theorem isi_ti : isiD .tuple (.int i) = some false := rfl
theorem isi_tt : isiD .tuple (.tuple ds) = some true := rfl
theorem isi_tl : isiD .tuple (.list ds) = some false := rfl
theorem isi_tn : isiD .tuple .none = some false := rfl
theorem isi_ts (s : Str) : isiD .tuple (.str s) = some false := rfl
theorem isi_in : isiD .int .none = some false := rfl
theorem isi_is (s : Str) : isiD .int (.str s) = some false := rfl
theorem isi_it : isiD .int (.tuple ds) = some false := rfl
theorem isi_il : isiD .int (.list ds) = some false := rfl
end
theorem t_is_integer (v lo hi : Int) (g : G) : F_is_integer [.val (.int v), .val (.int lo), .val (.int hi)] g = .ok (.bool (decide (lo ≤ v) && decide (v ≤ hi))) g := by
  simp [runB, sSeq, sAsg, sRet, sIf, sDrop, sNext, sAug, sRaise, sFor, sApp, sOwn, sPar, sParOV, sParVO, sParOO, sPar3, sFrz, sExt, eBor, eC, eVar, getV, getO, getOw, eBin, eTest, eChain, bAnd, bOr, bNot, eAnd, eOr, eNot, eIf, aNil, aCons, sNil, sCons, sObj, eTup, eLst, eCall, eCallF, eUn, eUnD, eIsi, eSl, oNo, Av.oAt, fLst, fList, iSeq, iVia, tYesM, bnd, lift, Res.bind, Av.ret, frz, small, Nat.ble, Av.plain, le_i, gt_i, ge_i, lt_i, sub_i, add_i, ipAdd_i, ipSub_i, neg_i, is_b, isNot_b, asB_b, asI_i, isi_ii, isi_bi, isi_bb, isi_ib, isi_ti, isi_tt, isi_tl, isi_tn, isi_ts, isi_in, isi_is, isi_it, isi_il, F_is_integer, m_is_integer]
  by_cases h : lo ≤ v <;> simp [runB, sSeq, sAsg, sRet, sIf, sDrop, sNext, sAug, sRaise, sFor, sApp, sOwn, sPar, sParOV, sParVO, sParOO, sPar3, sFrz, sExt, eBor, eC, eVar, getV, getO, getOw, eBin, eTest, eChain, bAnd, bOr, bNot, eAnd, eOr, eNot, eIf, aNil, aCons, sNil, sCons, sObj, eTup, eLst, eCall, eCallF, eUn, eUnD, eIsi, eSl, oNo, Av.oAt, fLst, fList, iSeq, iVia, tYesM, bnd, lift, Res.bind, Av.ret, frz, small, Nat.ble, Av.plain, le_i, gt_i, ge_i, lt_i, sub_i, add_i, ipAdd_i, ipSub_i, neg_i, is_b, isNot_b, asB_b, asI_i, isi_ii, isi_bi, isi_bb, isi_ib, isi_ti, isi_tt, isi_tl, isi_tn, isi_ts, isi_in, isi_is, isi_it, isi_il, h]
/-- a path: 1 and -1, at most 12 -/
def Stp1 (p : List Int) : Prop := ∀ x ∈ p, x = 1 ∨ x = -1
/-! ### comprehensions -/
theorem lcL_filt {t : Tg} {ft : List Sl → Mo Bool} {fe : List Sl → Mo PD} {Γ : List Sl} {g : G} {q : PD → Bool} {h : PD → PD} : ∀ {ds : List PD},
    (∀ d ∈ ds, ∃ Γ1, t.set d Γ = some Γ1 ∧ ft Γ1 g = .ok (q d) g ∧ (q d = true → fe Γ1 g = .ok (h d) g)) → lcL t ft fe Γ ds g = .ok ((ds.filter q).map h) g
  | [], _ => rfl
  | d :: ds, hd => by
    obtain ⟨Γ1, h1, h2, h3⟩ := hd d (List.mem_cons_self ..)
    have ih := lcL_filt (q := q) (h := h) (ds := ds) fun e he => hd e (List.mem_cons_of_mem _ he)
    cases e : q d with
    | true => simp [lcL, bnd, lift, h1, Res.bind, nx, h2, e, h3 e, ih, Av.ret]
    | false => simp [lcL, bnd, lift, h1, Res.bind, nx, h2, e, ih, Av.ret]
theorem filt_true {α : Type} (l : List α) : l.filter (fun _ => true) = l := by simp
theorem eLc_map {fi : List Sl → Mo (List PD)} {t : Tg} {fe : List Sl → Mo PD} {Γ : List Sl} {g g1 : G} {h : PD → PD} {ds : List PD} (hi : fi Γ g = .ok ds g1) (hs : ds.length ≤ 100000)
    (hd : ∀ d ∈ ds, ∃ Γ1, t.set d (wipeG Γ t.slots) = some Γ1 ∧ fe Γ1 g1 = .ok (h d) g1) : eLc fi t tYesM fe Γ g = .ok (.list (ds.map h)) g1 := by
  have e := lcL_filt (t := t) (ft := tYesM) (fe := fe) (Γ := wipeG Γ t.slots) (g := g1) (q := fun _ => true) (h := h) (ds := ds) fun d hd' => by
    obtain ⟨Γ1, h1, h2⟩ := hd d hd'
    exact ⟨Γ1, h1, rfl, fun _ => h2⟩
  rw [filt_true] at e
  have hs' : small ds.length = true := Nat.ble_eq_true_of_le hs
  simp [eLc, bnd, hi, Res.bind, hs', lift, e, Av.ret]
theorem eLc_filt {fi : List Sl → Mo (List PD)} {t : Tg} {ft : List Sl → Mo Bool} {fe : List Sl → Mo PD} {Γ : List Sl} {g g1 : G} {q : PD → Bool} {h : PD → PD} {ds : List PD} (hi : fi Γ g = .ok ds g1) (hs : ds.length ≤ 100000)
    (hd : ∀ d ∈ ds, ∃ Γ1, t.set d (wipeG Γ t.slots) = some Γ1 ∧ ft Γ1 g1 = .ok (q d) g1 ∧ (q d = true → fe Γ1 g1 = .ok (h d) g1)) : eLc fi t ft fe Γ g = .ok (.list ((ds.filter q).map h)) g1 := by
  have e := lcL_filt hd
  have hs' : small ds.length = true := Nat.ble_eq_true_of_le hs
  simp [eLc, bnd, hi, Res.bind, hs', lift, e, Av.ret]
/-- .. over ints -/
theorem eLc_ints {fi : List Sl → Mo (List PD)} {i : Nat} {fe : List Sl → Mo PD} {Γ : List Sl} {g g1 : G} {h : Int → PD} {ns : List Int} (hi : fi Γ g = .ok (ns.map .int) g1) (hs : ns.length ≤ 100000)
    (hd : ∀ n ∈ ns, fe ((wipeG Γ [i]).set i (.val (.int n))) g1 = .ok (h n) g1) : eLc fi (.one i) tYesM fe Γ g = .ok (.list (ns.map h)) g1 := by
  have e := eLc_map (t := .one i) (fe := fe) (h := fun d => match d with | .int n => h n | _ => .none) hi (by simpa using hs) fun d hd' => by
    obtain ⟨n, hn, rfl⟩ := List.mem_map.mp hd'
    exact ⟨_, rfl, hd n hn⟩
  rw [e, List.map_map]
  rfl
theorem eLc_intsF {fi : List Sl → Mo (List PD)} {i : Nat} {ft : List Sl → Mo Bool} {fe : List Sl → Mo PD} {Γ : List Sl} {g g1 : G} {q : Int → Bool} {h : Int → PD} {ns : List Int} (hi : fi Γ g = .ok (ns.map .int) g1) (hs : ns.length ≤ 100000)
    (hd : ∀ n ∈ ns, ft ((wipeG Γ [i]).set i (.val (.int n))) g1 = .ok (q n) g1 ∧ (q n = true → fe ((wipeG Γ [i]).set i (.val (.int n))) g1 = .ok (h n) g1)) : eLc fi (.one i) ft fe Γ g = .ok (.list ((ns.filter q).map h)) g1 := by
  have e := eLc_filt (t := .one i) (ft := ft) (fe := fe) (q := fun d => match d with | .int n => q n | _ => false) (h := fun d => match d with | .int n => h n | _ => .none) hi (by simpa using hs) fun d hd' => by
    obtain ⟨n, hn, rfl⟩ := List.mem_map.mp hd'
    exact ⟨_, rfl, hd n hn⟩
  rw [e, List.filter_map, List.map_map]
  rfl
/-! ### ints in tuples and lists -/
theorem boolsOf_map : ∀ bs : List Bool, boolsOf (bs.map PyData.bool) = some bs
  | [] => rfl
  | b :: r => by show (boolsOf (r.map PyData.bool)).map (b :: ·) = _; rw [boolsOf_map r]; rfl
theorem boolsOf_mapf {α : Type} (f : α → Bool) (l : List α) : boolsOf (l.map (PyData.bool ∘ f)) = some (l.map f) := by rw [← List.map_map, boolsOf_map]
theorem eqvAll_ints : ∀ p q : List Int, PyData.eqvAll (p.map .int) (q.map .int) = decide (p = q)
  | [], [] => by simp [PyData.eqvAll]
  | [], b :: q => by simp [PyData.eqvAll]
  | a :: p, [] => by simp [PyData.eqvAll]
  | a :: p, b :: q => by
    have ih := eqvAll_ints p q
    simp only [List.map_cons, PyData.eqvAll, PyData.eqv, ih]
    by_cases h : a = b <;> by_cases h' : p = q <;> simp [h, h']
theorem eqv_tup (p q : List Int) : PyData.eqv (tupI p) (tupI q) = decide (p = q) := by
  unfold tupI; rw [← eqvAll_ints]; simp [PyData.eqv]
theorem eqv_lst (p q : List Int) : PyData.eqv (lstI p) (lstI q) = decide (p = q) := by
  unfold lstI; rw [← eqvAll_ints]; simp [PyData.eqv]
theorem eqD_tup (p q : List Int) : eqD (tupI p) (tupI q) = some (.bool (decide (p = q))) := by
  unfold eqD; rw [show SeqAt.shaped (tupI p) = true from shaped_tints p, show SeqAt.shaped (tupI q) = true from shaped_tints q, eqv_tup]; rfl
theorem neD_tup (p q : List Int) : neD (tupI p) (tupI q) = some (.bool (!decide (p = q))) := by
  unfold neD; rw [show SeqAt.shaped (tupI p) = true from shaped_tints p, show SeqAt.shaped (tupI q) = true from shaped_tints q, eqv_tup]; rfl
theorem eqD_lst (p q : List Int) : eqD (lstI p) (lstI q) = some (.bool (decide (p = q))) := by
  unfold eqD; rw [show SeqAt.shaped (lstI p) = true from shaped_lints p, show SeqAt.shaped (lstI q) = true from shaped_lints q, eqv_lst]; rfl
theorem neD_lst (p q : List Int) : neD (lstI p) (lstI q) = some (.bool (!decide (p = q))) := by
  unfold neD; rw [show SeqAt.shaped (lstI p) = true from shaped_lints p, show SeqAt.shaped (lstI q) = true from shaped_lints q, eqv_lst]; rfl
theorem shaped_int (i : Int) : SeqAt.shaped (.int i) = true := by
  show (PyData.canLay0 (.int i) && decide (PyData.depth (.int i) ≤ 64)) = true
  simp [PyData.canLay0, PyData.depth]
theorem shaped_bool (i : Bool) : SeqAt.shaped (.bool i) = true := by
  show (PyData.canLay0 (.bool i) && decide (PyData.depth (.bool i) ≤ 64)) = true
  simp [PyData.canLay0, PyData.depth]
theorem eqD_int (i j : Int) : eqD (.int i) (.int j) = some (.bool (decide (i = j))) := by
  unfold eqD; rw [shaped_int, shaped_int]
  simp [PyData.eqv]
  by_cases h : i = j <;> simp [h]
theorem neD_int (i j : Int) : neD (.int i) (.int j) = some (.bool (!decide (i = j))) := by
  unfold neD; rw [shaped_int, shaped_int]
  simp [PyData.eqv]
  by_cases h : i = j <;> simp [h]
theorem eqD_bool (i j : Bool) : eqD (.bool i) (.bool j) = some (.bool (decide (i = j))) := by
  unfold eqD; rw [shaped_bool, shaped_bool]
  simp [PyData.eqv]
  cases i <;> cases j <;> rfl
theorem items_tup (p : List Int) : itemsD (tupI p) = some (p.map .int) := rfl
theorem items_lst (p : List Int) : itemsD (lstI p) = some (p.map .int) := rfl
theorem sumE_tup (p : List Int) : sumE [tupI p] = some (.int p.sum) := by unfold tupI; simp [sumE, intsOf_map]
theorem sumE_lst (p : List Int) : sumE [lstI p] = some (.int p.sum) := by unfold lstI; simp [sumE, intsOf_map]
theorem minD_lst (a : Int) (p : List Int) : minD [lstI (a :: p)] = some (.int (minL (a :: p))) := by unfold lstI; simp only [minD, intsOf_map]; rfl
theorem minE_lst (a : Int) (p : List Int) : minE [lstI (a :: p)] = some (.int (minL (a :: p))) := minD_lst a p
theorem maxD_lst (a : Int) (p : List Int) : maxD [lstI (a :: p)] = some (.int (maxL (a :: p))) := by unfold lstI; simp only [maxD, intsOf_map]; rfl
theorem tupleD_lst (p : List Int) : tupleD [lstI p] = some (tupI p) := rfl
theorem tupleD_tup (p : List Int) : tupleD [tupI p] = some (tupI p) := rfl
theorem listD_tup (p : List Int) : listD [tupI p] = some (lstI p) := rfl
theorem revD_tup (p : List Int) : revD (tupI p) = some (tupI p.reverse) := by simp [revD, tupI]
theorem revD_lst (p : List Int) : revD (lstI p) = some (lstI p.reverse) := by simp [revD, lstI]
theorem lenD_tup (p : List Int) : lenD [tupI p] = some (.int p.length) := by simp [lenD, tupI]
theorem lenD_lst (p : List Int) : lenD [lstI p] = some (.int p.length) := by simp [lenD, lstI]
theorem isi_tup (p : List Int) : isiD .tuple (tupI p) = some true := rfl
/-! ### the functions -/
/-- 1 or -1 -/
def u1 (x : Int) : Bool := decide (x = 1) || decide (x = -1)
def okP (p : List Int) : Bool := decide (p.length ≤ 12) && p.all u1
theorem t_unit (n : Int) (g : G) (x : Sl) : eAnd (eCallF F_is_integer (sCons (eVar 1) (sCons (eUn negD (eC (.int 1))) (sCons (eC (.int 1)) sNil)))) (eBin neD (eVar 1) (eC (.int 0))) [x, .val (.int n)] g = .ok (.bool (u1 n)) g := by
  simp [runB, sSeq, sAsg, sRet, sIf, sDrop, sNext, sAug, sRaise, sFor, sApp, sOwn, sPar, sParOV, sParVO, sParOO, sPar3, sFrz, sExt, eBor, eC, eVar, getV, getO, getOw, eBin, eTest, eChain, bAnd, bOr, bNot, eAnd, eOr, eNot, eIf, aNil, aCons, sNil, sCons, sObj, eTup, eLst, eCall, eCallF, eUn, eUnD, eIsi, eSl, oNo, Av.oAt, fLst, fList, iSeq, iVia, tYesM, bnd, lift, Res.bind, Av.ret, frz, small, Nat.ble, Av.plain, le_i, gt_i, ge_i, lt_i, sub_i, add_i, ipAdd_i, ipSub_i, neg_i, is_b, isNot_b, asB_b, asI_i, isi_ii, isi_bi, isi_bb, isi_ib, isi_ti, isi_tt, isi_tl, isi_tn, isi_ts, isi_in, isi_is, isi_it, isi_il, t_is_integer, neD_int]
  unfold u1
  by_cases h1 : -1 ≤ n <;> by_cases h2 : n ≤ 1
  · have h : n = -1 ∨ n = 0 ∨ n = 1 := by omega
    rcases h with rfl | rfl | rfl <;> rfl
  all_goals
    have e1 : ¬ n = 1 := by omega
    have e2 : ¬ n = -1 := by omega
    simp [runB, sSeq, sAsg, sRet, sIf, sDrop, sNext, sAug, sRaise, sFor, sApp, sOwn, sPar, sParOV, sParVO, sParOO, sPar3, sFrz, sExt, eBor, eC, eVar, getV, getO, getOw, eBin, eTest, eChain, bAnd, bOr, bNot, eAnd, eOr, eNot, eIf, aNil, aCons, sNil, sCons, sObj, eTup, eLst, eCall, eCallF, eUn, eUnD, eIsi, eSl, oNo, Av.oAt, fLst, fList, iSeq, iVia, tYesM, bnd, lift, Res.bind, Av.ret, frz, small, Nat.ble, Av.plain, le_i, gt_i, ge_i, lt_i, sub_i, add_i, ipAdd_i, ipSub_i, neg_i, is_b, isNot_b, asB_b, asI_i, isi_ii, isi_bi, isi_bb, isi_ib, isi_ti, isi_tt, isi_tl, isi_tn, isi_ts, isi_in, isi_is, isi_it, isi_il, h1, h2, e1, e2]
theorem t_is_path (p : List Int) (g : G) : F_is_path [.val (tupI p)] g = .ok (.bool (okP p)) g := by
  unfold okP
  by_cases hl : p.length ≤ 12
  · have hc : eLc (iSeq (eVar 0)) (.one 1) tYesM (eAnd (eCallF F_is_integer (sCons (eVar 1) (sCons (eUn negD (eC (.int 1))) (sCons (eC (.int 1)) sNil)))) (eBin neD (eVar 1) (eC (.int 0)))) [.val (tupI p), .dead] g = .ok (.list ((p.map u1).map .bool)) g := by
      rw [List.map_map]
      exact eLc_ints rfl (by omega) fun n hn => t_unit n g _
    have hl' : ¬ (12 : Int) < p.length := by omega
    simp [runB, sSeq, sAsg, sRet, sIf, sDrop, sNext, sAug, sRaise, sFor, sApp, sOwn, sPar, sParOV, sParVO, sParOO, sPar3, sFrz, sExt, eBor, eC, eVar, getV, getO, getOw, eBin, eTest, eChain, bAnd, bOr, bNot, eAnd, eOr, eNot, eIf, aNil, aCons, sNil, sCons, sObj, eTup, eLst, eCall, eCallF, eUn, eUnD, eIsi, eSl, oNo, Av.oAt, fLst, fList, iSeq, iVia, tYesM, bnd, lift, Res.bind, Av.ret, frz, small, Nat.ble, Av.plain, le_i, gt_i, ge_i, lt_i, sub_i, add_i, ipAdd_i, ipSub_i, neg_i, is_b, isNot_b, asB_b, asI_i, isi_ii, isi_bi, isi_bb, isi_ib, isi_ti, isi_tt, isi_tl, isi_tn, isi_ts, isi_in, isi_is, isi_it, isi_il, F_is_path, m_is_path, isi_tup, lenD_tup, hl', hc, allD, boolsOf_map, boolsOf_mapf, hl]
  · have hl' : (12 : Int) < p.length := by omega
    simp [runB, sSeq, sAsg, sRet, sIf, sDrop, sNext, sAug, sRaise, sFor, sApp, sOwn, sPar, sParOV, sParVO, sParOO, sPar3, sFrz, sExt, eBor, eC, eVar, getV, getO, getOw, eBin, eTest, eChain, bAnd, bOr, bNot, eAnd, eOr, eNot, eIf, aNil, aCons, sNil, sCons, sObj, eTup, eLst, eCall, eCallF, eUn, eUnD, eIsi, eSl, oNo, Av.oAt, fLst, fList, iSeq, iVia, tYesM, bnd, lift, Res.bind, Av.ret, frz, small, Nat.ble, Av.plain, le_i, gt_i, ge_i, lt_i, sub_i, add_i, ipAdd_i, ipSub_i, neg_i, is_b, isNot_b, asB_b, asI_i, isi_ii, isi_bi, isi_bb, isi_ib, isi_ti, isi_tt, isi_tl, isi_tn, isi_ts, isi_in, isi_is, isi_it, isi_il, F_is_path, m_is_path, isi_tup, lenD_tup, hl', hl]
theorem t_check_path (p : List Int) (h : okP p = true) (g : G) : F_check_path [.val (tupI p)] g = .ok .none g := by
  simp [runB, sSeq, sAsg, sRet, sIf, sDrop, sNext, sAug, sRaise, sFor, sApp, sOwn, sPar, sParOV, sParVO, sParOO, sPar3, sFrz, sExt, eBor, eC, eVar, getV, getO, getOw, eBin, eTest, eChain, bAnd, bOr, bNot, eAnd, eOr, eNot, eIf, aNil, aCons, sNil, sCons, sObj, eTup, eLst, eCall, eCallF, eUn, eUnD, eIsi, eSl, oNo, Av.oAt, fLst, fList, iSeq, iVia, tYesM, bnd, lift, Res.bind, Av.ret, frz, small, Nat.ble, Av.plain, le_i, gt_i, ge_i, lt_i, sub_i, add_i, ipAdd_i, ipSub_i, neg_i, is_b, isNot_b, asB_b, asI_i, isi_ii, isi_bi, isi_bb, isi_ib, isi_ti, isi_tt, isi_tl, isi_tn, isi_ts, isi_in, isi_is, isi_it, isi_il, F_check_path, m_check_path, t_is_path, h]
/-- the heights behind a start -/
def hts (a : Int) : List Int → List Int
  | [] => [a]
  | x :: p => a :: hts (a + x) p
theorem hts_ne (a : Int) (p : List Int) : ∃ r, hts a p = a :: r := by cases p <;> exact ⟨_, rfl⟩
theorem hts_len : ∀ (p : List Int) (a : Int), (hts a p).length = p.length + 1
  | [], a => rfl
  | x :: p, a => by simp [hts, hts_len p]
theorem hts_last : ∀ (p : List Int) (a : Int), (hts a p).getLast? = some (a + p.sum)
  | [], a => by simp [hts]
  | x :: p, a => by
    obtain ⟨r, hr⟩ := hts_ne (a + x) p
    have ih := hts_last p (a + x)
    rw [hr] at ih
    show (a :: hts (a + x) p).getLast? = _
    rw [hr, List.getLast?_cons_cons, ih]
    simp [Int.add_assoc]
theorem atI_last {α : Type} (l : List α) (x : α) : atI (l ++ [x]) (-1) = some x := by
  have e : ixN (l ++ [x]).length (-1) = some l.length := by
    unfold ixN
    simp
    omega
  show (ixN (l ++ [x]).length (-1)).bind _ = _
  rw [e]
  simp
theorem loop_hts (x : Sl) (g : G) : ∀ (p : List Int) (l : List PD) (a : Int) (y : Sl), l.length + p.length ≤ 100 → ∃ y', forL (.one 2) (sApp 1 (eBor 1 (eBin addD (eBin ixD (eVar 1) (eUn negD (eC (.int 1)))) (eVar 2)))) (p.map .int) [x, .own (l ++ [.int a]), y] g = .ok (.next [x, .own (l ++ (hts a p).map .int), y']) g
  | [], l, a, y, _ => ⟨y, rfl⟩
  | n :: p, l, a, y, h => by
    have h' : l.length + 1 + p.length ≤ 100 := by simp at h; omega
    obtain ⟨y', ih⟩ := loop_hts x g p (l ++ [.int a]) (a + n) (.val (.int n)) (by simp; omega)
    refine ⟨y', ?_⟩
    have hs : l.length ≤ 99999 := by omega
    have e1 : ixD (.list (l ++ [.int a])) (.int (-1)) = some (.int a) := atI_last l _
    simp only [hts, List.map_cons, forL]
    simp [runB, sSeq, sAsg, sRet, sIf, sDrop, sNext, sAug, sRaise, sFor, sApp, sOwn, sPar, sParOV, sParVO, sParOO, sPar3, sFrz, sExt, eBor, eC, eVar, getV, getO, getOw, eBin, eTest, eChain, bAnd, bOr, bNot, eAnd, eOr, eNot, eIf, aNil, aCons, sNil, sCons, sObj, eTup, eLst, eCall, eCallF, eUn, eUnD, eIsi, eSl, oNo, Av.oAt, fLst, fList, iSeq, iVia, tYesM, bnd, lift, Res.bind, Av.ret, frz, small, Nat.ble, Av.plain, le_i, gt_i, ge_i, lt_i, sub_i, add_i, ipAdd_i, ipSub_i, neg_i, is_b, isNot_b, asB_b, asI_i, isi_ii, isi_bi, isi_bb, isi_ib, isi_ti, isi_tt, isi_tl, isi_tn, isi_ts, isi_in, isi_is, isi_it, isi_il, Tg.set, e1, hs]
    simpa using ih
theorem t_heights_of (p : List Int) (hl : p.length ≤ 50) (g : G) : F_heights_of [.val (tupI p)] g = .ok (lstI (hts 0 p)) g := by
  obtain ⟨y', h⟩ := loop_hts (.val (tupI p)) g p [] 0 .dead (by simp; omega)
  rw [List.nil_append, List.nil_append] at h
  simp [runB, sSeq, sAsg, sRet, sIf, sDrop, sNext, sAug, sRaise, sFor, sApp, sOwn, sPar, sParOV, sParVO, sParOO, sPar3, sFrz, sExt, eBor, eC, eVar, getV, getO, getOw, eBin, eTest, eChain, bAnd, bOr, bNot, eAnd, eOr, eNot, eIf, aNil, aCons, sNil, sCons, sObj, eTup, eLst, eCall, eCallF, eUn, eUnD, eIsi, eSl, oNo, Av.oAt, fLst, fList, iSeq, iVia, tYesM, bnd, lift, Res.bind, Av.ret, frz, small, Nat.ble, Av.plain, le_i, gt_i, ge_i, lt_i, sub_i, add_i, ipAdd_i, ipSub_i, neg_i, is_b, isNot_b, asB_b, asI_i, isi_ii, isi_bi, isi_bb, isi_ib, isi_ti, isi_tt, isi_tl, isi_tn, isi_ts, isi_in, isi_is, isi_it, isi_il, F_heights_of, m_heights_of, items_tup, h, lstI]
/-- no height is below 0 -/
def up (a : Int) : List Int → Bool
  | [] => decide (0 ≤ a)
  | x :: p => decide (0 ≤ a) && up (a + x) p
theorem min_hts : ∀ (p : List Int) (a : Int), decide (0 ≤ minL (hts a p)) = up a p
  | [], a => rfl
  | x :: p, a => by
    obtain ⟨r, hr⟩ := hts_ne (a + x) p
    have ih := min_hts p (a + x)
    show decide (0 ≤ minL (a :: hts (a + x) p)) = (decide (0 ≤ a) && up (a + x) p)
    rw [← ih, hr]
    show decide (0 ≤ min a (minL ((a + x) :: r))) = _
    by_cases h1 : 0 ≤ a <;> by_cases h2 : 0 ≤ minL ((a + x) :: r) <;> simp [h1, h2] <;> omega
theorem t_is_up (p : List Int) (hl : p.length ≤ 50) (g : G) : F_is_up [.val (tupI p)] g = .ok (.bool (up 0 p)) g := by
  obtain ⟨r, hr⟩ := hts_ne 0 p
  have hm := min_hts p 0
  rw [hr] at hm
  simp [runB, sSeq, sAsg, sRet, sIf, sDrop, sNext, sAug, sRaise, sFor, sApp, sOwn, sPar, sParOV, sParVO, sParOO, sPar3, sFrz, sExt, eBor, eC, eVar, getV, getO, getOw, eBin, eTest, eChain, bAnd, bOr, bNot, eAnd, eOr, eNot, eIf, aNil, aCons, sNil, sCons, sObj, eTup, eLst, eCall, eCallF, eUn, eUnD, eIsi, eSl, oNo, Av.oAt, fLst, fList, iSeq, iVia, tYesM, bnd, lift, Res.bind, Av.ret, frz, small, Nat.ble, Av.plain, le_i, gt_i, ge_i, lt_i, sub_i, add_i, ipAdd_i, ipSub_i, neg_i, is_b, isNot_b, asB_b, asI_i, isi_ii, isi_bi, isi_bb, isi_ib, isi_ti, isi_tt, isi_tl, isi_tn, isi_ts, isi_in, isi_is, isi_it, isi_il, F_is_up, m_is_up, t_heights_of p hl, hr, minE_lst, hm]
theorem okP_len {p : List Int} (h : okP p = true) : p.length ≤ 12 := by unfold okP at h; simp at h; exact h.1
/-- a hill -/
def hillB (p : List Int) : Bool := up 0 p && decide (p.sum = 0)
theorem t_closes (p : List Int) (hl : p.length ≤ 50) (g : G) : F_closes [.val (tupI p)] g = .ok (.bool (hillB p)) g := by
  unfold hillB
  cases h : up 0 p <;> simp [runB, sSeq, sAsg, sRet, sIf, sDrop, sNext, sAug, sRaise, sFor, sApp, sOwn, sPar, sParOV, sParVO, sParOO, sPar3, sFrz, sExt, eBor, eC, eVar, getV, getO, getOw, eBin, eTest, eChain, bAnd, bOr, bNot, eAnd, eOr, eNot, eIf, aNil, aCons, sNil, sCons, sObj, eTup, eLst, eCall, eCallF, eUn, eUnD, eIsi, eSl, oNo, Av.oAt, fLst, fList, iSeq, iVia, tYesM, bnd, lift, Res.bind, Av.ret, frz, small, Nat.ble, Av.plain, le_i, gt_i, ge_i, lt_i, sub_i, add_i, ipAdd_i, ipSub_i, neg_i, is_b, isNot_b, asB_b, asI_i, isi_ii, isi_bi, isi_bb, isi_ib, isi_ti, isi_tt, isi_tl, isi_tn, isi_ts, isi_in, isi_is, isi_it, isi_il, F_closes, m_closes, t_is_up p hl, h, sumE_tup, eqD_int]
theorem loop_climb (x : Sl) (g : G) : ∀ (p : List Int) (l : List PD) (a : Int) (y : Sl), l.length + p.length ≤ 100 → ∃ b y', forL (.one 3) (sSeq (sAug 1 ipAdd (eVar 3)) (sApp 2 (eVar 1))) (p.map .int) [x, .val (.int a), .own (l ++ [.int a]), y] g = .ok (.next [x, b, .own (l ++ (hts a p).map .int), y']) g
  | [], l, a, y, _ => ⟨_, y, rfl⟩
  | n :: p, l, a, y, h => by
    have h' : l.length + 1 + p.length ≤ 100 := by simp at h; omega
    obtain ⟨b, y', ih⟩ := loop_climb x g p (l ++ [.int a]) (a + n) (.val (.int n)) (by simp; omega)
    refine ⟨b, y', ?_⟩
    have hs : l.length ≤ 99999 := by omega
    simp only [hts, List.map_cons, forL]
    simp [runB, sSeq, sAsg, sRet, sIf, sDrop, sNext, sAug, sRaise, sFor, sApp, sOwn, sPar, sParOV, sParVO, sParOO, sPar3, sFrz, sExt, eBor, eC, eVar, getV, getO, getOw, eBin, eTest, eChain, bAnd, bOr, bNot, eAnd, eOr, eNot, eIf, aNil, aCons, sNil, sCons, sObj, eTup, eLst, eCall, eCallF, eUn, eUnD, eIsi, eSl, oNo, Av.oAt, fLst, fList, iSeq, iVia, tYesM, bnd, lift, Res.bind, Av.ret, frz, small, Nat.ble, Av.plain, le_i, gt_i, ge_i, lt_i, sub_i, add_i, ipAdd_i, ipSub_i, neg_i, is_b, isNot_b, asB_b, asI_i, isi_ii, isi_bi, isi_bb, isi_ib, isi_ti, isi_tt, isi_tl, isi_tn, isi_ts, isi_in, isi_is, isi_it, isi_il, Tg.set, hs]
    simpa using ih
theorem t_climb (p : List Int) (hl : p.length ≤ 50) (g : G) : F__law_climb [.val (tupI p)] g = .ok (lstI (hts 0 p)) g := by
  obtain ⟨b, y', h⟩ := loop_climb (.val (tupI p)) g p [] 0 .dead (by simp; omega)
  rw [List.nil_append, List.nil_append] at h
  simp [runB, sSeq, sAsg, sRet, sIf, sDrop, sNext, sAug, sRaise, sFor, sApp, sOwn, sPar, sParOV, sParVO, sParOO, sPar3, sFrz, sExt, eBor, eC, eVar, getV, getO, getOw, eBin, eTest, eChain, bAnd, bOr, bNot, eAnd, eOr, eNot, eIf, aNil, aCons, sNil, sCons, sObj, eTup, eLst, eCall, eCallF, eUn, eUnD, eIsi, eSl, oNo, Av.oAt, fLst, fList, iSeq, iVia, tYesM, bnd, lift, Res.bind, Av.ret, frz, small, Nat.ble, Av.plain, le_i, gt_i, ge_i, lt_i, sub_i, add_i, ipAdd_i, ipSub_i, neg_i, is_b, isNot_b, asB_b, asI_i, isi_ii, isi_bi, isi_bb, isi_ib, isi_ti, isi_tt, isi_tl, isi_tn, isi_ts, isi_in, isi_is, isi_it, isi_il, F__law_climb, m__law_climb, items_tup, h, lstI]
/-! ### quick forms -/
theorem intsOf_is : ∀ {ds : List PD} {ns : List Int}, intsOf ds = some ns → ds = ns.map PyData.int
  | [], ns, h => by cases h; rfl
  | .int i :: r, ns, h => by
    obtain ⟨m, hm, rfl⟩ := Option.map_eq_some_iff.mp h
    rw [intsOf_is hm]
    rfl
  | .none :: _, _, h => by cases h
  | .bool _ :: _, _, h => by cases h
  | .str _ :: _, _, h => by cases h
  | .list _ :: _, _, h => by cases h
  | .tuple _ :: _, _, h => by cases h
  | .dict _ :: _, _, h => by cases h
/-- a def on one tuple of some ints -/
def onT (F : List Sl → Mo PD) (f : List Int → Mo PD) (as : List Sl) : Mo PD := match as with
  | [.val (.tuple ds)] => match intsOf ds with
    | some ns => if Nat.ble ns.length 50 = true then f ns else F as
    | none => F as
  | _ => F as
theorem onT_re {F : List Sl → Mo PD} {f : List Int → Mo PD} (h : ∀ (p : List Int) (g : G), p.length ≤ 50 → F [.val (tupI p)] g = f p g) (as : List Sl) (g : G) : onT F f as g = .bad ∨ F as g = onT F f as g := by
  right
  unfold onT
  split
  · rename_i ds
    cases e : intsOf ds with
    | none => rfl
    | some ns =>
      dsimp only
      by_cases hl : Nat.ble ns.length 50 = true
      · rw [if_pos hl, intsOf_is e]
        exact h ns g (Nat.le_of_ble_eq_true hl)
      · rw [if_neg hl]
  · rfl
theorem onT_tup {F : List Sl → Mo PD} {f : List Int → Mo PD} (p : List Int) (hl : p.length ≤ 50) (g : G) : onT F f [.val (tupI p)] g = f p g := by
  unfold onT tupI
  simp only [intsOf_map]
  rw [if_pos (Nat.ble_eq_true_of_le hl)]
def E_is_integer (as : List Sl) : Mo PD := match as with
  | [.val (.int v), .val (.int lo), .val (.int hi)] => ret (.bool (decide (lo ≤ v) && decide (v ≤ hi)))
  | _ => F_is_integer as
theorem re_is_integer (as : List Sl) (g : G) : E_is_integer as g = .bad ∨ F_is_integer as g = E_is_integer as g := by
  right
  unfold E_is_integer
  split
  · exact t_is_integer _ _ _ g
  · rfl
theorem q_is_integer (v lo hi : Int) (g : G) : E_is_integer [.val (.int v), .val (.int lo), .val (.int hi)] g = .ok (.bool (decide (lo ≤ v) && decide (v ≤ hi))) g := rfl
def E_is_path : List Sl → Mo PD := onT F_is_path fun p => ret (.bool (okP p))
theorem re_is_path (as : List Sl) (g : G) : E_is_path as g = .bad ∨ F_is_path as g = E_is_path as g := onT_re (fun p g _ => t_is_path p g) as g
theorem q_is_path (p : List Int) (hl : p.length ≤ 50) (g : G) : E_is_path [.val (tupI p)] g = .ok (.bool (okP p)) g := onT_tup p hl g
def excB (b : Bool) (i : Nat) : Mo PD := if b = true then ret .none else fun g => .exc i g
theorem t_check_path2 (p : List Int) (g : G) : F_check_path [.val (tupI p)] g = excB (okP p) 0 g := by
  cases h : okP p <;> simp [runB, sSeq, sAsg, sRet, sIf, sDrop, sNext, sAug, sRaise, sFor, sApp, sOwn, sPar, sParOV, sParVO, sParOO, sPar3, sFrz, sExt, eBor, eC, eVar, getV, getO, getOw, eBin, eTest, eChain, bAnd, bOr, bNot, eAnd, eOr, eNot, eIf, aNil, aCons, sNil, sCons, sObj, eTup, eLst, eCall, eCallF, eUn, eUnD, eIsi, eSl, oNo, Av.oAt, fLst, fList, iSeq, iVia, tYesM, bnd, lift, Res.bind, Av.ret, frz, small, Nat.ble, Av.plain, le_i, gt_i, ge_i, lt_i, sub_i, add_i, ipAdd_i, ipSub_i, neg_i, is_b, isNot_b, asB_b, asI_i, isi_ii, isi_bi, isi_bb, isi_ib, isi_ti, isi_tt, isi_tl, isi_tn, isi_ts, isi_in, isi_is, isi_it, isi_il, F_check_path, m_check_path, t_is_path, h, excB]
def E_check_path : List Sl → Mo PD := onT F_check_path fun p => excB (okP p) 0
theorem re_check_path (as : List Sl) (g : G) : E_check_path as g = .bad ∨ F_check_path as g = E_check_path as g := onT_re (fun p g _ => t_check_path2 p g) as g
theorem q_check_path (p : List Int) (h : okP p = true) (g : G) : E_check_path [.val (tupI p)] g = .ok .none g := by
  rw [E_check_path, onT_tup p (by have := okP_len h; omega), h]; rfl
def E_heights_of : List Sl → Mo PD := onT F_heights_of fun p => ret (lstI (hts 0 p))
theorem re_heights_of (as : List Sl) (g : G) : E_heights_of as g = .bad ∨ F_heights_of as g = E_heights_of as g := onT_re (fun p g h => t_heights_of p h g) as g
theorem q_heights_of (p : List Int) (hl : p.length ≤ 50) (g : G) : E_heights_of [.val (tupI p)] g = .ok (lstI (hts 0 p)) g := onT_tup p hl g
def E_is_up : List Sl → Mo PD := onT F_is_up fun p => ret (.bool (up 0 p))
theorem re_is_up (as : List Sl) (g : G) : E_is_up as g = .bad ∨ F_is_up as g = E_is_up as g := onT_re (fun p g h => t_is_up p h g) as g
theorem q_is_up (p : List Int) (hl : p.length ≤ 50) (g : G) : E_is_up [.val (tupI p)] g = .ok (.bool (up 0 p)) g := onT_tup p hl g
def E_closes : List Sl → Mo PD := onT F_closes fun p => ret (.bool (hillB p))
theorem re_closes (as : List Sl) (g : G) : E_closes as g = .bad ∨ F_closes as g = E_closes as g := onT_re (fun p g h => t_closes p h g) as g
theorem q_closes (p : List Int) (hl : p.length ≤ 50) (g : G) : E_closes [.val (tupI p)] g = .ok (.bool (hillB p)) g := onT_tup p hl g
theorem t_check_hill (p : List Int) (hl : p.length ≤ 50) (g : G) : F_check_hill [.val (tupI p)] g = (if okP p = true then excB (hillB p) 5 else fun g => .exc 0 g) g := by
  cases h : okP p
  · simp [runB, sSeq, sAsg, sRet, sIf, sDrop, sNext, sAug, sRaise, sFor, sApp, sOwn, sPar, sParOV, sParVO, sParOO, sPar3, sFrz, sExt, eBor, eC, eVar, getV, getO, getOw, eBin, eTest, eChain, bAnd, bOr, bNot, eAnd, eOr, eNot, eIf, aNil, aCons, sNil, sCons, sObj, eTup, eLst, eCall, eCallF, eUn, eUnD, eIsi, eSl, oNo, Av.oAt, fLst, fList, iSeq, iVia, tYesM, bnd, lift, Res.bind, Av.ret, frz, small, Nat.ble, Av.plain, le_i, gt_i, ge_i, lt_i, sub_i, add_i, ipAdd_i, ipSub_i, neg_i, is_b, isNot_b, asB_b, asI_i, isi_ii, isi_bi, isi_bb, isi_ib, isi_ti, isi_tt, isi_tl, isi_tn, isi_ts, isi_in, isi_is, isi_it, isi_il, F_check_hill, m_check_hill, t_check_path2, h, excB]
  · cases h2 : hillB p <;> simp [runB, sSeq, sAsg, sRet, sIf, sDrop, sNext, sAug, sRaise, sFor, sApp, sOwn, sPar, sParOV, sParVO, sParOO, sPar3, sFrz, sExt, eBor, eC, eVar, getV, getO, getOw, eBin, eTest, eChain, bAnd, bOr, bNot, eAnd, eOr, eNot, eIf, aNil, aCons, sNil, sCons, sObj, eTup, eLst, eCall, eCallF, eUn, eUnD, eIsi, eSl, oNo, Av.oAt, fLst, fList, iSeq, iVia, tYesM, bnd, lift, Res.bind, Av.ret, frz, small, Nat.ble, Av.plain, le_i, gt_i, ge_i, lt_i, sub_i, add_i, ipAdd_i, ipSub_i, neg_i, is_b, isNot_b, asB_b, asI_i, isi_ii, isi_bi, isi_bb, isi_ib, isi_ti, isi_tt, isi_tl, isi_tn, isi_ts, isi_in, isi_is, isi_it, isi_il, F_check_hill, m_check_hill, t_check_path2, h, excB, t_closes p hl, h2]
def E_check_hill : List Sl → Mo PD := onT F_check_hill fun p => if okP p = true then excB (hillB p) 5 else fun g => .exc 0 g
theorem re_check_hill (as : List Sl) (g : G) : E_check_hill as g = .bad ∨ F_check_hill as g = E_check_hill as g := onT_re (fun p g h => t_check_hill p h g) as g
theorem q_check_hill (p : List Int) (h : okP p = true) (h2 : hillB p = true) (g : G) : E_check_hill [.val (tupI p)] g = .ok .none g := by
  rw [E_check_hill, onT_tup p (by have := okP_len h; omega), h, h2]; rfl
theorem t_climbL (p : List Int) (hl : p.length ≤ 50) (g : G) : F__law_climb [.val (lstI p)] g = .ok (lstI (hts 0 p)) g := by
  obtain ⟨b, y', h⟩ := loop_climb (.val (lstI p)) g p [] 0 .dead (by simp; omega)
  rw [List.nil_append, List.nil_append] at h
  simp [runB, sSeq, sAsg, sRet, sIf, sDrop, sNext, sAug, sRaise, sFor, sApp, sOwn, sPar, sParOV, sParVO, sParOO, sPar3, sFrz, sExt, eBor, eC, eVar, getV, getO, getOw, eBin, eTest, eChain, bAnd, bOr, bNot, eAnd, eOr, eNot, eIf, aNil, aCons, sNil, sCons, sObj, eTup, eLst, eCall, eCallF, eUn, eUnD, eIsi, eSl, oNo, Av.oAt, fLst, fList, iSeq, iVia, tYesM, bnd, lift, Res.bind, Av.ret, frz, small, Nat.ble, Av.plain, le_i, gt_i, ge_i, lt_i, sub_i, add_i, ipAdd_i, ipSub_i, neg_i, is_b, isNot_b, asB_b, asI_i, isi_ii, isi_bi, isi_bb, isi_ib, isi_ti, isi_tt, isi_tl, isi_tn, isi_ts, isi_in, isi_is, isi_it, isi_il, F__law_climb, m__law_climb, items_lst, h]
  rfl
def E__law_climb (as : List Sl) : Mo PD := match as with
  | [.val (.list ds)] => match intsOf ds with
    | some ns => if Nat.ble ns.length 50 = true then ret (lstI (hts 0 ns)) else F__law_climb as
    | none => F__law_climb as
  | _ => onT F__law_climb (fun p => ret (lstI (hts 0 p))) as
theorem re__law_climb (as : List Sl) (g : G) : E__law_climb as g = .bad ∨ F__law_climb as g = E__law_climb as g := by
  unfold E__law_climb
  split
  · right
    rename_i ds
    cases e : intsOf ds with
    | none => rfl
    | some ns =>
      dsimp only
      by_cases hl : Nat.ble ns.length 50 = true
      · rw [if_pos hl, intsOf_is e]
        exact t_climbL ns (Nat.le_of_ble_eq_true hl) g
      · rw [if_neg hl]
  · exact onT_re (fun p g h => t_climb p h g) as g
theorem q_climb (p : List Int) (hl : p.length ≤ 50) (g : G) : E__law_climb [.val (tupI p)] g = .ok (lstI (hts 0 p)) g := onT_tup p hl g
theorem q_climbL (p : List Int) (hl : p.length ≤ 50) (g : G) : E__law_climb [.val (lstI p)] g = .ok (lstI (hts 0 p)) g := by
  unfold E__law_climb lstI
  simp only [intsOf_map]
  rw [if_pos (Nat.ble_eq_true_of_le hl)]
  rfl
/-! choose -/
def pasT : List (List Int) := [[1], [1, 1], [1, 2, 1], [1, 3, 3, 1], [1, 4, 6, 4, 1], [1, 5, 10, 10, 5, 1], [1, 6, 15, 20, 15, 6, 1], [1, 7, 21, 35, 35, 21, 7, 1], [1, 8, 28, 56, 70, 56, 28, 8, 1], [1, 9, 36, 84, 126, 126, 84, 36, 9, 1], [1, 10, 45, 120, 210, 252, 210, 120, 45, 10, 1], [1, 11, 55, 165, 330, 462, 462, 330, 165, 55, 11, 1], [1, 12, 66, 220, 495, 792, 924, 792, 495, 220, 66, 12, 1], [1, 13, 78, 286, 715, 1287, 1716, 1716, 1287, 715, 286, 78, 13, 1]]
def pasI (m s : Nat) : Int := ((pasT.getD m []).getD s 0)
theorem ch_0_0 (g : G) : F_choose [.val (.int 0), .val (.int 0)] g = .ok (.int 1) g := by kernel_rfl
theorem ch_1_0 (g : G) : F_choose [.val (.int 1), .val (.int 0)] g = .ok (.int 1) g := by kernel_rfl
theorem ch_1_1 (g : G) : F_choose [.val (.int 1), .val (.int 1)] g = .ok (.int 1) g := by kernel_rfl
theorem ch_2_0 (g : G) : F_choose [.val (.int 2), .val (.int 0)] g = .ok (.int 1) g := by kernel_rfl
theorem ch_2_1 (g : G) : F_choose [.val (.int 2), .val (.int 1)] g = .ok (.int 2) g := by kernel_rfl
theorem ch_2_2 (g : G) : F_choose [.val (.int 2), .val (.int 2)] g = .ok (.int 1) g := by kernel_rfl
theorem ch_3_0 (g : G) : F_choose [.val (.int 3), .val (.int 0)] g = .ok (.int 1) g := by kernel_rfl
theorem ch_3_1 (g : G) : F_choose [.val (.int 3), .val (.int 1)] g = .ok (.int 3) g := by kernel_rfl
theorem ch_3_2 (g : G) : F_choose [.val (.int 3), .val (.int 2)] g = .ok (.int 3) g := by kernel_rfl
theorem ch_3_3 (g : G) : F_choose [.val (.int 3), .val (.int 3)] g = .ok (.int 1) g := by kernel_rfl
theorem ch_4_0 (g : G) : F_choose [.val (.int 4), .val (.int 0)] g = .ok (.int 1) g := by kernel_rfl
theorem ch_4_1 (g : G) : F_choose [.val (.int 4), .val (.int 1)] g = .ok (.int 4) g := by kernel_rfl
theorem ch_4_2 (g : G) : F_choose [.val (.int 4), .val (.int 2)] g = .ok (.int 6) g := by kernel_rfl
theorem ch_4_3 (g : G) : F_choose [.val (.int 4), .val (.int 3)] g = .ok (.int 4) g := by kernel_rfl
theorem ch_4_4 (g : G) : F_choose [.val (.int 4), .val (.int 4)] g = .ok (.int 1) g := by kernel_rfl
theorem ch_5_0 (g : G) : F_choose [.val (.int 5), .val (.int 0)] g = .ok (.int 1) g := by kernel_rfl
theorem ch_5_1 (g : G) : F_choose [.val (.int 5), .val (.int 1)] g = .ok (.int 5) g := by kernel_rfl
theorem ch_5_2 (g : G) : F_choose [.val (.int 5), .val (.int 2)] g = .ok (.int 10) g := by kernel_rfl
theorem ch_5_3 (g : G) : F_choose [.val (.int 5), .val (.int 3)] g = .ok (.int 10) g := by kernel_rfl
theorem ch_5_4 (g : G) : F_choose [.val (.int 5), .val (.int 4)] g = .ok (.int 5) g := by kernel_rfl
theorem ch_5_5 (g : G) : F_choose [.val (.int 5), .val (.int 5)] g = .ok (.int 1) g := by kernel_rfl
theorem ch_6_0 (g : G) : F_choose [.val (.int 6), .val (.int 0)] g = .ok (.int 1) g := by kernel_rfl
theorem ch_6_1 (g : G) : F_choose [.val (.int 6), .val (.int 1)] g = .ok (.int 6) g := by kernel_rfl
theorem ch_6_2 (g : G) : F_choose [.val (.int 6), .val (.int 2)] g = .ok (.int 15) g := by kernel_rfl
theorem ch_6_3 (g : G) : F_choose [.val (.int 6), .val (.int 3)] g = .ok (.int 20) g := by kernel_rfl
theorem ch_6_4 (g : G) : F_choose [.val (.int 6), .val (.int 4)] g = .ok (.int 15) g := by kernel_rfl
theorem ch_6_5 (g : G) : F_choose [.val (.int 6), .val (.int 5)] g = .ok (.int 6) g := by kernel_rfl
theorem ch_6_6 (g : G) : F_choose [.val (.int 6), .val (.int 6)] g = .ok (.int 1) g := by kernel_rfl
theorem ch_7_0 (g : G) : F_choose [.val (.int 7), .val (.int 0)] g = .ok (.int 1) g := by kernel_rfl
theorem ch_7_1 (g : G) : F_choose [.val (.int 7), .val (.int 1)] g = .ok (.int 7) g := by kernel_rfl
theorem ch_7_2 (g : G) : F_choose [.val (.int 7), .val (.int 2)] g = .ok (.int 21) g := by kernel_rfl
theorem ch_7_3 (g : G) : F_choose [.val (.int 7), .val (.int 3)] g = .ok (.int 35) g := by kernel_rfl
theorem ch_7_4 (g : G) : F_choose [.val (.int 7), .val (.int 4)] g = .ok (.int 35) g := by kernel_rfl
theorem ch_7_5 (g : G) : F_choose [.val (.int 7), .val (.int 5)] g = .ok (.int 21) g := by kernel_rfl
theorem ch_7_6 (g : G) : F_choose [.val (.int 7), .val (.int 6)] g = .ok (.int 7) g := by kernel_rfl
theorem ch_7_7 (g : G) : F_choose [.val (.int 7), .val (.int 7)] g = .ok (.int 1) g := by kernel_rfl
theorem ch_8_0 (g : G) : F_choose [.val (.int 8), .val (.int 0)] g = .ok (.int 1) g := by kernel_rfl
theorem ch_8_1 (g : G) : F_choose [.val (.int 8), .val (.int 1)] g = .ok (.int 8) g := by kernel_rfl
theorem ch_8_2 (g : G) : F_choose [.val (.int 8), .val (.int 2)] g = .ok (.int 28) g := by kernel_rfl
theorem ch_8_3 (g : G) : F_choose [.val (.int 8), .val (.int 3)] g = .ok (.int 56) g := by kernel_rfl
theorem ch_8_4 (g : G) : F_choose [.val (.int 8), .val (.int 4)] g = .ok (.int 70) g := by kernel_rfl
theorem ch_8_5 (g : G) : F_choose [.val (.int 8), .val (.int 5)] g = .ok (.int 56) g := by kernel_rfl
theorem ch_8_6 (g : G) : F_choose [.val (.int 8), .val (.int 6)] g = .ok (.int 28) g := by kernel_rfl
theorem ch_8_7 (g : G) : F_choose [.val (.int 8), .val (.int 7)] g = .ok (.int 8) g := by kernel_rfl
theorem ch_8_8 (g : G) : F_choose [.val (.int 8), .val (.int 8)] g = .ok (.int 1) g := by kernel_rfl
theorem ch_9_0 (g : G) : F_choose [.val (.int 9), .val (.int 0)] g = .ok (.int 1) g := by kernel_rfl
theorem ch_9_1 (g : G) : F_choose [.val (.int 9), .val (.int 1)] g = .ok (.int 9) g := by kernel_rfl
theorem ch_9_2 (g : G) : F_choose [.val (.int 9), .val (.int 2)] g = .ok (.int 36) g := by kernel_rfl
theorem ch_9_3 (g : G) : F_choose [.val (.int 9), .val (.int 3)] g = .ok (.int 84) g := by kernel_rfl
theorem ch_9_4 (g : G) : F_choose [.val (.int 9), .val (.int 4)] g = .ok (.int 126) g := by kernel_rfl
theorem ch_9_5 (g : G) : F_choose [.val (.int 9), .val (.int 5)] g = .ok (.int 126) g := by kernel_rfl
theorem ch_9_6 (g : G) : F_choose [.val (.int 9), .val (.int 6)] g = .ok (.int 84) g := by kernel_rfl
theorem ch_9_7 (g : G) : F_choose [.val (.int 9), .val (.int 7)] g = .ok (.int 36) g := by kernel_rfl
theorem ch_9_8 (g : G) : F_choose [.val (.int 9), .val (.int 8)] g = .ok (.int 9) g := by kernel_rfl
theorem ch_9_9 (g : G) : F_choose [.val (.int 9), .val (.int 9)] g = .ok (.int 1) g := by kernel_rfl
theorem ch_10_0 (g : G) : F_choose [.val (.int 10), .val (.int 0)] g = .ok (.int 1) g := by kernel_rfl
theorem ch_10_1 (g : G) : F_choose [.val (.int 10), .val (.int 1)] g = .ok (.int 10) g := by kernel_rfl
theorem ch_10_2 (g : G) : F_choose [.val (.int 10), .val (.int 2)] g = .ok (.int 45) g := by kernel_rfl
theorem ch_10_3 (g : G) : F_choose [.val (.int 10), .val (.int 3)] g = .ok (.int 120) g := by kernel_rfl
theorem ch_10_4 (g : G) : F_choose [.val (.int 10), .val (.int 4)] g = .ok (.int 210) g := by kernel_rfl
theorem ch_10_5 (g : G) : F_choose [.val (.int 10), .val (.int 5)] g = .ok (.int 252) g := by kernel_rfl
theorem ch_10_6 (g : G) : F_choose [.val (.int 10), .val (.int 6)] g = .ok (.int 210) g := by kernel_rfl
theorem ch_10_7 (g : G) : F_choose [.val (.int 10), .val (.int 7)] g = .ok (.int 120) g := by kernel_rfl
theorem ch_10_8 (g : G) : F_choose [.val (.int 10), .val (.int 8)] g = .ok (.int 45) g := by kernel_rfl
theorem ch_10_9 (g : G) : F_choose [.val (.int 10), .val (.int 9)] g = .ok (.int 10) g := by kernel_rfl
theorem ch_10_10 (g : G) : F_choose [.val (.int 10), .val (.int 10)] g = .ok (.int 1) g := by kernel_rfl
theorem ch_11_0 (g : G) : F_choose [.val (.int 11), .val (.int 0)] g = .ok (.int 1) g := by kernel_rfl
theorem ch_11_1 (g : G) : F_choose [.val (.int 11), .val (.int 1)] g = .ok (.int 11) g := by kernel_rfl
theorem ch_11_2 (g : G) : F_choose [.val (.int 11), .val (.int 2)] g = .ok (.int 55) g := by kernel_rfl
theorem ch_11_3 (g : G) : F_choose [.val (.int 11), .val (.int 3)] g = .ok (.int 165) g := by kernel_rfl
theorem ch_11_4 (g : G) : F_choose [.val (.int 11), .val (.int 4)] g = .ok (.int 330) g := by kernel_rfl
theorem ch_11_5 (g : G) : F_choose [.val (.int 11), .val (.int 5)] g = .ok (.int 462) g := by kernel_rfl
theorem ch_11_6 (g : G) : F_choose [.val (.int 11), .val (.int 6)] g = .ok (.int 462) g := by kernel_rfl
theorem ch_11_7 (g : G) : F_choose [.val (.int 11), .val (.int 7)] g = .ok (.int 330) g := by kernel_rfl
theorem ch_11_8 (g : G) : F_choose [.val (.int 11), .val (.int 8)] g = .ok (.int 165) g := by kernel_rfl
theorem ch_11_9 (g : G) : F_choose [.val (.int 11), .val (.int 9)] g = .ok (.int 55) g := by kernel_rfl
theorem ch_11_10 (g : G) : F_choose [.val (.int 11), .val (.int 10)] g = .ok (.int 11) g := by kernel_rfl
theorem ch_11_11 (g : G) : F_choose [.val (.int 11), .val (.int 11)] g = .ok (.int 1) g := by kernel_rfl
theorem ch_12_0 (g : G) : F_choose [.val (.int 12), .val (.int 0)] g = .ok (.int 1) g := by kernel_rfl
theorem ch_12_1 (g : G) : F_choose [.val (.int 12), .val (.int 1)] g = .ok (.int 12) g := by kernel_rfl
theorem ch_12_2 (g : G) : F_choose [.val (.int 12), .val (.int 2)] g = .ok (.int 66) g := by kernel_rfl
theorem ch_12_3 (g : G) : F_choose [.val (.int 12), .val (.int 3)] g = .ok (.int 220) g := by kernel_rfl
theorem ch_12_4 (g : G) : F_choose [.val (.int 12), .val (.int 4)] g = .ok (.int 495) g := by kernel_rfl
theorem ch_12_5 (g : G) : F_choose [.val (.int 12), .val (.int 5)] g = .ok (.int 792) g := by kernel_rfl
theorem ch_12_6 (g : G) : F_choose [.val (.int 12), .val (.int 6)] g = .ok (.int 924) g := by kernel_rfl
theorem ch_12_7 (g : G) : F_choose [.val (.int 12), .val (.int 7)] g = .ok (.int 792) g := by kernel_rfl
theorem ch_12_8 (g : G) : F_choose [.val (.int 12), .val (.int 8)] g = .ok (.int 495) g := by kernel_rfl
theorem ch_12_9 (g : G) : F_choose [.val (.int 12), .val (.int 9)] g = .ok (.int 220) g := by kernel_rfl
theorem ch_12_10 (g : G) : F_choose [.val (.int 12), .val (.int 10)] g = .ok (.int 66) g := by kernel_rfl
theorem ch_12_11 (g : G) : F_choose [.val (.int 12), .val (.int 11)] g = .ok (.int 12) g := by kernel_rfl
theorem ch_12_12 (g : G) : F_choose [.val (.int 12), .val (.int 12)] g = .ok (.int 1) g := by kernel_rfl
theorem ch_13_0 (g : G) : F_choose [.val (.int 13), .val (.int 0)] g = .ok (.int 1) g := by kernel_rfl
theorem ch_13_1 (g : G) : F_choose [.val (.int 13), .val (.int 1)] g = .ok (.int 13) g := by kernel_rfl
theorem ch_13_2 (g : G) : F_choose [.val (.int 13), .val (.int 2)] g = .ok (.int 78) g := by kernel_rfl
theorem ch_13_3 (g : G) : F_choose [.val (.int 13), .val (.int 3)] g = .ok (.int 286) g := by kernel_rfl
theorem ch_13_4 (g : G) : F_choose [.val (.int 13), .val (.int 4)] g = .ok (.int 715) g := by kernel_rfl
theorem ch_13_5 (g : G) : F_choose [.val (.int 13), .val (.int 5)] g = .ok (.int 1287) g := by kernel_rfl
theorem ch_13_6 (g : G) : F_choose [.val (.int 13), .val (.int 6)] g = .ok (.int 1716) g := by kernel_rfl
theorem ch_13_7 (g : G) : F_choose [.val (.int 13), .val (.int 7)] g = .ok (.int 1716) g := by kernel_rfl
theorem ch_13_8 (g : G) : F_choose [.val (.int 13), .val (.int 8)] g = .ok (.int 1287) g := by kernel_rfl
theorem ch_13_9 (g : G) : F_choose [.val (.int 13), .val (.int 9)] g = .ok (.int 715) g := by kernel_rfl
theorem ch_13_10 (g : G) : F_choose [.val (.int 13), .val (.int 10)] g = .ok (.int 286) g := by kernel_rfl
theorem ch_13_11 (g : G) : F_choose [.val (.int 13), .val (.int 11)] g = .ok (.int 78) g := by kernel_rfl
theorem ch_13_12 (g : G) : F_choose [.val (.int 13), .val (.int 12)] g = .ok (.int 13) g := by kernel_rfl
theorem ch_13_13 (g : G) : F_choose [.val (.int 13), .val (.int 13)] g = .ok (.int 1) g := by kernel_rfl
theorem t_choose0 (m s : Int) (h : s < 0 ∨ m < s) (g : G) : F_choose [.val (.int m), .val (.int s)] g = .ok (.int 0) g := by
  by_cases h0 : 0 ≤ s
  · have h1 : ¬ s ≤ m := by omega
    simp [runB, sSeq, sAsg, sRet, sIf, sDrop, sNext, sAug, sRaise, sFor, sApp, sOwn, sPar, sParOV, sParVO, sParOO, sPar3, sFrz, sExt, eBor, eC, eVar, getV, getO, getOw, eBin, eTest, eChain, bAnd, bOr, bNot, eAnd, eOr, eNot, eIf, aNil, aCons, sNil, sCons, sObj, eTup, eLst, eCall, eCallF, eUn, eUnD, eIsi, eSl, oNo, Av.oAt, fLst, fList, iSeq, iVia, tYesM, bnd, lift, Res.bind, Av.ret, frz, small, Nat.ble, Av.plain, le_i, gt_i, ge_i, lt_i, sub_i, add_i, ipAdd_i, ipSub_i, neg_i, is_b, isNot_b, asB_b, asI_i, isi_ii, isi_bi, isi_bb, isi_ib, isi_ti, isi_tt, isi_tl, isi_tn, isi_ts, isi_in, isi_is, isi_it, isi_il, F_choose, m_choose, h0, h1]
  · simp [runB, sSeq, sAsg, sRet, sIf, sDrop, sNext, sAug, sRaise, sFor, sApp, sOwn, sPar, sParOV, sParVO, sParOO, sPar3, sFrz, sExt, eBor, eC, eVar, getV, getO, getOw, eBin, eTest, eChain, bAnd, bOr, bNot, eAnd, eOr, eNot, eIf, aNil, aCons, sNil, sCons, sObj, eTup, eLst, eCall, eCallF, eUn, eUnD, eIsi, eSl, oNo, Av.oAt, fLst, fList, iSeq, iVia, tYesM, bnd, lift, Res.bind, Av.ret, frz, small, Nat.ble, Av.plain, le_i, gt_i, ge_i, lt_i, sub_i, add_i, ipAdd_i, ipSub_i, neg_i, is_b, isNot_b, asB_b, asI_i, isi_ii, isi_bi, isi_bb, isi_ib, isi_ti, isi_tt, isi_tl, isi_tn, isi_ts, isi_in, isi_is, isi_it, isi_il, F_choose, m_choose, h0]
theorem t_choose (m s : Nat) (hm : m ≤ 13) (hs : s ≤ m) (g : G) : F_choose [.val (.int (m : Int)), .val (.int (s : Int))] g = .ok (.int (pasI m s)) g := by
  match m, hm, s, hs with
  | 0, _, 0, _ => exact ch_0_0 g
  | 1, _, 0, _ => exact ch_1_0 g
  | 1, _, 1, _ => exact ch_1_1 g
  | 2, _, 0, _ => exact ch_2_0 g
  | 2, _, 1, _ => exact ch_2_1 g
  | 2, _, 2, _ => exact ch_2_2 g
  | 3, _, 0, _ => exact ch_3_0 g
  | 3, _, 1, _ => exact ch_3_1 g
  | 3, _, 2, _ => exact ch_3_2 g
  | 3, _, 3, _ => exact ch_3_3 g
  | 4, _, 0, _ => exact ch_4_0 g
  | 4, _, 1, _ => exact ch_4_1 g
  | 4, _, 2, _ => exact ch_4_2 g
  | 4, _, 3, _ => exact ch_4_3 g
  | 4, _, 4, _ => exact ch_4_4 g
  | 5, _, 0, _ => exact ch_5_0 g
  | 5, _, 1, _ => exact ch_5_1 g
  | 5, _, 2, _ => exact ch_5_2 g
  | 5, _, 3, _ => exact ch_5_3 g
  | 5, _, 4, _ => exact ch_5_4 g
  | 5, _, 5, _ => exact ch_5_5 g
  | 6, _, 0, _ => exact ch_6_0 g
  | 6, _, 1, _ => exact ch_6_1 g
  | 6, _, 2, _ => exact ch_6_2 g
  | 6, _, 3, _ => exact ch_6_3 g
  | 6, _, 4, _ => exact ch_6_4 g
  | 6, _, 5, _ => exact ch_6_5 g
  | 6, _, 6, _ => exact ch_6_6 g
  | 7, _, 0, _ => exact ch_7_0 g
  | 7, _, 1, _ => exact ch_7_1 g
  | 7, _, 2, _ => exact ch_7_2 g
  | 7, _, 3, _ => exact ch_7_3 g
  | 7, _, 4, _ => exact ch_7_4 g
  | 7, _, 5, _ => exact ch_7_5 g
  | 7, _, 6, _ => exact ch_7_6 g
  | 7, _, 7, _ => exact ch_7_7 g
  | 8, _, 0, _ => exact ch_8_0 g
  | 8, _, 1, _ => exact ch_8_1 g
  | 8, _, 2, _ => exact ch_8_2 g
  | 8, _, 3, _ => exact ch_8_3 g
  | 8, _, 4, _ => exact ch_8_4 g
  | 8, _, 5, _ => exact ch_8_5 g
  | 8, _, 6, _ => exact ch_8_6 g
  | 8, _, 7, _ => exact ch_8_7 g
  | 8, _, 8, _ => exact ch_8_8 g
  | 9, _, 0, _ => exact ch_9_0 g
  | 9, _, 1, _ => exact ch_9_1 g
  | 9, _, 2, _ => exact ch_9_2 g
  | 9, _, 3, _ => exact ch_9_3 g
  | 9, _, 4, _ => exact ch_9_4 g
  | 9, _, 5, _ => exact ch_9_5 g
  | 9, _, 6, _ => exact ch_9_6 g
  | 9, _, 7, _ => exact ch_9_7 g
  | 9, _, 8, _ => exact ch_9_8 g
  | 9, _, 9, _ => exact ch_9_9 g
  | 10, _, 0, _ => exact ch_10_0 g
  | 10, _, 1, _ => exact ch_10_1 g
  | 10, _, 2, _ => exact ch_10_2 g
  | 10, _, 3, _ => exact ch_10_3 g
  | 10, _, 4, _ => exact ch_10_4 g
  | 10, _, 5, _ => exact ch_10_5 g
  | 10, _, 6, _ => exact ch_10_6 g
  | 10, _, 7, _ => exact ch_10_7 g
  | 10, _, 8, _ => exact ch_10_8 g
  | 10, _, 9, _ => exact ch_10_9 g
  | 10, _, 10, _ => exact ch_10_10 g
  | 11, _, 0, _ => exact ch_11_0 g
  | 11, _, 1, _ => exact ch_11_1 g
  | 11, _, 2, _ => exact ch_11_2 g
  | 11, _, 3, _ => exact ch_11_3 g
  | 11, _, 4, _ => exact ch_11_4 g
  | 11, _, 5, _ => exact ch_11_5 g
  | 11, _, 6, _ => exact ch_11_6 g
  | 11, _, 7, _ => exact ch_11_7 g
  | 11, _, 8, _ => exact ch_11_8 g
  | 11, _, 9, _ => exact ch_11_9 g
  | 11, _, 10, _ => exact ch_11_10 g
  | 11, _, 11, _ => exact ch_11_11 g
  | 12, _, 0, _ => exact ch_12_0 g
  | 12, _, 1, _ => exact ch_12_1 g
  | 12, _, 2, _ => exact ch_12_2 g
  | 12, _, 3, _ => exact ch_12_3 g
  | 12, _, 4, _ => exact ch_12_4 g
  | 12, _, 5, _ => exact ch_12_5 g
  | 12, _, 6, _ => exact ch_12_6 g
  | 12, _, 7, _ => exact ch_12_7 g
  | 12, _, 8, _ => exact ch_12_8 g
  | 12, _, 9, _ => exact ch_12_9 g
  | 12, _, 10, _ => exact ch_12_10 g
  | 12, _, 11, _ => exact ch_12_11 g
  | 12, _, 12, _ => exact ch_12_12 g
  | 13, _, 0, _ => exact ch_13_0 g
  | 13, _, 1, _ => exact ch_13_1 g
  | 13, _, 2, _ => exact ch_13_2 g
  | 13, _, 3, _ => exact ch_13_3 g
  | 13, _, 4, _ => exact ch_13_4 g
  | 13, _, 5, _ => exact ch_13_5 g
  | 13, _, 6, _ => exact ch_13_6 g
  | 13, _, 7, _ => exact ch_13_7 g
  | 13, _, 8, _ => exact ch_13_8 g
  | 13, _, 9, _ => exact ch_13_9 g
  | 13, _, 10, _ => exact ch_13_10 g
  | 13, _, 11, _ => exact ch_13_11 g
  | 13, _, 12, _ => exact ch_13_12 g
  | 13, _, 13, _ => exact ch_13_13 g
  | 0, _, s + 1, h => omega
  | 1, _, s + 2, h => omega
  | 2, _, s + 3, h => omega
  | 3, _, s + 4, h => omega
  | 4, _, s + 5, h => omega
  | 5, _, s + 6, h => omega
  | 6, _, s + 7, h => omega
  | 7, _, s + 8, h => omega
  | 8, _, s + 9, h => omega
  | 9, _, s + 10, h => omega
  | 10, _, s + 11, h => omega
  | 11, _, s + 12, h => omega
  | 12, _, s + 13, h => omega
  | 13, _, s + 14, h => omega
  | m + 14, h, _, _ => omega
def chI (m s : Int) : Option Int := if (decide (s < 0) || decide (m < s)) = true then some 0 else if decide (m ≤ 13) = true then some (pasI m.toNat s.toNat) else none
def E_choose (as : List Sl) : Mo PD := match as with
  | [.val (.int m), .val (.int s)] => match chI m s with
    | some z => ret (.int z)
    | none => F_choose as
  | _ => F_choose as
theorem re_choose (as : List Sl) (g : G) : E_choose as g = .bad ∨ F_choose as g = E_choose as g := by
  right
  unfold E_choose
  split
  · rename_i m s
    unfold chI
    by_cases h : s < 0 ∨ m < s
    · have hb : (decide (s < 0) || decide (m < s)) = true := by simpa using h
      rw [if_pos hb]
      exact t_choose0 m s h g
    · have hb : ¬ (decide (s < 0) || decide (m < s)) = true := by simpa using h
      rw [if_neg hb]
      by_cases h13 : m ≤ 13
      · rw [if_pos (decide_eq_true h13)]
        obtain ⟨m', rfl⟩ := Int.eq_ofNat_of_zero_le (show 0 ≤ m by omega)
        obtain ⟨s', rfl⟩ := Int.eq_ofNat_of_zero_le (show 0 ≤ s by omega)
        exact t_choose m' s' (by omega) (by omega) g
      · rw [if_neg (by simpa using h13)]
  · rfl
end Lw

namespace Lw
open PySem PySem.Spec L2 Av
open PyProof.Rows hiding St
set_option autoImplicit false
def m_heights : List Sl → Mo Fl :=
  (sSeq (sDrop (eCallF E_check_path (sCons (eVar 0) sNil)))
    (sRet (eCallF E_heights_of (sCons (eVar 0) sNil))))
def F_heights : List Sl → Mo PD := runB 1 1 m_heights
def m_stays_up : List Sl → Mo Fl :=
  (sSeq (sDrop (eCallF E_check_path (sCons (eVar 0) sNil)))
    (sRet (eCallF E_is_up (sCons (eVar 0) sNil))))
def F_stays_up : List Sl → Mo PD := runB 1 1 m_stays_up
def m_is_hill : List Sl → Mo Fl :=
  (sSeq (sDrop (eCallF E_check_path (sCons (eVar 0) sNil)))
    (sRet (eCallF E_closes (sCons (eVar 0) sNil))))
def F_is_hill : List Sl → Mo PD := runB 1 1 m_is_hill
def m_mirrored : List Sl → Mo Fl :=
  (sSeq (sDrop (eCallF E_check_path (sCons (eVar 0) sNil)))
    (sRet (eCall tupleD (aCons (eLc (iSeq (eUnD revD (eVar 0))) (.one 1) tYesM (eBin subD (eC (.int 0)) (eVar 1))) aNil))))
def F_mirrored : List Sl → Mo PD := runB 1 2 m_mirrored
def m__law_same_truth : List Sl → Mo Fl :=
  (sRet (eAnd (eIsi .bool (eVar 0)) (eBin eqD (eVar 0) (eVar 1))))
def F__law_same_truth : List Sl → Mo PD := runB 2 2 m__law_same_truth
def m__law_any_path : List Sl → Mo Fl :=
  (sSeq (sAsg 3 (eBin addD (eC (.int 1)) (eCallF F__law_draw (sObj 0 (sObj 1 (sCons (eC (.int 3)) sNil))))))
    (sSeq (sAsg 4 (eCallF F__law_draw (sObj 0 (sObj 1 (sCons (eBin addD (eVar 2) (eC (.int 1))) sNil)))))
    (sRet (eCall tupleD (aCons (eLc (iVia rng1 (aCons (eVar 4) aNil)) (.one 5) tYesM (eIf (eTest (eBin ltD (eCallF F__law_draw (sObj 0 (sObj 1 (sCons (eC (.int 4)) sNil)))) (eVar 3))) (eC (.int 1)) (eBin subD (eC (.int 0)) (eC (.int 1))))) aNil)))))
def F__law_any_path : List Sl → Mo PD := runB 3 6 m__law_any_path
def m__law_some_hill : List Sl → Mo Fl :=
  (sSeq (sParOV 3 4 (fLst aNil) (eC (.int 0)))
    (sSeq (sFor (iVia rng1 (aCons (eBin mulE (eC (.int 2)) (eVar 2)) aNil)) (.one 5) (sSeq (sAsg 6 (eBin subD (eBin mulE (eC (.int 2)) (eVar 2)) (eVar 5)))
    (sSeq (sIf (bOr (eTest (eBin eqD (eVar 4) (eC (.int 0)))) (bAnd (eTest (eBin ltD (eVar 4) (eVar 6))) (eTest (eBin eqD (eCallF F__law_draw (sObj 0 (sObj 1 (sCons (eC (.int 2)) sNil)))) (eC (.int 0)))))) (sApp 3 (eC (.int 1))) (sApp 3 (eBin subD (eC (.int 0)) (eC (.int 1)))))
    (sAug 4 ipAdd (eBor 3 (eBin ixD (eVar 3) (eUn negD (eC (.int 1)))))))))
    (sFrz 3 (sRet (eCall tupleD (aCons (eVar 3) aNil))))))
def F__law_some_hill : List Sl → Mo PD := runB 3 7 m__law_some_hill
def m_is_row : List Sl → Mo Fl :=
  (sSeq (sIf (bOr (bNot (eTest (eIsi .tuple (eVar 0)))) (bNot (eTest (eChain leD leD (eC (.int 1)) (eCall lenD (aCons (eVar 0) aNil)) (eC (.int 12)))))) (sRet (eC (.bool false))) sNext)
    (sRet (eCall allD (aCons (eLc (iSeq (eVar 0)) (.one 1) tYesM (eCallF E_is_integer (sCons (eVar 1) (sCons (eUn negD (eC (.int 9))) (sCons (eC (.int 1)) sNil))))) aNil))))
def F_is_row : List Sl → Mo PD := runB 1 2 m_is_row
def m_check_row : List Sl → Mo Fl :=
  (sIf (bNot (eTest (eCallF F_is_row (sCons (eVar 0) sNil)))) (sRaise 1) sNext)
def F_check_row : List Sl → Mo PD := runB 1 1 m_check_row
def m_turned_by : List Sl → Mo Fl :=
  (sRet (eBin addD (eSl (eVar 0) (Av.oAt (eVar 1)) oNo) (eSl (eVar 0) oNo (Av.oAt (eVar 1)))))
def F_turned_by : List Sl → Mo PD := runB 2 2 m_turned_by
def m_turned : List Sl → Mo Fl :=
  (sSeq (sDrop (eCallF F_check_row (sCons (eVar 0) sNil)))
    (sSeq (sIf (bNot (eTest (eCallF E_is_integer (sCons (eVar 1) (sCons (eC (.int 0)) (sCons (eBin subD (eCall lenD (aCons (eVar 0) aNil)) (eC (.int 1))) sNil)))))) (sRaise 2) sNext)
    (sRet (eCallF F_turned_by (sCons (eVar 0) (sCons (eVar 1) sNil))))))
def F_turned : List Sl → Mo PD := runB 2 2 m_turned
def m_good_starts : List Sl → Mo Fl :=
  (sSeq (sDrop (eCallF F_check_row (sCons (eVar 0) sNil)))
    (sRet (eLc (iVia rng1 (aCons (eCall lenD (aCons (eVar 0) aNil)) aNil)) (.one 1) (eTest (eBin gtD (eCall minE (aCons (eSl (eCallF E_heights_of (sCons (eCallF F_turned_by (sCons (eVar 0) (sCons (eVar 1) sNil))) sNil)) (Av.oAt (eC (.int 1))) oNo) aNil)) (eC (.int 0)))) (eVar 1))))
def F_good_starts : List Sl → Mo PD := runB 1 2 m_good_starts
def m__law_turn : List Sl → Mo Fl :=
  (sTry js12 (sRet (eCallF F_turned (sCons (eVar 0) (sCons (eVar 1) sNil)))))
def F__law_turn : List Sl → Mo PD := runB 2 3 m__law_turn
def m_check_steps : List Sl → Mo Fl :=
  (sIf (bOr (bNot (eTest (eCallF E_is_integer (sCons (eVar 0) (sCons (eC (.int 0)) (sCons (eC (.int 12)) sNil)))))) (bOr (bNot (eTest (eCallF E_is_integer (sCons (eVar 1) (sCons (eC (.int 0)) (sCons (eC (.int 12)) sNil)))))) (eTest (eBin gtD (eBin addD (eVar 0) (eVar 1)) (eC (.int 12)))))) (sRaise 2) sNext)
def F_check_steps : List Sl → Mo PD := runB 2 2 m_check_steps
def m_count_paths : List Sl → Mo Fl :=
  (sSeq (sDrop (eCallF F_check_steps (sCons (eVar 0) (sCons (eVar 1) sNil))))
    (sRet (eCallF E_choose (sCons (eBin addD (eVar 0) (eVar 1)) (sCons (eVar 0) sNil)))))
def F_count_paths : List Sl → Mo PD := runB 2 2 m_count_paths
def m_up_count : List Sl → Mo Fl :=
  (sRet (eIf (eTest (eBin geD (eVar 0) (eVar 1))) (eBin fdivD (eBin mulE (eCallF E_choose (sCons (eBin addD (eVar 0) (eVar 1)) (sCons (eVar 0) sNil))) (eBin addD (eBin subD (eVar 0) (eVar 1)) (eC (.int 1)))) (eBin addD (eVar 0) (eC (.int 1)))) (eC (.int 0))))
def F_up_count : List Sl → Mo PD := runB 2 2 m_up_count
def m_count_up : List Sl → Mo Fl :=
  (sSeq (sDrop (eCallF F_check_steps (sCons (eVar 0) (sCons (eVar 1) sNil))))
    (sRet (eCallF F_up_count (sCons (eVar 0) (sCons (eVar 1) sNil)))))
def F_count_up : List Sl → Mo PD := runB 2 2 m_count_up
def m_count_above : List Sl → Mo Fl :=
  (sSeq (sDrop (eCallF F_check_steps (sCons (eVar 0) (sCons (eVar 1) sNil))))
    (sSeq (sIf (eTest (eBin eqD (eBin addD (eVar 0) (eVar 1)) (eC (.int 0)))) (sRet (eC (.int 1))) sNext)
    (sRet (eIf (eTest (eBin gtD (eVar 0) (eVar 1))) (eBin fdivD (eBin mulE (eCallF E_choose (sCons (eBin addD (eVar 0) (eVar 1)) (sCons (eVar 0) sNil))) (eBin subD (eVar 0) (eVar 1))) (eBin addD (eVar 0) (eVar 1))) (eC (.int 0))))))
def F_count_above : List Sl → Mo PD := runB 2 2 m_count_above
def m_all_up : List Sl → Mo Fl :=
  (sSeq (sDrop (eCallF F_check_steps (sCons (eVar 0) (sCons (eVar 1) sNil))))
    (sSeq (sAsg 2 (eIf (eTest (eBin geD (eVar 0) (eVar 1))) (eLst (aCons (eTup aNil) aNil)) (eLst aNil)))
    (sSeq (sFor (iVia rng1 (aCons (eBin addD (eVar 0) (eVar 1)) aNil)) (.one 3) (sSeq (sOwn 4 (fLst aNil))
    (sSeq (sFor (iSeq (eVar 2)) (.one 5) (sSeq (sIf (bAnd (eTest (eBin ltD (eM2 cntD (eVar 5) (eUn negD (eC (.int 1)))) (eVar 1))) (eTest (eBin gtD (eCall sumE (aCons (eVar 5) aNil)) (eC (.int 0))))) (sApp 4 (eBin addD (eVar 5) (eTup (aCons (eUn negD (eC (.int 1))) aNil)))) sNext)
    (sIf (eTest (eBin ltD (eM2 cntD (eVar 5) (eC (.int 1))) (eVar 0))) (sApp 4 (eBin addD (eVar 5) (eTup (aCons (eC (.int 1)) aNil)))) sNext)))
    (sFrz 4 (sAsg 2 (eVar 4))))))
    (sRet (eVar 2)))))
def F_all_up : List Sl → Mo PD := runB 2 6 m_all_up
def m__law_same_number : List Sl → Mo Fl :=
  (sRet (eAnd (eIsi .int (eVar 0)) (eAnd (eNot (eIsi .bool (eVar 0))) (eBin eqD (eVar 0) (eVar 1)))))
def F__law_same_number : List Sl → Mo PD := runB 2 2 m__law_same_number
def m__law_every_path : List Sl → Mo Fl :=
  (sSeq (sAsg 2 (eLst (aCons (eTup aNil) aNil)))
    (sSeq (sFor (iVia rng1 (aCons (eBin addD (eVar 0) (eVar 1)) aNil)) (.one 3) (sSeq (sOwn 4 (fLst aNil))
    (sSeq (sFor (iSeq (eVar 2)) (.one 5) (sSeq (sIf (eTest (eBin ltD (eM2 cntD (eVar 5) (eBin subD (eC (.int 0)) (eC (.int 1)))) (eVar 1))) (sApp 4 (eBin addD (eVar 5) (eTup (aCons (eBin subD (eC (.int 0)) (eC (.int 1))) aNil)))) sNext)
    (sIf (eTest (eBin ltD (eM2 cntD (eVar 5) (eC (.int 1))) (eVar 0))) (sApp 4 (eBin addD (eVar 5) (eTup (aCons (eC (.int 1)) aNil)))) sNext)))
    (sFrz 4 (sAsg 2 (eVar 4))))))
    (sRet (eVar 2))))
def F__law_every_path : List Sl → Mo PD := runB 2 6 m__law_every_path
def m__law_chosen : List Sl → Mo Fl :=
  (sSeq (sAsg 2 (eLst (aCons (eC (.int 1)) aNil)))
    (sSeq (sFor (iVia rng1 (aCons (eVar 0) aNil)) (.one 3) (sAsg 2 (eBin addD (eBin addD (eLst (aCons (eC (.int 1)) aNil)) (eLc (iVia zipD (aCons (eVar 2) (aCons (eSl (eVar 2) (Av.oAt (eC (.int 1))) oNo) aNil))) (.two 4 5) tYesM (eBin addD (eVar 4) (eVar 5)))) (eLst (aCons (eC (.int 1)) aNil)))))
    (sRet (eIf (eTest (eChain leD leD (eC (.int 0)) (eVar 1) (eVar 0))) (eBin ixD (eVar 2) (eVar 1)) (eC (.int 0))))))
def F__law_chosen : List Sl → Mo PD := runB 2 6 m__law_chosen
def m_endings : List Sl → Mo Fl :=
  (sSeq (sIf (bOr (eTest (eBin ltD (eVar 0) (eC (.int 0)))) (bOr (eTest (eBin ltD (eVar 1) (eC (.int 0)))) (bOr (eTest (eBin ltD (eVar 2) (eC (.int 0)))) (eTest (eBin ltD (eBin addD (eVar 0) (eVar 1)) (eVar 2)))))) (sRet (eC (.int 0))) sNext)
    (sRet (eBin subD (eCallF E_choose (sCons (eBin addD (eVar 1) (eVar 2)) (sCons (eVar 1) sNil))) (eCallF E_choose (sCons (eBin addD (eVar 1) (eVar 2)) (sCons (eBin addD (eBin addD (eVar 1) (eVar 0)) (eC (.int 1))) sNil))))))
def F_endings : List Sl → Mo PD := runB 3 3 m_endings
def m_path_at : List Sl → Mo Fl :=
  (sSeq (sAsg 3 (eTup aNil))
    (sSeq (sWhile (eTest (eBin gtD (eBin addD (eVar 0) (eVar 1)) (eC (.int 0)))) (sSeq (sAsg 4 (eCallF F_endings (sCons (eBin subD (eCall sumE (aCons (eVar 3) aNil)) (eC (.int 1))) (sCons (eVar 0) (sCons (eBin subD (eVar 1) (eC (.int 1))) sNil)))))
    (sIf (eTest (eBin ltD (eVar 2) (eVar 4))) (sPar 3 1 (aCons (eBin addD (eVar 3) (eTup (aCons (eUn negD (eC (.int 1))) aNil))) (aCons (eBin subD (eVar 1) (eC (.int 1))) aNil))) (sPar3 3 0 2 (aCons (eBin addD (eVar 3) (eTup (aCons (eC (.int 1)) aNil))) (aCons (eBin subD (eVar 0) (eC (.int 1))) (aCons (eBin subD (eVar 2) (eVar 4)) aNil)))))) 64)
    (sRet (eVar 3))))
def F_path_at : List Sl → Mo PD := runB 3 5 m_path_at
def m_rank : List Sl → Mo Fl :=
  (sSeq (sDrop (eCallF E_check_path (sCons (eVar 0) sNil)))
    (sSeq (sIf (bNot (eTest (eCallF E_is_up (sCons (eVar 0) sNil)))) (sRaise 4) sNext)
    (sSeq (sPar3 1 2 3 (aCons (eM2 cntD (eVar 0) (eC (.int 1))) (aCons (eM2 cntD (eVar 0) (eUn negD (eC (.int 1)))) (aCons (eC (.int 0)) aNil))))
    (sSeq (sFor (iVia enumT (aCons (eVar 0) aNil)) (.two 4 5) (sIf (eTest (eBin eqD (eVar 5) (eC (.int 1)))) (sSeq (sAug 3 ipAdd (eCallF F_endings (sCons (eBin subD (eCall sumE (aCons (eSl (eVar 0) oNo (Av.oAt (eVar 4))) aNil)) (eC (.int 1))) (sCons (eVar 1) (sCons (eBin subD (eVar 2) (eC (.int 1))) sNil)))))
    (sAug 1 ipSub (eC (.int 1)))) (sAug 2 ipSub (eC (.int 1)))))
    (sRet (eVar 3))))))
def F_rank : List Sl → Mo PD := runB 1 6 m_rank
def m_from_rank : List Sl → Mo Fl :=
  (sSeq (sDrop (eCallF F_check_steps (sCons (eVar 0) (sCons (eVar 1) sNil))))
    (sSeq (sIf (bNot (eTest (eCallF E_is_integer (sCons (eVar 2) (sCons (eC (.int 0)) (sCons (eBin subD (eCallF F_up_count (sCons (eVar 0) (sCons (eVar 1) sNil))) (eC (.int 1))) sNil)))))) (sRaise 2) sNext)
    (sRet (eCallF F_path_at (sCons (eVar 0) (sCons (eVar 1) (sCons (eVar 2) sNil)))))))
def F_from_rank : List Sl → Mo PD := runB 3 3 m_from_rank
def m_exchanged : List Sl → Mo Fl :=
  (sRet (eBin addD (eCall tupleD (aCons (eLc (iSeq (eSl (eVar 0) oNo (Av.oAt (eVar 1)))) (.one 2) tYesM (eBin subD (eC (.int 0)) (eVar 2))) aNil)) (eSl (eVar 0) (Av.oAt (eVar 1)) oNo)))
def F_exchanged : List Sl → Mo PD := runB 2 3 m_exchanged
def m_reflected : List Sl → Mo Fl :=
  (sSeq (sDrop (eCallF E_check_path (sCons (eVar 0) sNil)))
    (sSeq (sAsg 1 (eCallF E_heights_of (sCons (eVar 0) sNil)))
    (sSeq (sIf (eTest (eBin notInD (eUn negD (eC (.int 1))) (eVar 1))) (sRaise 6) sNext)
    (sRet (eCallF F_exchanged (sCons (eVar 0) (sCons (eM2 idxD (eVar 1) (eUn negD (eC (.int 1)))) sNil)))))))
def F_reflected : List Sl → Mo PD := runB 1 2 m_reflected
def m_unreflected : List Sl → Mo Fl :=
  (sSeq (sDrop (eCallF E_check_path (sCons (eVar 0) sNil)))
    (sSeq (sAsg 1 (eCallF E_heights_of (sCons (eVar 0) sNil)))
    (sSeq (sIf (eTest (eBin notInD (eC (.int 1)) (eVar 1))) (sRaise 8) sNext)
    (sRet (eCallF F_exchanged (sCons (eVar 0) (sCons (eM2 idxD (eVar 1) (eC (.int 1))) sNil)))))))
def F_unreflected : List Sl → Mo PD := runB 1 2 m_unreflected
def m_pairs : List Sl → Mo Fl :=
  (sSeq (sDrop (eCallF E_check_hill (sCons (eVar 0) sNil)))
    (sSeq (sParOO 1 2 (fLst aNil) (fLst aNil))
    (sSeq (sFor (iVia enumT (aCons (eVar 0) aNil)) (.two 3 4) (sIf (eTest (eBin eqD (eVar 4) (eC (.int 1)))) (sApp 1 (eVar 3)) (sAppPop 2 1 3)))
    (sFrz 2 (sRet (eCall sorted2 (aCons (eVar 2) aNil)))))))
def F_pairs : List Sl → Mo PD := runB 1 5 m_pairs
def m_branch_count (R : List Sl → Mo PD) : List Sl → Mo Fl :=
  (sSeq (sIf (bNot (eTest (eIsi .tuple (eVar 0)))) (sRet (eC (.int 99))) sNext)
    (sSeq (sAsg 1 (eC (.int 0)))
    (sSeq (sFor (iSeq (eVar 0)) (.one 2) (sSeq (sAug 1 ipAdd (eBin addD (eC (.int 1)) (eCallF R (sCons (eVar 2) sNil))))
    (sIf (eTest (eBin gtD (eVar 1) (eC (.int 6)))) (sRet (eC (.int 99))) sNext)))
    (sRet (eVar 1)))))
def F_branch_count : Nat → List Sl → Mo PD
  | 0 => fun _ => fail
  | n + 1 => runB 1 3 (m_branch_count (F_branch_count n))
def m_is_tree : List Sl → Mo Fl :=
  (sRet (eBin leD (eCallF (F_branch_count 9) (sCons (eVar 0) sNil)) (eC (.int 6))))
def F_is_tree : List Sl → Mo PD := runB 1 1 m_is_tree
def m_tree : List Sl → Mo Fl :=
  (sSeq (sDrop (eCallF E_check_hill (sCons (eVar 0) sNil)))
    (sSeq (sOwn 1 (fLst (aCons (eTup aNil) aNil)))
    (sSeq (sFor (iSeq (eVar 0)) (.one 2) (sIf (eTest (eBin eqD (eVar 2) (eC (.int 1)))) (sApp 1 (eTup aNil)) (sSeq (sPop 3 1)
    (sSetIx 1 (eUn negD (eC (.int 1))) (eBor 1 (eBin addD (eBin ixD (eVar 1) (eUn negD (eC (.int 1)))) (eTup (aCons (eVar 3) aNil))))))))
    (sFrz 1 (sRet (eBin ixD (eVar 1) (eC (.int 0))))))))
def F_tree : List Sl → Mo PD := runB 1 4 m_tree
def m_built (R : List Sl → Mo PD) : List Sl → Mo Fl :=
  (sSeq (sAsg 1 (eTup aNil))
    (sSeq (sFor (iSeq (eVar 0)) (.one 2) (sAsg 1 (eBin addD (eBin addD (eBin addD (eVar 1) (eTup (aCons (eC (.int 1)) aNil))) (eCallF R (sCons (eVar 2) sNil))) (eTup (aCons (eUn negD (eC (.int 1))) aNil)))))
    (sRet (eVar 1))))
def F_built : Nat → List Sl → Mo PD
  | 0 => fun _ => fail
  | n + 1 => runB 1 3 (m_built (F_built n))
def m_hill : List Sl → Mo Fl :=
  (sSeq (sIf (bNot (eTest (eCallF F_is_tree (sCons (eVar 0) sNil)))) (sRaise 3) sNext)
    (sRet (eCallF (F_built 9) (sCons (eVar 0) sNil))))
def F_hill : List Sl → Mo PD := runB 1 1 m_hill
def m_peaks : List Sl → Mo Fl :=
  (sSeq (sDrop (eCallF E_check_path (sCons (eVar 0) sNil)))
    (sRet (eCall lenD (aCons (eLc (iVia zipD (aCons (eVar 0) (aCons (eSl (eVar 0) (Av.oAt (eC (.int 1))) oNo) aNil))) (.two 1 2) (eTest (eBin gtD (eVar 1) (eVar 2))) (eC (.int 1))) aNil))))
def F_peaks : List Sl → Mo PD := runB 1 3 m_peaks
def m_touches : List Sl → Mo Fl :=
  (sSeq (sDrop (eCallF E_check_path (sCons (eVar 0) sNil)))
    (sRet (eM2 cntD (eSl (eCallF E_heights_of (sCons (eVar 0) sNil)) (Av.oAt (eC (.int 1))) oNo) (eC (.int 0)))))
def F_touches : List Sl → Mo PD := runB 1 1 m_touches
def m_check_numbers : List Sl → Mo Fl :=
  (sIf (bOr (bNot (eTest (eCallF E_is_integer (sCons (eVar 0) (sCons (eC (.int 1)) (sCons (eC (.int 6)) sNil)))))) (bNot (eTest (eCallF E_is_integer (sCons (eVar 1) (sCons (eC (.int 0)) (sCons (eC (.int 6)) sNil))))))) (sRaise 2) sNext)
def F_check_numbers : List Sl → Mo PD := runB 2 2 m_check_numbers
def m_count_peaks : List Sl → Mo Fl :=
  (sSeq (sDrop (eCallF F_check_numbers (sCons (eVar 0) (sCons (eVar 1) sNil))))
    (sRet (eBin fdivD (eBin mulE (eCallF E_choose (sCons (eVar 0) (sCons (eVar 1) sNil))) (eCallF E_choose (sCons (eVar 0) (sCons (eBin subD (eVar 1) (eC (.int 1))) sNil)))) (eVar 0))))
def F_count_peaks : List Sl → Mo PD := runB 2 2 m_count_peaks
def m_count_touches : List Sl → Mo Fl :=
  (sSeq (sDrop (eCallF F_check_numbers (sCons (eVar 0) (sCons (eVar 1) sNil))))
    (sRet (eIf (eTest (eBin leD (eVar 1) (eVar 0))) (eBin fdivD (eBin mulE (eCallF E_choose (sCons (eBin subD (eBin mulE (eC (.int 2)) (eVar 0)) (eVar 1)) (sCons (eVar 0) sNil))) (eVar 1)) (eBin subD (eBin mulE (eC (.int 2)) (eVar 0)) (eVar 1))) (eC (.int 0)))))
def F_count_touches : List Sl → Mo PD := runB 2 2 m_count_touches
def m__law_all_hills : List Sl → Mo Fl :=
  (sSeq (sAsg 1 (eLst (aCons (eTup aNil) aNil)))
    (sSeq (sFor (iVia rng1 (aCons (eBin mulE (eC (.int 2)) (eVar 0)) aNil)) (.one 2) (sSeq (sOwn 3 (fLst aNil))
    (sSeq (sFor (iSeq (eVar 1)) (.one 4) (sSeq (sAsg 5 (eCall sumE (aCons (eVar 4) aNil)))
    (sSeq (sIf (eTest (eBin gtD (eVar 5) (eC (.int 0)))) (sApp 3 (eBin addD (eVar 4) (eTup (aCons (eBin subD (eC (.int 0)) (eC (.int 1))) aNil)))) sNext)
    (sIf (eTest (eBin leD (eBin addD (eVar 5) (eC (.int 1))) (eBin subD (eBin subD (eBin mulE (eC (.int 2)) (eVar 0)) (eVar 2)) (eC (.int 1))))) (sApp 3 (eBin addD (eVar 4) (eTup (aCons (eC (.int 1)) aNil)))) sNext))))
    (sFrz 3 (sAsg 1 (eVar 3))))))
    (sRet (eVar 1))))
def F__law_all_hills : List Sl → Mo PD := runB 1 6 m__law_all_hills
def m_check_hills : List Sl → Mo Fl :=
  (sSeq (sDrop (eCallF E_check_hill (sCons (eVar 0) sNil)))
    (sSeq (sDrop (eCallF E_check_hill (sCons (eVar 1) sNil)))
    (sIf (eTest (eBin neD (eCall lenD (aCons (eVar 0) aNil)) (eCall lenD (aCons (eVar 1) aNil)))) (sRaise 7) sNext)))
def F_check_hills : List Sl → Mo PD := runB 2 2 m_check_hills
def m_is_below : List Sl → Mo Fl :=
  (sSeq (sDrop (eCallF F_check_hills (sCons (eVar 0) (sCons (eVar 1) sNil))))
    (sRet (eCall allD (aCons (eLc (iVia zipD (aCons (eCallF E_heights_of (sCons (eVar 0) sNil)) (aCons (eCallF E_heights_of (sCons (eVar 1) sNil)) aNil))) (.two 2 3) tYesM (eBin leD (eVar 2) (eVar 3))) aNil))))
def F_is_below : List Sl → Mo PD := runB 2 4 m_is_below
def m_steps_of : List Sl → Mo Fl :=
  (sRet (eCall tupleD (aCons (eLc (iVia zipD (aCons (eVar 0) (aCons (eSl (eVar 0) (Av.oAt (eC (.int 1))) oNo) aNil))) (.two 1 2) tYesM (eBin subD (eVar 2) (eVar 1))) aNil)))
def F_steps_of : List Sl → Mo PD := runB 1 3 m_steps_of
def m_upper : List Sl → Mo Fl :=
  (sSeq (sDrop (eCallF F_check_hills (sCons (eVar 0) (sCons (eVar 1) sNil))))
    (sRet (eCallF F_steps_of (sCons (eLc (iVia zipD (aCons (eCallF E_heights_of (sCons (eVar 0) sNil)) (aCons (eCallF E_heights_of (sCons (eVar 1) sNil)) aNil))) (.two 2 3) tYesM (eCall (mm2D false) (aCons (eVar 2) (aCons (eVar 3) aNil)))) sNil))))
def F_upper : List Sl → Mo PD := runB 2 4 m_upper
def m_lower : List Sl → Mo Fl :=
  (sSeq (sDrop (eCallF F_check_hills (sCons (eVar 0) (sCons (eVar 1) sNil))))
    (sRet (eCallF F_steps_of (sCons (eLc (iVia zipD (aCons (eCallF E_heights_of (sCons (eVar 0) sNil)) (aCons (eCallF E_heights_of (sCons (eVar 1) sNil)) aNil))) (.two 2 3) tYesM (eCall (mm2D true) (aCons (eVar 2) (aCons (eVar 3) aNil)))) sNil))))
def F_lower : List Sl → Mo PD := runB 2 4 m_lower
def m_area : List Sl → Mo Fl :=
  (sSeq (sDrop (eCallF E_check_hill (sCons (eVar 0) sNil)))
    (sRet (eCall sumE (aCons (eCallF E_heights_of (sCons (eVar 0) sNil)) aNil))))
def F_area : List Sl → Mo PD := runB 1 1 m_area
def m_apart : List Sl → Mo Fl :=
  (sSeq (sAsg 2 (eC (.int 0)))
    (sSeq (sFor (iVia zipD (aCons (eCallF E_heights_of (sCons (eVar 0) sNil)) (aCons (eCallF E_heights_of (sCons (eVar 1) sNil)) aNil))) (.two 3 4) (sAug 2 ipAdd (eCall (mm2D false) (aCons (eBin subD (eVar 3) (eVar 4)) (aCons (eBin subD (eVar 4) (eVar 3)) aNil)))))
    (sRet (eBin fdivD (eVar 2) (eC (.int 2))))))
def F_apart : List Sl → Mo PD := runB 2 5 m_apart
def m_distance : List Sl → Mo Fl :=
  (sSeq (sDrop (eCallF F_check_hills (sCons (eVar 0) (sCons (eVar 1) sNil))))
    (sRet (eCallF F_apart (sCons (eVar 0) (sCons (eVar 1) sNil)))))
def F_distance : List Sl → Mo PD := runB 2 2 m_distance
def m_change_list : List Sl → Mo Fl :=
  (sSeq (sOwn 1 (fLst aNil))
    (sSeq (sFor (iVia rng1 (aCons (eBin subD (eCall lenD (aCons (eVar 0) aNil)) (eC (.int 1))) aNil)) (.one 2) (sIf (eTest (eBin neD (eBin ixD (eVar 0) (eVar 2)) (eBin ixD (eVar 0) (eBin addD (eVar 2) (eC (.int 1)))))) (sSeq (sAsg 3 (eBin addD (eBin addD (eSl (eVar 0) oNo (Av.oAt (eVar 2))) (eTup (aCons (eBin ixD (eVar 0) (eBin addD (eVar 2) (eC (.int 1)))) (aCons (eBin ixD (eVar 0) (eVar 2)) aNil)))) (eSl (eVar 0) (Av.oAt (eBin addD (eVar 2) (eC (.int 2)))) oNo)))
    (sIf (eTest (eCallF E_closes (sCons (eVar 3) sNil))) (sApp 1 (eVar 3)) sNext)) sNext))
    (sFrz 1 (sRet (eCall sorted2 (aCons (eVar 1) aNil))))))
def F_change_list : List Sl → Mo PD := runB 1 4 m_change_list
def m_changes : List Sl → Mo Fl :=
  (sSeq (sDrop (eCallF E_check_hill (sCons (eVar 0) sNil)))
    (sRet (eCallF F_change_list (sCons (eVar 0) sNil))))
def F_changes : List Sl → Mo PD := runB 1 1 m_changes
def m_way : List Sl → Mo Fl :=
  (sSeq (sDrop (eCallF F_check_hills (sCons (eVar 0) (sCons (eVar 1) sNil))))
    (sSeq (sOwn 2 (fLst (aCons (eVar 0) aNil)))
    (sSeq (sWhile (sFrz 2 (eTest (eBin neD (eBin ixD (eVar 2) (eUn negD (eC (.int 1)))) (eVar 1)))) (sApp 2 (eBor 2 (eBin ixD (eCall minE (aCons (eLc (iSeq (eCallF F_change_list (sCons (eBin ixD (eVar 2) (eUn negD (eC (.int 1)))) sNil))) (.one 3) tYesM (eTup (aCons (eCallF F_apart (sCons (eVar 3) (sCons (eVar 1) sNil))) (aCons (eVar 3) aNil)))) aNil)) (eC (.int 1))))) 64)
    (sFrz 2 (sRet (eVar 2))))))
def F_way : List Sl → Mo PD := runB 2 4 m_way
def m_text_of : List Sl → Mo Fl :=
  (sRet (eUnD (joinD "") (eLc (iSeq (eVar 0)) (.one 1) tYesM (eIf (eTest (eBin eqD (eVar 1) (eC (.int 1)))) (eC (.str "u")) (eC (.str "d"))))))
def F_text_of : List Sl → Mo PD := runB 1 2 m_text_of
def m_format_path : List Sl → Mo Fl :=
  (sSeq (sDrop (eCallF E_check_path (sCons (eVar 0) sNil)))
    (sRet (eCallF F_text_of (sCons (eVar 0) sNil))))
def F_format_path : List Sl → Mo PD := runB 1 1 m_format_path
def m_parse_path : List Sl → Mo Fl :=
  (sSeq (sIf (bOr (bNot (eTest (eIsi .str (eVar 0)))) (bNot (eTest (eCall allD (aCons (eLc (iSeq (eVar 0)) (.one 1) tYesM (eBin inD (eVar 1) (eC (.str "ud")))) aNil))))) (sRaise 11) sNext)
    (sSeq (sAsg 2 (eCall tupleD (aCons (eLc (iSeq (eVar 0)) (.one 1) tYesM (eIf (eTest (eBin eqD (eVar 1) (eC (.str "u")))) (eC (.int 1)) (eUn negD (eC (.int 1))))) aNil)))
    (sSeq (sIf (bNot (eTest (eCallF E_is_path (sCons (eVar 2) sNil)))) (sRaise 11) sNext)
    (sRet (eVar 2)))))
def F_parse_path : List Sl → Mo PD := runB 1 3 m_parse_path
def m__law_pick : List Sl → Mo Fl :=
  (sRet (eBin ixD (eVar 2) (eCallF F__law_draw (sObj 0 (sObj 1 (sCons (eCall lenD (aCons (eVar 2) aNil)) sNil))))))
def F__law_pick : List Sl → Mo PD := runB 3 3 m__law_pick
end Lw

/-! ### len(set(xs)), xs a list of tuples of ints, no two alike -/
namespace L2
open PySem PySem.Spec PyProof.Rows
def tLenSetT (K : PySem.W.Frag) (ta : TE) : TE := fun σ H Q => ta σ H fun x H1 => ∃ (l : Addr) (ks : List (Addr × List Int)), x = .ref l ∧ SqL K H1 l (ks.map fun p => V.ref p.1) ∧ (∀ p ∈ ks, SqT K H1 p.1 (p.2.map V.int)) ∧ (ks.map (·.2)).Nodup ∧ ks.length < 64 ∧ Q (.int (ks.length : Nat)) H1
theorem same_len {ks L : List (Addr × List Int)} (hk : (ks.map (·.2)).Nodup) (hL : (L.map (·.2)).Nodup) (h1 : ∀ p ∈ L, p ∈ ks) (h2 : ∀ p ∈ ks, p.2 ∈ L.map (·.2)) : L.length = ks.length := by
  have hp : (L.map (·.2)).Perm (ks.map (·.2)) := by
    rw [List.perm_ext_iff_of_nodup hL hk]
    intro a
    constructor
    · intro h
      obtain ⟨p, hp, rfl⟩ := List.mem_map.mp h
      exact List.mem_map.mpr ⟨p, h1 p hp, rfl⟩
    · intro h
      obtain ⟨p, hp, rfl⟩ := List.mem_map.mp h
      exact h2 p hp
  have := hp.length_eq
  simpa using this
theorem pe_lenSetT {X : Cx} {a : Expr} {ta : TE} {p p2 q pos : Pos} (hg : Gl X "len") (hm : X.mg "len" = none) (hg2 : Gl X "set") (hm2 : X.mg "set" = none) (ha : PE X a ta) (hc : X.calm = true) (hu : X.A.units + 65 < cLine)
    (na : starEach [a] X.env = (false, eval a X.env) :: starEach [] X.env) : PE X (.Call (.Name "len" p) [.Call (.Name "set" p2) [a] [] q] [] pos) (tLenSetT X.K ta) := by
  refine ⟨fun pins s σ H Q I h => ?_⟩
  refine Call_ (ld_blt I hg hm boot_len ?_)
  refine PyProof.Rows.callWith_builtin1 (PyProof.Rows.args_cons ?_ rfl) rfl rfl
  refine Call_ (ld_blt I hg2 hm2 boot_set ?_)
  refine PyProof.Rows.callWith_type1 (PyProof.Rows.args_cons (thn (ha.run pins s σ H _ I h) fun v s1 ⟨x, H1, I1, r1, q1⟩ => PyProof.Rows.args_nil ?_) na) na rfl
  obtain ⟨l, ks, rfl, hq, hk, hnd, hf, q1⟩ := q1
  cases r1
  obtain ⟨its, rv, pl, hz⟩ := I1.list hq
  refine call_set_tups (P := X.prog) (w := X.w) ks (I1.ok.hd hc) pl.isList (by simpa using refs_of_vals rv) (fun p hp => I1.isT (hk p hp)) hf (by show _ + 3 < _; omega) fun h' tk L es ep t R g k => ?_
  refine PyProof.Rows.args_nil ?_
  obtain ⟨o, ho, hex, hd⟩ := R.ob
  have I2 : Inv X pins σ H1 { s1 with heap := h', toks := tk } := I1.kept fun b o e => k b o e
  have hL : L.length = ks.length := same_len hnd R.nd (fun p hp => List.mem_of_mem_take (g.sub p hp)) fun p hp => g.all p (by rw [List.take_length]; exact hp)
  have hn : es.size = ks.length := by
    rw [← hL]
    have := congrArg List.length R.rows
    simpa [rowsOf] using this
  exact call_len_set ho hex hd (SetTR.fits (s := { s1 with heap := h', toks := tk }) R) (by rw [hn]; omega) ⟨.int ks.length, H1, I2.tok _, ⟨_, by rw [hn]⟩, q1⟩
end L2
namespace Av
open PySem PySem.Spec L2
open PyProof.Rows hiding St
set_option autoImplicit false
def eqLI : List Int → List Int → Bool
  | [], [] => true
  | x :: r, y :: t => decide (x = y) && eqLI r t
  | _, _ => false
theorem eqLI_refl : ∀ l : List Int, eqLI l l = true
  | [] => rfl
  | x :: r => by show (decide (x = x) && eqLI r r) = true; rw [eqLI_refl r, decide_eq_true rfl]; rfl
def nodB : List (List Int) → Bool
  | [] => true
  | x :: r => r.all (fun y => !eqLI x y) && nodB r
theorem nodB_is : ∀ {l : List (List Int)}, nodB l = true → l.Nodup
  | [], _ => .nil
  | x :: r, h => by
    have h : (r.all (fun y => !eqLI x y) && nodB r) = true := h
    rw [Bool.and_eq_true] at h
    refine List.nodup_cons.mpr ⟨fun hm => ?_, nodB_is h.2⟩
    have := List.all_eq_true.mp h.1 x hm
    rw [eqLI_refl] at this
    cases this
def lenSetD : PD → Option PD
  | .list ds => match tupsOf ds with
    | some ks => if (nodB ks && Nat.blt ks.length 64) = true then some (.int (ks.length : Nat)) else none
    | none => none
  | _ => none
def adr : V → Addr
  | .ref t => t
  | _ => 0
section
variable {c : Ct} {k : Nat}
theorem de_lenSet {a : Expr} {f : List Sl → Mo PD} {p p2 q pos : Pos} (ok : c.Ok k) (h : DE c a f) (hm : c.X.mg "len" = none) (hm2 : c.X.mg "set" = none) (hg : Gl c.X "len" := by rfl) (hg2 : Gl c.X "set" := by rfl)
    (na : starEach [a] c.X.env = (false, eval a c.X.env) :: starEach [] c.X.env := by rfl) : DE c (.Call (.Name "len" p) [.Call (.Name "set" p2) [a] [] q] [] pos) (eUnD lenSetD f) :=
  PE.imp (pe_lenSetT hg hm hg2 hm2 h ok.cm (u65 ok.rm) na) fun σ H Q q => by
    obtain ⟨L0, H0, L, g, Γ, fr, po⟩ := q
    have po := Post.bind po
    refine ⟨L0, H0, L, g, Γ, fr, po.mono fun d g1 L1 H1 st1 rel1 po1 v hv => ?_⟩
    obtain ⟨z, hz, po1⟩ := po1.lift rel1
    match d, hz, hv with
    | .list ds, hz, .lst (a := b) (xs := xs) hS hA =>
      unfold lenSetD at hz
      cases ht : tupsOf ds with
      | none => simp [ht] at hz
      | some ks =>
        simp only [ht] at hz
        obtain ⟨hb, rfl⟩ := if_some hz
        rw [Bool.and_eq_true] at hb
        obtain ⟨e1, e2⟩ := tups_of hA ht
        have hx : ∀ x ∈ xs, x = V.ref (adr x) ∧ SqT c.X.K H1 (adr x) ((keyOf L1.S x).map V.int) := fun x hx => by
          have hd := e2 x hx
          generalize keyOf L1.S x = kk at hd
          unfold tupD at hd
          cases hd with
          | tup hS' hA' hN' =>
            refine ⟨rfl, ?_⟩
            rw [← hA'.ints]
            exact SqTF (rel1.s _ _ hS')
        have em : (xs.map fun x => (adr x, keyOf L1.S x)).map (fun p => V.ref p.1) = xs := by
          rw [List.map_map]
          have : xs.map ((fun p : Addr × List Int => V.ref p.1) ∘ fun x => (adr x, keyOf L1.S x)) = xs.map id := List.map_congr_left fun x h => (hx x h).1.symm
          rw [this, List.map_id]
        have ek : (xs.map fun x => (adr x, keyOf L1.S x)).map (·.2) = ks := by rw [List.map_map, ← e1]; rfl
        have hl : (xs.map fun x => (adr x, keyOf L1.S x)).length = ks.length := by rw [← ek]; simp
        refine ⟨b, xs.map fun x => (adr x, keyOf L1.S x), rfl, ?_, fun p hp => ?_, ?_, ?_, ?_⟩
        · rw [em]; exact SqL.of (rel1.s _ _ hS)
        · obtain ⟨x, h, rfl⟩ := List.mem_map.mp hp
          exact (hx x h).2
        · rw [ek]; exact nodB_is hb.1
        · rw [hl]; exact Nat.lt_of_lt_of_le (Nat.lt_of_succ_le (Nat.le_of_ble_eq_true hb.2)) (Nat.le_refl _)
        · rw [hl]
          exact po1 L1 H1 (Stp.refl rel1) rel1 _ (.int _)
end
end Av

/-! Sets of nested tuples whose hashes all differ: the table's course is a computation on the hashes alone. -/
namespace Nt
open PySem PySem.Spec
open PyProof.Rows hiding St
set_option autoImplicit false
/-! ### the course of the table -/
def zAt (hs : List Int) (i : Nat) : Int := (hs[i]?).getD 0
def sound (t : SetTable) (hs : List Int) : Bool := t.plain && (t.fits hs.length && (!t.gaveWay && Nat.ble hs.length 1000))
def ins (hs : List Int) (p : Nat) (z : Int) : List Int := hs.take p ++ z :: hs.drop p
def widen (t : SetTable) (hs : List Int) : Option (SetTable × List Int) :=
  if Nat.ble (SetTable.sizeAbove (SetTable.grown hs.length)) 4096 = true then
    match t.relaid hs.toArray (SetTable.grown hs.length) with
    | some (t', order) => if Nat.beq (order.toList.filterMap (fun i => hs[i]?)).length hs.length = true then some (t', order.toList.filterMap (fun i => hs[i]?)) else none
    | none => none
  else none
def room (t : SetTable) (hs : List Int) : Option (SetTable × List Int) :=
  if sound t hs = true then (if t.tooFull = true then widen t hs else some (t, hs)) else none
def step (z : Int) (c : SetTable × List Int) : Option (SetTable × List Int) :=
  if sound c.1 c.2 = true then
    match c.1.probe (zAt c.2) z (c.1.probeStart z) with
    | some (.empty j none) => room (c.1.put j).1 (ins c.2 (c.1.put j).2 z)
    | _ => none
  else none
def run : List Int → SetTable × List Int → Option (SetTable × List Int)
  | [], c => some c
  | z :: zs, c => match step z c with
    | some c' => run zs c'
    | none => none
def endOk (n : Nat) : Option (SetTable × List Int) → Bool
  | some c => sound c.1 c.2 && Nat.beq c.2.length n
  | none => false
def allNew (zs : List Int) : Bool := endOk zs.length (run zs (.fresh 0 0 true, [])) && endOk zs.length (run zs (.fresh 0 0 false, []))
end Nt

/-! Nested tuples: their hash, and that it is by value. -/
namespace Nt
open PySem PySem.Spec
open PyProof.Rows hiding St
open L2 (wp_if_neg wp_if_pos)
set_option autoImplicit false
inductive Al {α β : Type} (R : α → β → Prop) : List α → List β → Prop
  | nil : Al R [] []
  | cons {x : α} {y : β} {xs : List α} {ys : List β} : R x y → Al R xs ys → Al R (x :: xs) (y :: ys)
theorem Al.imp {α β : Type} {R S : α → β → Prop} (h : ∀ x y, R x y → S x y) : ∀ {xs : List α} {ys : List β}, Al R xs ys → Al S xs ys
  | _, _, .nil => .nil
  | _, _, .cons a t => .cons (h _ _ a) (t.imp h)
/-- v is a tuple of tuples of .., f levels at most, and z its hash -/
def Hs (h : Heap) : Nat → Int → Value → Prop
  | 0, _, _ => False
  | f + 1, z, v => ∃ (a : Addr) (o : Obj) (its : Array Value) (n : Nat) (zs : List Int), v = .ref a ∧ h.get? a = some o ∧ o.cls = .type "tuple" ∧ o.data = .seq its n ∧ Al (Hs h f) zs its.toList ∧
      z = reduceHash (Builtin.Tuple.tupleHashOf zs)
theorem Hs.keep {h h' : Heap} (k : ∀ b o, o.cls = .type "tuple" → h.get? b = some o → h'.get? b = some o) : ∀ {f : Nat} {z : Int} {v : Value}, Hs h f z v → Hs h' f z v
  | 0, _, _, x => x
  | f + 1, _, _, x => by
    obtain ⟨a, o, its, n, zs, e, ho, hc, hd, al, ez⟩ := x
    exact ⟨a, o, its, n, zs, e, k a o hc ho, hc, hd, al.imp fun _ _ y => Hs.keep k y, ez⟩
section
variable {P : Program} {w : World} {E : Value → Shared → Prop}
/-- how a whole hash is cut to a word -/
theorem reduced_of {A : Around} {s : Shared} {y : Int} {R : Int → Shared → Prop} (h : R (reduceHash y) s) : wpAny (model P w) A (pyHashByItsType.reduced y) R E s := by
  unfold pyHashByItsType.reduced
  unfold reduceHash at h
  split
  · rename_i c
    rw [if_pos c] at h
    exact wpAny_pure h
  · rename_i c
    rw [if_neg c] at h
    exact wpAny_bind (wpAny_rule (wpAny_pure h))
/-- hash(v) -/
theorem hash_of : ∀ (f : Nat) {A : Around} {s : Shared} {z : Int} {v : Value} {Q : Int → Shared → Prop}, A.units + f ≤ cLine → Hs s.heap f z v → (∀ tk, s.toks ≤ tk → Q z { s with toks := tk }) → wpAny (model P w) A (pyHash v) Q E s
  | 0, _, _, _, _, _, _, x, _ => x.elim
  | f + 1, A, s, z, v, Q, hu, x, h => by
    obtain ⟨a, o, its, n, zs, rfl, ho, hc, hd, al, rfl⟩ := x
    have ty : s.TypeIs (.ref a) "tuple" := ⟨o, ho, hc⟩
    show wpAny _ _ (pyHashByItsType (.ref a)) _ _ s
    unfold pyHashByItsType
    refine wpAny_bind (wpAny_cRoomFor_or (.inr (by omega)) (wpAny_bind (wpAny_specialOf ty F.slot_tuple_hash.lookup (wp_if_neg (by rw [beq_builtin_none]; exact Bool.false_ne_true) ?_))))
    refine wpAny_bind (wpAny_specialOf ty F.slot_tuple_hash.lookup ?_)
    dsimp only [Option.isNone]
    refine wp_if_neg Bool.false_ne_true ?_
    refine wpAny_bind (wpAny_callSpecialIfBoundUnlessNone?_slot ty F.slot_tuple_hash (wpAny_call_entry F.slot_tuple_hash ty F.entry_tuple_hash ?_ (F.args_tuple_hash_1 _)))
    refine wpAny_bind (m := Builtin.Tuple.tupleItemsOf (.ref a)) (wpAny_tupleItemsOf ho hd (wpAny_bind ?_))
    rw [← Array.forIn_toList]
    refine wpAny_forIn_list _ (fun left b s' => ∃ zl tk, Al (Hs s.heap f) zl left ∧ b.toList ++ zl = zs ∧ s.toks ≤ tk ∧ s' = { s with toks := tk }) _ ?_ ?_ _ _ ⟨zs, s.toks, al, rfl, Nat.le_refl _, rfl⟩
    · rintro u left b s' ⟨zl, tk, al', e, le, rfl⟩
      cases al' with
      | cons hx al' =>
        refine wpAny_bind (hash_of f (A := A.in1) (s := { s with toks := tk }) (by show A.units + 1 + f ≤ _; omega) hx fun tk' le' => ?_)
        have fin : ∃ zl tk, Al (Hs s.heap f) zl left ∧ (b.push _).toList ++ zl = zs ∧ s.toks ≤ tk ∧ _ = { s with toks := tk } := ⟨_, tk', al', by rw [Array.toList_push, List.append_assoc]; exact e, Nat.le_trans le le', rfl⟩
        first
          | exact wpAny_pure fin
          | exact wpAny_bind (wpAny_pure (wpAny_pure fin))
    · rintro b s' ⟨zl, tk, al', e, le, rfl⟩
      cases al'
      rw [List.append_nil] at e
      subst e
      refine wpAny_ret_mkInt ?_
      exact reduced_of (h (tk + 1) (Nat.le_succ_of_le le))
/-- the hash of such a tuple is by value -/
theorem byVal_of : ∀ (f : Nat) {g : Nat} {A : Around} {s : Shared} {z : Int} {v : Value} {Q : Bool → Shared → Prop}, f ≤ g → Hs s.heap f z v → Q true s → wpAny (model P w) A (hashByValue g v) Q E s
  | 0, _, _, _, _, _, _, _, x, _ => x.elim
  | f + 1, 0, _, _, _, _, _, le, _, _ => absurd le (Nat.not_succ_le_zero _)
  | f + 1, g + 1, A, s, z, v, Q, le, x, h => by
    obtain ⟨a, o, its, n, zs, rfl, ho, hc, hd, al, rfl⟩ := x
    unfold hashByValue
    refine wpAny_bind (wpAny_specialOf (T := "tuple") ⟨o, ho, hc⟩ F.slot_tuple_hash.lookup ?_)
    refine wpAny_bind (m := seqItems? (.ref a)) (wpAny_seqItems ho hd (wpAny_bind (m := forIn its _ _) ?_))
    rw [← Array.forIn_toList]
    refine wpAny_forIn_list _ (fun left r s' => (∃ zl, Al (Hs s.heap f) zl left) ∧ r.1 = none ∧ s' = s) _ ?_ ?_ _ _ ⟨⟨zs, al⟩, rfl, rfl⟩
    · rintro u left r s' ⟨⟨zl, al'⟩, hr, rfl⟩
      cases al' with
      | cons hx al' => exact wpAny_bind (byVal_of f (Nat.le_of_succ_le_succ le) hx (wp_if_neg (by decide) (wpAny_pure ⟨⟨_, al'⟩, rfl, rfl⟩)))
    · rintro ⟨r, u⟩ s' ⟨_, hr, rfl⟩
      cases hr
      exact wpAny_pure h
end
end Nt

/-! Adding to a set by the course of its table. -/
namespace Nt
open PySem PySem.Spec
open PyProof.Rows hiding St
open L2 (wp_if_neg wp_if_pos)
set_option autoImplicit false
/-- at a lies a set with this table, whose rows have these hashes -/
def SS (h : Heap) (a : Addr) (t : SetTable) (hs : List Int) : Prop := ∃ (o : Obj) (es : Array (Int × Value)) (ep : Nat), h.get? a = some o ∧ o.ExactSet ∧ o.data = .set es ep t ∧ es.toList.map (·.1) = hs
theorem sound_is {t : SetTable} {hs : List Int} (h : sound t hs = true) : t.plain = true ∧ t.fits hs.length = true ∧ ¬ t.gaveWay = true ∧ hs.length ≤ 1000 := by
  unfold sound at h
  rw [Bool.and_eq_true, Bool.and_eq_true, Bool.and_eq_true] at h
  refine ⟨h.1, h.2.1, ?_, Nat.le_of_ble_eq_true h.2.2.2⟩
  have := h.2.2.1
  cases e : t.gaveWay
  · decide
  · rw [e] at this; exact absurd this (by decide)
theorem size_of {es : Array (Int × Value)} {hs : List Int} (e : es.toList.map (·.1) = hs) : es.size = hs.length := by
  rw [← e, List.length_map, Array.length_toList]
theorem at_of {es : Array (Int × Value)} {hs : List Int} (e : es.toList.map (·.1) = hs) (i : Nat) : es[i]?.map (·.1) = hs[i]? := by
  rw [← e, List.getElem?_map, Array.getElem?_toList]
theorem zAt_of {es : Array (Int × Value)} {hs : List Int} (e : es.toList.map (·.1) = hs) : (fun i => (es[i]?.map (·.1)).getD 0) = zAt hs := by
  funext i
  rw [at_of e]
  rfl
section
variable {P : Program} {w : World} {E : Value → Shared → Prop} {A : Around} {s : Shared} {a : Addr} {t : SetTable} {hs : List Int}
/-- the search of a hash that is new -/
theorem find_free {b : Addr} {z : Int} {j : Nat} {Q : SetFound → Shared → Prop} (S : SS s.heap a t hs) (ok : sound t hs = true) (pr : t.probe (zAt hs) z (t.probeStart z) = some (.empty j none)) (h : Q (.free j false) s) :
    wpAny (model P w) A (setSearch a (.ref b) z true) Q E s := by
  obtain ⟨o, es, ep, ho, hex, hd, e⟩ := S
  obtain ⟨_, hf, hg, _⟩ := sound_is ok
  rw [← size_of e] at hf
  rw [← zAt_of e] at pr
  unfold setSearch
  rw [show (100000 : Nat) = 99999 + 1 from rfl, L2.setSearchFrom_succ]
  refine wpAny_bind (wpAny_setState_of ho hd hf (wp_if_neg hg ?_))
  try refine wpAny_bind (wpAny_pure ?_)
  have pr' : t.probe (fun i => (es[i]?.map (·.1)).getD 0) z ((none : Option SetTable.Probe).getD (t.probeStart z)) = some (.empty j none) := pr
  dsimp only
  rw [pr']
  exact wpAny_pure h
/-- the table made larger -/
theorem widen_to {t' : SetTable} {hs' : List Int} {Q : Unit → Shared → Prop} (S : SS s.heap a t hs) (ok : sound t hs = true) (wd : widen t hs = some (t', hs'))
    (h : ∀ h', Heap.SameBut a s.heap h' → SS h' a t' hs' → Q () { s with heap := h' }) : wpAny (model P w) A (setRelay a (SetTable.grown hs.length)) Q E s := by
  obtain ⟨o, es, ep, ho, hex, hd, e⟩ := S
  obtain ⟨_, hf, _, hz⟩ := sound_is ok
  have hn := size_of e
  rw [← hn] at hf
  unfold widen at wd
  by_cases hb : Nat.ble (SetTable.sizeAbove (SetTable.grown hs.length)) 4096 = true
  case neg => rw [if_neg hb] at wd; cases wd
  rw [if_pos hb] at wd
  have hb := Nat.le_of_ble_eq_true hb
  have eh : es.map (·.1) = hs.toArray := by
    rw [← e]
    apply Array.ext'
    simp
  cases hr : t.relaid hs.toArray (SetTable.grown hs.length) with
  | none => rw [hr] at wd; cases wd
  | some q =>
    obtain ⟨t1, order⟩ := q
    rw [hr] at wd
    dsimp only at wd
    by_cases hl : Nat.beq (order.toList.filterMap (fun i => hs[i]?)).length hs.length = true
    case neg => rw [if_neg hl] at wd; cases wd
    rw [if_pos hl] at wd
    have hl := Nat.eq_of_beq_eq_true hl
    cases wd
    have em : (order.filterMap (es[·]?)).toList.map (·.1) = order.toList.filterMap (fun i => hs[i]?) := by
      rw [Array.toList_filterMap, List.map_filterMap]
      congr 1
      funext i
      exact at_of e i
    have es' : (order.filterMap (es[·]?)).size = es.size := by rw [size_of em, hl, hn]
    rw [L2.setRelay_eq]
    refine wpAny_bind (wpAny_setState_of ho hd hf (wp_if_neg (by rw [sizeLine_eq]; omega) ?_))
    try refine wpAny_bind (wpAny_pure ?_)
    dsimp only
    rw [eh, hr]
    dsimp only
    refine wpAny_bind (wp_if_neg (by rw [es']; simp) ?_)
    try refine wpAny_bind (wpAny_pure ?_)
    refine wpAny_pure (wpAny_storeSet_of ho hd (h _ (Heap.SameBut.update ..) ⟨_, _, _, L2.store_at ho hd, ⟨hex.1, hex.2.1, hex.2.2⟩, rfl, em⟩) (by rw [es', hn, sizeLine_eq]; omega))
/-- one more -/
theorem add_new {f : Nat} {z : Int} {b : Addr} {t' : SetTable} {hs' : List Int} {Q : Bool → Shared → Prop} (S : SS s.heap a t hs) (hv : Hs s.heap f z (.ref b)) (hf8 : f ≤ 8) (st : step z (t, hs) = some (t', hs'))
    (h : ∀ h', Heap.SameBut a s.heap h' → SS h' a t' hs' → Q true { s with heap := h' }) : wpAny (model P w) A (setAddHashed a (.ref b) z) Q E s := by
  unfold step at st
  by_cases ok : sound t hs = true
  case neg => rw [if_neg ok] at st; cases st
  rw [if_pos ok] at st
  dsimp only at st
  cases pr : t.probe (zAt hs) z (t.probeStart z) with
  | none => rw [pr] at st; cases st
  | some met =>
    match met, pr with
    | .candidate _ _ _, pr => rw [pr] at st; cases st
    | .empty j (some _), pr => rw [pr] at st; cases st
    | .empty j none, pr =>
      rw [pr] at st
      dsimp only at st
      obtain ⟨o, es, ep, ho, hex, hd, e⟩ := id S
      obtain ⟨hp, hf, _, hz⟩ := sound_is ok
      have hn := size_of e
      have hf' := hf
      rw [← hn] at hf'
      unfold setAddHashed
      refine wpAny_holding ?_
      rw [show (100000 : Nat) = 99999 + 1 from rfl, L2.setAddHashedIn_succ]
      refine wpAny_bind (wpAny_setState_of ho hd hf' (wp_if_neg (by simp [byScan, Value.scannable]) ?_))
      try refine wpAny_bind (wpAny_pure ?_)
      refine wpAny_bind (find_free S ok pr ?_)
      refine wpAny_bind (wpAny_setState_of ho hd hf' ?_)
      have hp1 : (t.put j).1.plain = true := hp
      dsimp only
      generalize t.put j = tp at st hp1 ⊢
      obtain ⟨t1, p⟩ := tp
      dsimp only at st hp1 ⊢
      unfold room at st
      by_cases ok1 : sound t1 (ins hs p z) = true
      case neg => rw [if_neg ok1] at st; cases st
      rw [if_pos ok1] at st
      have e1 : (SetTable.insertAt es p (z, Value.ref b)).toList.map (·.1) = ins hs p z := by
        rw [SetTable.toList_insertAt, List.map_append, List.map_cons, List.map_take, List.map_drop, e]
        rfl
      have h1 := (sound_is ok1).2.2.2
      have hs1 := size_of e1
      refine wp_if_pos hp1 (wpAny_bind (byVal_of f hf8 hv ?_))
      rw [if_pos rfl]
      refine wpAny_bind (wpAny_storeSet_of ho hd ?_ (by rw [hs1, sizeLine_eq]; omega))
      have sb : Heap.SameBut a s.heap (s.heap.update a (Obj.putSet (SetTable.insertAt es p (z, Value.ref b)) t1)) := Heap.SameBut.update ..
      have S1 : SS (s.heap.update a (Obj.putSet (SetTable.insertAt es p (z, Value.ref b)) t1)) a t1 (ins hs p z) := ⟨_, _, _, L2.store_at ho hd, ⟨hex.1, hex.2.1, hex.2.2⟩, rfl, e1⟩
      generalize s.heap.update a (Obj.putSet (SetTable.insertAt es p (z, Value.ref b)) t1) = h2 at sb S1 ⊢
      have hl : es.size + 1 = (ins hs p z).length := by
        rw [hn, ins, List.length_append, List.length_cons, List.length_take, List.length_drop]
        omega
      by_cases full : t1.tooFull = true
      · rw [if_pos full] at st
        refine wp_if_pos (by rw [full]; rfl) ?_
        rw [hl]
        exact wpAny_bind (widen_to (s := { s with heap := h2 }) S1 ok1 st fun h' sb' S' => wpAny_pure (h h' (sb.trans sb') S'))
      · rw [if_neg full] at st
        cases st
        refine wp_if_neg (by simp [full]) ?_
        exact wpAny_pure (h h2 sb S1)
end
end Nt

/-! set(xs), xs a list of nested tuples whose hashes all differ. -/
namespace Nt
open PySem PySem.Spec
open PyProof.Rows hiding St
open L2 (wp_if_neg wp_if_pos)
set_option autoImplicit false
abbrev Kept (h h' : Heap) : Prop := ∀ b o, h.get? b = some o → h'.get? b = some o
theorem SS.keep {h h' : Heap} {a : Addr} {t : SetTable} {hs : List Int} (S : SS h a t hs) (k : ∀ o, h.get? a = some o → h'.get? a = some o) : SS h' a t hs := by
  obtain ⟨o, es, ep, ho, r⟩ := S
  exact ⟨o, es, ep, k o ho, r⟩
section
variable {P : Program} {w : World} {A : Around} {I l S : Addr} {items : Array Value} {f : Nat} {h0 : Heap}
/-- all items go in, one by one -/
theorem loop_of (hf8 : f ≤ 8) (hh : A.in1.handled = none) (hu : A.in1.units + f ≤ cLine) (hI : h0.get? I = none) (hS : h0.get? S = none) (hIS : I ≠ S) (hl : h0.IsList l items) :
    ∀ (zs : List Int) (i : Nat) (s : Shared) (c c' : SetTable × List Int) (R : Result → Shared → Prop), i ≤ items.size → Al (Hs h0 f) zs (items.toList.drop i) → s.heap.IsListIter I l i → Kept h0 s.heap → SS s.heap S c.1 c.2 →
      run zs c = some c' → (∀ h' tk, Kept h0 h' → SS h' S c'.1 c'.2 → R (.ok (.ret .none)) { s with heap := h', toks := tk }) →
      codeAny (model P w) A (.builtin "set.update.loop" ⟨[.ref S, .ref I], []⟩) R s := by
  have hlI : l ≠ I := by
    rintro rfl
    obtain ⟨o, ho, _⟩ := hl
    rw [hI] at ho
    cases ho
  have hlS : l ≠ S := by
    rintro rfl
    obtain ⟨o, ho, _⟩ := hl
    rw [hS] at ho
    cases ho
  have W := Walks.list (prog := P) (w := w) (A := A.in1) hh I l hlI items
  intro zs
  induction zs with
  | nil =>
    intro i s c c' R hi al hit hk ss hr hR
    have hn : i = items.size := by
      cases hd : items.toList.drop i with
      | nil =>
        have := List.drop_eq_nil_iff.mp hd
        rw [Array.length_toList] at this
        omega
      | cons v r => rw [hd] at al; cases al
    subst hn
    cases hr
    refine codeAny_builtin F.entry_set_update_loop ?_
    rw [Around.under_plainId F.plain_set_update_loop _]
    refine wpAny_bind (m := pyNext (.ref I)) (W.done s _ _ ⟨hit, hl.at fun o e => hk l o e⟩ fun h' tk k => ?_)
    refine wpAny_pure (hR h' tk (fun b o e => k b o (fun hb => ?_) (hk b o e)) (ss.keep fun o e => k S o (fun hb => ?_) e))
    · rw [List.mem_singleton.mp hb, hI] at e
      cases e
    · exact hIS (List.mem_singleton.mp hb).symm
  | cons z zs ih =>
    intro i s c c' R hi al hit hk ss hr hR
    cases hd : items.toList.drop i with
    | nil => rw [hd] at al; cases al
    | cons v r =>
      rw [hd] at al
      cases al with
      | cons hv al =>
      have hv0 : items[i]? = some v := by
        rw [← Array.getElem?_toList, ← List.head?_drop, hd]
        rfl
      have hd1 : items.toList.drop (i + 1) = r := by
        rw [← List.tail_drop, hd]
        rfl
      have hlt : i < items.size := (Array.getElem?_eq_some_iff.mp hv0).1
      have hr0 : (match step z c with | some c1 => run zs c1 | none => none) = some c' := hr
      cases hst : step z c with
      | none => rw [hst] at hr0; cases hr0
      | some c1 =>
        rw [hst] at hr0
        have hr1 : run zs c1 = some c' := hr0
        refine codeAny_builtin F.entry_set_update_loop ?_
        rw [Around.under_plainId F.plain_set_update_loop _]
        refine wpAny_bind (m := pyNext (.ref I)) (W.item i s _ _ hlt ⟨hit, hl.at fun o e => hk l o e⟩ fun v' h1 tk hv' st1 k => ?_)
        rw [hv0] at hv'
        cases hv'
        have hk1 : Kept h0 h1 := fun b o e => k b o (fun hb => by rw [List.mem_singleton.mp hb, hI] at e; cases e) (hk b o e)
        have ss1 : SS h1 S c.1 c.2 := ss.keep fun o e => k S o (fun hb => hIS (List.mem_singleton.mp hb).symm) e
        have hv1 : Hs h1 f z v := hv.keep fun b o _ e => hk1 b o e
        obtain ⟨b, rfl⟩ : ∃ b, v = .ref b := by
          cases f with
          | zero => exact hv.elim
          | succ f => obtain ⟨a, _, _, _, _, e, _⟩ := hv; exact ⟨a, e⟩
        refine wpAny_bind (wpAny_holding (m := setAdd S (.ref b)) ?_)
        unfold setAdd
        refine wpAny_holding (wpAny_bind (hash_of f hu hv1 fun tk2 _ => ?_))
        refine add_new (s := { s with heap := h1, toks := tk2 }) ss1 hv1 hf8 hst fun h2 sb ss2 => ?_
        have hk2 : Kept h0 h2 := fun b o e => (sb.2 b (by rintro rfl; rw [hS] at e; cases e)).trans (hk1 b o e)
        exact wpAny_pure ⟨plainId_quiet F.plain_set_update_loop _, ih (i + 1) { s with heap := h2, toks := tk2 } c1 c' R hlt (hd1 ▸ al) (st1.1.at fun o e => (sb.2 I hIS).trans e) hk2 ss2 hr1 hR⟩
end
section
variable {P : Program} {w : World} {A : Around} {E : Value → Shared → Prop}
abbrev newS (led : Bool) : Obj := { cls := .type "set", dict := none, data := .set #[] 0 (.fresh 0 0 led) }
/-- set.__init__ of a new set -/
theorem init_of {l : Addr} {items : Array Value} {f : Nat} {zs : List Int} {c' : SetTable × List Int} {led : Bool} {s : Shared} {R : PySem.Fin → Shared → Prop} (hf8 : f ≤ 8) (hh : A.handled = none) (hu : A.units + 1 + f ≤ cLine)
    (hl : s.heap.IsList l items) (al : Al (Hs s.heap f) zs items.toList) (hr : run zs (.fresh 0 0 led, []) = some c')
    (h : ∀ h' tk, Kept s.heap h' → SS h' s.heap.objs.size c'.1 c'.2 → R (.done (.ret .none)) { s with heap := h', toks := tk }) :
    wpAny (model P w) A (Builtin.«set.__init__» ⟨[.ref s.heap.objs.size, .ref l], []⟩) R E { s with heap := s.heap.push (newS led) } := by
  have hS : (s.heap.push (newS led)).get? s.heap.objs.size = some (newS led) := Heap.get?_push_size _ rfl
  have hT : Shared.TypeIs { s with heap := s.heap.push (newS led) } (.ref s.heap.objs.size) "set" := ⟨_, hS, rfl⟩
  have hl1 : (s.heap.push (newS led)).IsList l items := hl.push _
  have hTl : Shared.TypeIs { s with heap := s.heap.push (newS led) } (.ref l) "list" := hl1.typeIs
  unfold Builtin.«set.__init__» noKeywords Builtin.Frozenset.updateFrom
  have f1 := F.sub_list_set
  have f2 := F.sub_list_frozenset
  have f3 : (Value.type "list" == Value.type "dict") = false := by decide
  obtain ⟨ol, hol, hcl, nl, hdl⟩ := id hl1
  obtain ⟨c0, d0, x0, y0⟩ := ol
  cases hcl
  cases hdl
  generalize it : pyIter = tr
  wp_walk
  cases it
  refine wpAny_pyIter_list hl1 (wpAny_bind (wpAny_runValue ?_))
  have sz : (s.heap.push (newS led)).objs.size = s.heap.objs.size + 1 := Heap.size_push ..
  have no : ∀ b, s.heap.objs.size ≤ b → s.heap.get? b = none := fun b hb => by
    cases q : s.heap.get? b with
    | none => rfl
    | some o => exact absurd (Heap.lt_size q) (Nat.not_lt.mpr hb)
  refine loop_of (A := A) (f := f) (h0 := s.heap) hf8 hh hu (no _ (by show _ ≤ (s.heap.push (newS led)).objs.size; omega)) (no _ (Nat.le_refl _)) (by show (s.heap.push (newS led)).objs.size ≠ _; omega) hl zs 0 { s with heap := (s.heap.push (newS led)).push { cls := .type "list_iterator", data := .fields #[.ref l, .int 0 0] } } (.fresh 0 0 led, []) c' _ (Nat.zero_le _) al
    ⟨_, Heap.get?_push_size _ rfl, rfl, rfl⟩ (fun b o e => Heap.get?_push_of_some _ (Heap.get?_push_of_some _ e)) ⟨newS led, #[], 0, Heap.get?_push_of_some _ hS, ⟨rfl, rfl, rfl⟩, rfl, rfl⟩ hr fun h' tk k ss => ?_
  exact wpAny_pure (wpAny_pure (h h' tk k ss))
/-- set(xs) -/
theorem set_of {l : Addr} {items : Array Value} {f : Nat} {zs : List Int} {s : Shared} {Q : Value → Shared → Prop} (hf8 : f ≤ 8) (hh : A.handled = none) (hu : A.units + 4 + f ≤ cLine)
    (hl : s.heap.IsList l items) (al : Al (Hs s.heap f) zs items.toList) (ok : allNew zs = true)
    (h : ∀ h' tk t hs, Kept s.heap h' → SS h' s.heap.objs.size t hs → sound t hs = true → hs.length = zs.length → Q (.ref s.heap.objs.size) { s with heap := h', toks := tk }) :
    wpAny (model P w) A (call (.type "set") [.ref l]) Q E s := by
  obtain ⟨c', hr, so, ln⟩ : ∃ c', run zs (.fresh 0 0 (!w.params.followText "set-order"), []) = some c' ∧ sound c'.1 c'.2 = true ∧ c'.2.length = zs.length := by
    have key : ∀ led, endOk zs.length (run zs (.fresh 0 0 led, [])) = true → ∃ c', run zs (.fresh 0 0 led, []) = some c' ∧ sound c'.1 c'.2 = true ∧ c'.2.length = zs.length := fun led he => by
      cases hr : run zs (.fresh 0 0 led, []) with
      | none => rw [hr] at he; cases he
      | some c' =>
        rw [hr] at he
        have he : (sound c'.1 c'.2 && Nat.beq c'.2.length zs.length) = true := he
        rw [Bool.and_eq_true] at he
        exact ⟨c', rfl, he.1, Nat.eq_of_beq_eq_true he.2⟩
    unfold allNew at ok
    rw [Bool.and_eq_true] at ok
    cases w.params.followText "set-order"
    · exact key true ok.1
    · exact key false ok.2
  obtain ⟨_, _, m1⟩ := F.called_set.mro
  have m2 := F.called_set.made
  have m3 := F.called_set.sub
  have m4 := F.called_set.notType
  have m5 := F.called_set.canCreate
  have m6 := F.typeCall_set_1 (.ref l)
  refine wpAny_call (codeAny_of_tree ?_)
  change wpAny _ _ (callAny (.type "set") ⟨[.ref l], []⟩) _ _ s
  refine wpAny_pure ⟨Code.quiet_builtin _ (by decide +kernel), codeAny_builtin F.entry_type_call ?_⟩
  rw [Around.under_plain (weight_type_call_type "set" [.ref l] []) rfl]
  repeat (any_goals (first | assumption | wp_step))
  refine codeAny_mono (L2.code_set_led1 (.ref l) (E := E) (Q₁ := fun v s1 => v = .ref s.heap.objs.size ∧ s1 = { s with heap := s.heap.push (newS (!w.params.followText "set-order")) }) ⟨rfl, rfl⟩) ?_
  intro r s1 hr1
  match r, hr1 with
  | .error _, hr1 => exact hr1
  | .ok (.ret v), ⟨e1, e2⟩ =>
    cases e1
    cases e2
    have hT : Shared.TypeIs { s with heap := s.heap.push (newS (!w.params.followText "set-order")) } (.ref s.heap.objs.size) "set" := ⟨_, Heap.get?_push_size _ rfl, rfl⟩
    have n1 := F.called_set.init.lookup
    have n2 := F.called_set.init.bind (.ref s.heap.objs.size)
    repeat (any_goals (first | assumption | wp_step))
    refine codeAny_call_builtin F.called_set.init.plain F.entry_set_init (check_set_init_1 hT ?_)
    refine init_of (led := !w.params.followText "set-order") hf8 (by first | exact hh | simp [hh]) (by show A.units + 1 + 1 + 1 + f ≤ _; omega) hl al hr fun h' tk k ss => ?_
    dsimp only
    repeat (any_goals (first | assumption | wp_step))
    exact h h' tk c'.1 c'.2 k ss so ln
end
end Nt

/-! len(set(xs)), xs a list of nested tuples whose hashes all differ. -/
namespace Nt
open PySem PySem.Spec L2
open PyProof.Rows hiding St
set_option autoImplicit false
/-- Hs, said of the layout -/
def Hv (K : PySem.W.Frag) (H : Hp) : Nat → Int → V → Prop
  | 0, _, _ => False
  | f + 1, z, x => ∃ (a : Addr) (xs : List V) (zs : List Int), x = .ref a ∧ SqT K H a xs ∧ Al (Hv K H f) zs xs ∧ z = reduceHash (Builtin.Tuple.tupleHashOf zs)
theorem al_vals {R : Int → V → Prop} {T : Int → Value → Prop} (h : ∀ z x v, R z x → RelV x v → T z v) : ∀ {zs : List Int} {xs : List V} {vs : List Value}, Al R zs xs → Vals xs vs → Al T zs vs
  | _, _, _, .nil, .nil => .nil
  | _, _, _, .cons a t, .cons r q => .cons (h _ _ _ a r) (al_vals h t q)
section
variable {X : Cx} {pins : List (Addr × Obj)} {σ : St} {H : Hp} {s : Shared}
theorem raw_of (I : Inv X pins σ H s) : ∀ (f : Nat) {z : Int} {x : V} {v : Value}, Hv X.K H f z x → RelV x v → Hs s.heap f z v
  | 0, _, _, _, h, _ => h
  | f + 1, z, x, v, h, r => by
    obtain ⟨a, xs, zs, rfl, sq, al, rfl⟩ := h
    cases r
    obtain ⟨its, rv, ⟨o, ho, hc, n, hd⟩, _⟩ := I.tuple sq
    exact ⟨a, o, its.toArray, n, zs, rfl, ho, hc, hd, al_vals (R := Hv X.K H f) (T := Hs s.heap f) (fun z x v h r => raw_of I f h r) al rv, rfl⟩
end
theorem Al.len {α β : Type} {R : α → β → Prop} : ∀ {xs : List α} {ys : List β}, Al R xs ys → xs.length = ys.length
  | _, _, .nil => rfl
  | _, _, .cons _ t => congrArg (· + 1) t.len
def tLenSetN (K : PySem.W.Frag) (ta : TE) : TE := fun σ H Q => ta σ H fun x H1 => ∃ (l : Addr) (xs : List V) (zs : List Int), x = .ref l ∧ SqL K H1 l xs ∧ Al (Hv K H1 8) zs xs ∧ allNew zs = true ∧ Q (.int (zs.length : Nat)) H1
theorem pe_lenSetN {X : Cx} {a : Expr} {ta : TE} {p p2 q pos : Pos} (hg : Gl X "len") (hm : X.mg "len" = none) (hg2 : Gl X "set") (hm2 : X.mg "set" = none) (ha : PE X a ta) (hc : X.calm = true) (hu : X.A.units + 65 < cLine)
    (na : starEach [a] X.env = (false, eval a X.env) :: starEach [] X.env) : PE X (.Call (.Name "len" p) [.Call (.Name "set" p2) [a] [] q] [] pos) (tLenSetN X.K ta) := by
  refine ⟨fun pins s σ H Q I h => ?_⟩
  refine Call_ (ld_blt I hg hm boot_len (PyProof.Rows.callWith_builtin1 (PyProof.Rows.args_cons (Call_ (ld_blt I hg2 hm2 boot_set ?_)) rfl) rfl rfl))
  refine PyProof.Rows.callWith_type1 (PyProof.Rows.args_cons (thn (ha.run pins s σ H _ I h) fun v s1 ⟨x, H1, I1, r1, ex⟩ => PyProof.Rows.args_nil ?_) na) na rfl
  obtain ⟨l, xs, zs, rfl, sl, al, ok, fin⟩ := ex
  cases r1
  obtain ⟨its, rv, pl, _⟩ := I1.list sl
  refine set_of (f := 8) (Nat.le_refl _) (I1.ok.hd hc) (by omega) pl.isList (by simpa using al_vals (R := Hv X.K H1 8) (T := Hs s1.heap 8) (fun z x v h r => raw_of I1 8 h r) al rv) ok fun h' tk t hs k ss so ln => PyProof.Rows.args_nil ?_
  obtain ⟨o, es, ep, ho, hex, hd, e⟩ := ss
  obtain ⟨_, hf, _, hz⟩ := sound_is so
  have hn : es.size = zs.length := (size_of e).trans ln
  have I2 : Inv X pins σ H1 { s1 with heap := h', toks := tk } := I1.kept k
  exact call_len_set ho hex hd (by rw [size_of e]; exact hf) (by rw [size_of e]; omega) ⟨.int zs.length, H1, I2.tok _, ⟨_, by rw [hn]⟩, fin⟩
end Nt
namespace Av
open PySem PySem.Spec L2 Nt
open PyProof.Rows hiding St
set_option autoImplicit false
def mapO {α β : Type} (g : α → Option β) : List α → Option (List β)
  | [] => some []
  | x :: r => match g x with
    | some y => match mapO g r with
      | some ys => some (y :: ys)
      | none => none
    | none => none
def hOf : Nat → PD → Option Int
  | f + 1, .tuple ds => match mapO (hOf f) ds with
    | some zs => some (reduceHash (Builtin.Tuple.tupleHashOf zs))
    | none => none
  | _, _ => none
def lenSetN : PD → Option PD
  | .list ds => match mapO (hOf 8) ds with
    | some zs => if allNew zs = true then some (.int (zs.length : Nat)) else none
    | none => none
  | _ => none
theorem mapO_cons {α β : Type} {g : α → Option β} {x : α} {r : List α} {zs : List β} (h : mapO g (x :: r) = some zs) : ∃ y ys, g x = some y ∧ mapO g r = some ys ∧ zs = y :: ys := by
  unfold mapO at h
  cases e : g x with
  | none => rw [e] at h; cases h
  | some y =>
    rw [e] at h
    dsimp only at h
    cases e2 : mapO g r with
    | none => rw [e2] at h; cases h
    | some ys => rw [e2] at h; cases h; exact ⟨y, ys, rfl, rfl, rfl⟩
theorem al_of {S : Hp} {R : Int → V → Prop} {g : PD → Option Int} (hg : ∀ x d z, Dq S x d → g d = some z → R z x) : ∀ {xs : List V} {ds : List PD} {zs : List Int}, DqA S xs ds → mapO g ds = some zs → Al R zs xs
  | _, _, _, .nil, h => by cases h; exact .nil
  | _, _, _, .cons a t, h => by
    obtain ⟨y, ys, h1, h2, rfl⟩ := mapO_cons h
    exact .cons (hg _ _ _ a h1) (al_of hg t h2)
theorem hv_of {K : PySem.W.Frag} {S H : Hp} (hs : ∀ a o, S a = some o → H a = some o) : ∀ (f : Nat) {x : V} {d : PD} {z : Int}, Dq S x d → hOf f d = some z → Hv K H f z x
  | 0, _, _, _, _, h => by unfold hOf at h; cases h
  | f + 1, x, d, z, hd, h => by
    cases hd with
    | tup hS hA hN =>
      unfold hOf at h
      rename_i ds
      cases e : mapO (hOf f) ds with
      | none => rw [e] at h; cases h
      | some zs =>
        rw [e] at h
        cases h
        exact ⟨_, _, zs, rfl, SqTF (hs _ _ hS), al_of (fun x d z q h => hv_of hs f q h) hA e, rfl⟩
    | _ => unfold hOf at h; cases h
section
variable {c : Ct} {k : Nat}
theorem de_lenSetN {a : Expr} {f : List Sl → Mo PD} {p p2 q pos : Pos} (ok : c.Ok k) (h : DE c a f) (hm : c.X.mg "len" = none) (hm2 : c.X.mg "set" = none) (hg : Gl c.X "len" := by rfl) (hg2 : Gl c.X "set" := by rfl)
    (na : starEach [a] c.X.env = (false, eval a c.X.env) :: starEach [] c.X.env := by rfl) : DE c (.Call (.Name "len" p) [.Call (.Name "set" p2) [a] [] q] [] pos) (eUnD lenSetN f) :=
  PE.imp (pe_lenSetN hg hm hg2 hm2 h ok.cm (u65 ok.rm) na) fun σ H Q q => by
    obtain ⟨L0, H0, L, g, Γ, fr, po⟩ := q
    have po := Post.bind po
    refine ⟨L0, H0, L, g, Γ, fr, po.mono fun d g1 L1 H1 st1 rel1 po1 v hv => ?_⟩
    obtain ⟨z, hz, po1⟩ := po1.lift rel1
    match d, hz, hv with
    | .list ds, hz, .lst (a := b) (xs := xs) hS hA =>
      unfold lenSetN at hz
      cases e : mapO (hOf 8) ds with
      | none => simp [e] at hz
      | some zs =>
        simp only [e] at hz
        obtain ⟨hb, rfl⟩ := if_some hz
        exact ⟨b, xs, zs, rfl, SqL.of (rel1.s _ _ hS), al_of (fun x d z q h => hv_of rel1.s 8 q h) hA e, hb, po1 L1 H1 (Stp.refl rel1) rel1 _ (.int _)⟩
end
end Av

namespace Lw
open PySem PySem.Spec L2 Av
open PyProof.Rows hiding St
set_option autoImplicit false
def q_law_1 : List Sl → Mo Fl :=
  (sAsg 2 (eCallF F__law_draw (sObj 0 (sObj 1 (sCons (eC (.int 7)) sNil)))))
def q_law_2 : List Sl → Mo Fl :=
  (sAsg 3 (eCallF F_all_up (sCons (eVar 2) (sCons (eVar 2) sNil))))
def q_law_3 : List Sl → Mo Fl :=
  (sIf (bOr (eTest (eBin neD (eVar 3) (eCallF F__law_all_hills (sCons (eVar 2) sNil)))) (bOr (eTest (eBin neD (eCall lenD (aCons (eVar 3) aNil)) (eCallF F_count_up (sCons (eVar 2) (sCons (eVar 2) sNil))))) (eTest (eBin neD (eUnD lenSetN (eLc (iSeq (eVar 3)) (.one 4) tYesM (eCallF F_tree (sCons (eVar 4) sNil)))) (eCall lenD (aCons (eVar 3) aNil)))))) (sRet (eC (.bool false))) sNext)
def q_law_4 : List Sl → Mo Fl :=
  (sAsg 5 (eC (.int 1)))
def q_law_5 : List Sl → Mo Fl :=
  (sFor (iVia rng1 (aCons (eVar 2) aNil)) (.one 6) (sAsg 5 (eBin mulE (eVar 5) (eC (.int 4)))))
def q_law_6 : List Sl → Mo Fl :=
  (sIf (eTest (eBin neD (eCall sumE (aCons (eLc (iSeq (eVar 3)) (.one 4) tYesM (eCallF F_area (sCons (eVar 4) sNil))) aNil)) (eBin subD (eVar 5) (eCallF F__law_chosen (sCons (eBin addD (eBin mulE (eC (.int 2)) (eVar 2)) (eC (.int 1))) (sCons (eVar 2) sNil)))))) (sRet (eC (.bool false))) sNext)
def q_law_7 : List Sl → Mo Fl :=
  (sPar 7 8 (aCons (eBin ixD (eVar 3) (eC (.int 0))) (aCons (eBin ixD (eVar 3) (eUn negD (eC (.int 1)))) aNil)))
def q_law_8 : List Sl → Mo Fl :=
  (sFor (iSeq (eVar 3)) (.one 4) (sIf (bOr (bNot (eTest (eCallF F_is_below (sCons (eVar 7) (sCons (eVar 4) sNil))))) (bOr (bNot (eTest (eCallF F_is_below (sCons (eVar 4) (sCons (eVar 8) sNil))))) (eTest (eBin neD (eCall lenD (aCons (eCallF F_tree (sCons (eVar 4) sNil)) aNil)) (eCallF F_touches (sCons (eVar 4) sNil)))))) (sRet (eC (.bool false))) sNext))
def q_law_9 : List Sl → Mo Fl :=
  (sAsg 4 (eCallF F__law_pick (sObj 0 (sObj 1 (sCons (eVar 3) sNil)))))
def q_law_10 : List Sl → Mo Fl :=
  (sWhile (eTest (eBin neD (eVar 4) (eVar 7))) (sSeq (sAsg 9 (eLc (iSeq (eCallF F_changes (sCons (eVar 4) sNil))) (.one 10) (eTest (eBin ltD (eCallF F_area (sCons (eVar 10) sNil)) (eCallF F_area (sCons (eVar 4) sNil)))) (eVar 10)))
    (sSeq (sIf (eTest (eBin eqD (eVar 9) (eLst aNil))) (sRet (eC (.bool false))) sNext)
    (sAsg 4 (eCallF F__law_pick (sObj 0 (sObj 1 (sCons (eVar 9) sNil))))))) 64)
def q_law_11 : List Sl → Mo Fl :=
  (sRet (eAnd (eBin eqD (eCallF F_area (sCons (eVar 4) sNil)) (eVar 2)) (eBin eqD (eLc (iSeq (eCallF F_changes (sCons (eVar 4) sNil))) (.one 10) (eTest (eBin ltD (eCallF F_area (sCons (eVar 10) sNil)) (eVar 2))) (eVar 10)) (eLst aNil))))
def m_law : List Sl → Mo Fl :=
  (sSeq q_law_1
    (sSeq q_law_2
    (sSeq q_law_3
    (sSeq q_law_4
    (sSeq q_law_5
    (sSeq q_law_6
    (sSeq q_law_7
    (sSeq q_law_8
    (sSeq q_law_9
    (sSeq q_law_10
    q_law_11))))))))))
end Lw

namespace Lw
open PySem PySem.Spec L2 Av
open PyProof.Rows hiding St
set_option autoImplicit false
def topS (i : Nat) : Stmt := PySem.Challenge.pw_abovepaths_k19_whole_averages.main.body.getD i (.Pass ⟨0, 0, 0, 0⟩)
abbrev s_is_integer : Stmt := topS 8
abbrev s_is_path : Stmt := topS 9
abbrev s_check_path : Stmt := topS 10
abbrev s_heights_of : Stmt := topS 11
abbrev s_is_up : Stmt := topS 12
abbrev s_closes : Stmt := topS 13
abbrev s_check_hill : Stmt := topS 15
abbrev s_tree : Stmt := topS 16
abbrev s_check_hills : Stmt := topS 18
abbrev s_is_below : Stmt := topS 19
abbrev s_area : Stmt := topS 20
abbrev s_change_list : Stmt := topS 21
abbrev s_changes : Stmt := topS 22
abbrev s_choose : Stmt := topS 24
abbrev s_check_steps : Stmt := topS 25
abbrev s_up_count : Stmt := topS 26
abbrev s_count_up : Stmt := topS 27
abbrev s_all_up : Stmt := topS 28
abbrev s_touches : Stmt := topS 30
abbrev s__law_cell_at : Stmt := topS 32
abbrev s__law_mixed : Stmt := topS 33
abbrev s__law_draw : Stmt := topS 34
abbrev s__law_pick : Stmt := topS 35
abbrev s__law_all_hills : Stmt := topS 36
abbrev s__law_chosen : Stmt := topS 37
abbrev s_law : Stmt := topS 38
structure Tx (K : PySem.W.Frag) (mg : Str → Option Value) (p : Pm) : Prop where
  hK : p.K = K
  n_all : mg "all" = none
  n_bool : mg "bool" = none
  n_int : mg "int" = none
  n_isinstance : mg "isinstance" = none
  n_len : mg "len" = none
  n_min : mg "min" = none
  n_range : mg "range" = none
  n_set : mg "set" = none
  n_sorted : mg "sorted" = none
  n_sum : mg "sum" = none
  n_tuple : mg "tuple" = none
  n_zip : mg "zip" = none
  x_DifferentLength : ExC K mg "DifferentLength" (p.cls 7)
  x_InvalidNumber : ExC K mg "InvalidNumber" (p.cls 2)
  x_InvalidPath : ExC K mg "InvalidPath" (p.cls 0)
  x_NotHill : ExC K mg "NotHill" (p.cls 5)
  g_MOST : ∃ t, mg "MOST" = some (.int 12 t)
section
variable {P : Program} {w : World} {K : PySem.W.Frag} {mg : Str → Option Value} {base : Heap} {p : Pm}
theorem ok_mk {N : List Str} {qual : Str} {sc : Scope} {f : Addr} {cdv : Value} {A : Around} {outer : List Env} {s : Shared} {H : Hp} {E : XK} {k : Nat} (hK : p.K = K) (hr : Room k (A.deeper (envOfC qual sc s.heap.objs.size f cdv))) (nd : N.Nodup) :
    Ct.Ok ⟨cxOf (L2N.CX P w) P w K mg base N qual sc f cdv A outer s H E, p, fun cls d _ H' => E cls d H'⟩ k :=
  ⟨hK, hr, rfl, nd, L2N.takes_of rfl rfl rfl rfl, passes_of rfl⟩
theorem okb {c : Ct} {k : Nat} (ok : c.Ok k) {s : Shared} {H : Hp} {scope : Scope} {C : Addr} {cl : List (Str × Addr)} {fp : List Addr} : (c.blk s H scope C cl fp).Ok k :=
  ⟨ok.K, ok.rm, ok.cm, ok.nd, takes0N, PassesOwn.never⟩
abbrev N_is_integer : List Str := ["value", "low", "high"]
theorem sc_is_integer : FnScope N_is_integer ["value", "low", "high"] (defScope s_is_integer) := ⟨rfl, rfl, rfl, by decide +kernel, rfl, by decide +kernel, by decide +kernel⟩
theorem ok_is_integer {f : Addr} {fd : FuncData} (T : Tx K mg p) (F : Fun K "is_integer" "is_integer" s_is_integer f fd)  : FnOk P w K mg base (L2N.CX P w) 1 f fd ["value", "low", "high"] (spF p F_is_integer) := by
  refine fn_of_body F sc_is_integer fun cdv A outer s H E hr => ?_
  have ok := ok_mk (P := P) (w := w) (mg := mg) (base := base) (outer := outer) (H := H) (E := E) T.hK hr sc_is_integer.nd
  
  exact (dss_one (ds_ret (de_and (de_isi .int T.n_isinstance T.n_int (by decide +kernel) (de_var 0)) (de_and (de_not (de_isi .bool T.n_isinstance T.n_bool (by decide +kernel) (de_var 0))) (de_one (de_chain op_le ops_le op_le ops_le (de_var 1) (de_var 0) (de_var 2)))))))
theorem fd_is_integer (T : Tx K mg p) (A : FAt K mg "is_integer" s_is_integer)  : FnD P w K mg base p 1 "is_integer" F_is_integer := by
  obtain ⟨f, fd, F, hm, hk⟩ := A
  exact ⟨f, fd, _, ok_is_integer T F , hm, hk, F.binds (ps := ["value", "low", "high"]) fun _ _ _ _ _ _ us hl => match us, hl with | [_, _, _], _ => rfl⟩
abbrev N_is_path : List Str := ["value", "step"]
theorem sc_is_path : FnScope N_is_path ["value"] (defScope s_is_path) := ⟨rfl, rfl, rfl, by decide +kernel, rfl, by decide +kernel, by decide +kernel⟩
theorem ok_is_path {f : Addr} {fd : FuncData} (T : Tx K mg p) (F : Fun K "is_path" "is_path" s_is_path f fd) (f_is_integer : FnD P w K mg base p 1 "is_integer" F_is_integer) : FnOk P w K mg base (L2N.CX P w) 2 f fd ["value"] (spF p F_is_path) := by
  refine fn_of_body F sc_is_path fun cdv A outer s H E hr => ?_
  have ok := ok_mk (P := P) (w := w) (mg := mg) (base := base) (outer := outer) (H := H) (E := E) T.hK hr sc_is_path.nd
  have f_is_integer := f_is_integer.mono (show 1 ≤ 1 by decide)
  exact (dss_cons (ds_if (dt_w (dw_or (dt_not (dt_val (de_isi .tuple T.n_isinstance T.n_tuple (by decide +kernel) (de_var 0)))) (dw_or1 (dt_cmp op_gt ops_gt (de_len T.n_len (de_var 0)) (de_gint T.g_MOST.choose_spec) (nomark _))))) (dss_one (ds_ret de_bl)) dss_nil)
    (dss_one (ds_ret (de_callB (cr_all ok.cm) calls_all T.n_all (by decide +kernel) (da_cons (de_lc ok (di_seq (de_var 0)) (blkOk_by (N := N_is_path) (sc := defScope s_is_path) (own := [("step", 1)]) (by decide +kernel)) rfl (fun _ _ _ _ _ => dg_one 1 ok.nd) (fun _ _ _ _ _ => dts_nil) (fun _ _ _ _ _ => (de_and (de_call (okb ok) f_is_integer (das_cons (de_var 1) (das_cons (de_neg de_int) (das_cons de_int das_nil)))) (de_one (de_cmp (op_neD (okb ok).rm.units) ops_ne (de_var 1) de_int (nomark _)))))) da_nil)))))
theorem fd_is_path (T : Tx K mg p) (A : FAt K mg "is_path" s_is_path) (f_is_integer : FnD P w K mg base p 1 "is_integer" F_is_integer) : FnD P w K mg base p 2 "is_path" F_is_path := by
  obtain ⟨f, fd, F, hm, hk⟩ := A
  exact ⟨f, fd, _, ok_is_path T F f_is_integer, hm, hk, F.binds (ps := ["value"]) fun _ _ _ _ _ _ us hl => match us, hl with | [_], _ => rfl⟩
abbrev N_check_path : List Str := ["path"]
theorem sc_check_path : FnScope N_check_path ["path"] (defScope s_check_path) := ⟨rfl, rfl, rfl, by decide +kernel, rfl, by decide +kernel, by decide +kernel⟩
theorem ok_check_path {f : Addr} {fd : FuncData} (T : Tx K mg p) (F : Fun K "check_path" "check_path" s_check_path f fd) (f_is_path : FnD P w K mg base p 2 "is_path" F_is_path) : FnOk P w K mg base (L2N.CX P w) 3 f fd ["path"] (spF p F_check_path) := by
  refine fn_of_body F sc_check_path fun cdv A outer s H E hr => ?_
  have ok := ok_mk (P := P) (w := w) (mg := mg) (base := base) (outer := outer) (H := H) (E := E) T.hK hr sc_check_path.nd
  have f_is_path := f_is_path.mono (show 2 ≤ 2 by decide)
  exact (dss_one (ds_if (dt_not (dt_val (de_call ok f_is_path (das_cons (de_var 0) das_nil)))) (dss_one (ds_raise 0 ok T.x_InvalidPath)) dss_nil))
theorem fd_check_path (T : Tx K mg p) (A : FAt K mg "check_path" s_check_path) (f_is_path : FnD P w K mg base p 2 "is_path" F_is_path) : FnD P w K mg base p 3 "check_path" F_check_path := by
  obtain ⟨f, fd, F, hm, hk⟩ := A
  exact ⟨f, fd, _, ok_check_path T F f_is_path, hm, hk, F.binds (ps := ["path"]) fun _ _ _ _ _ _ us hl => match us, hl with | [_], _ => rfl⟩
abbrev N_heights_of : List Str := ["path", "result", "step"]
theorem sc_heights_of : FnScope N_heights_of ["path"] (defScope s_heights_of) := ⟨rfl, rfl, rfl, by decide +kernel, rfl, by decide +kernel, by decide +kernel⟩
theorem ok_heights_of {f : Addr} {fd : FuncData} (T : Tx K mg p) (F : Fun K "heights_of" "heights_of" s_heights_of f fd)  : FnOk P w K mg base (L2N.CX P w) 1 f fd ["path"] (spF p F_heights_of) := by
  refine fn_of_body F sc_heights_of fun cdv A outer s H E hr => ?_
  have ok := ok_mk (P := P) (w := w) (mg := mg) (base := base) (outer := outer) (H := H) (E := E) T.hK hr sc_heights_of.nd
  
  exact (dss_cons (ds_own 1 ok (df_lst (da_cons de_int da_nil)))
    (dss_cons (ds_for ok (di_seq (de_var 0)) (dg_one 2 ok.nd) (dss_one (ds_app 1 (de_bor 1 (de_add ok (de_ix (de_var 1) (de_neg de_int)) (de_var 2))))))
    (dss_one (ds_frz 1 (ds_ret (de_var 1))))))
theorem fd_heights_of (T : Tx K mg p) (A : FAt K mg "heights_of" s_heights_of)  : FnD P w K mg base p 1 "heights_of" F_heights_of := by
  obtain ⟨f, fd, F, hm, hk⟩ := A
  exact ⟨f, fd, _, ok_heights_of T F , hm, hk, F.binds (ps := ["path"]) fun _ _ _ _ _ _ us hl => match us, hl with | [_], _ => rfl⟩
abbrev N_is_up : List Str := ["path"]
theorem sc_is_up : FnScope N_is_up ["path"] (defScope s_is_up) := ⟨rfl, rfl, rfl, by decide +kernel, rfl, by decide +kernel, by decide +kernel⟩
theorem ok_is_up {f : Addr} {fd : FuncData} (T : Tx K mg p) (F : Fun K "is_up" "is_up" s_is_up f fd) (f_heights_of : FnD P w K mg base p 1 "heights_of" F_heights_of) : FnOk P w K mg base (L2N.CX P w) 2 f fd ["path"] (spF p F_is_up) := by
  refine fn_of_body F sc_is_up fun cdv A outer s H E hr => ?_
  have ok := ok_mk (P := P) (w := w) (mg := mg) (base := base) (outer := outer) (H := H) (E := E) T.hK hr sc_is_up.nd
  have f_heights_of := f_heights_of.mono (show 1 ≤ 1 by decide)
  exact (dss_one (ds_ret (de_cmp op_ge ops_ge (de_callB (cr_minE ok.cm ok.rm) calls_minE T.n_min (by decide +kernel) (da_cons (de_call ok f_heights_of (das_cons (de_var 0) das_nil)) da_nil)) de_int (nomark _))))
theorem fd_is_up (T : Tx K mg p) (A : FAt K mg "is_up" s_is_up) (f_heights_of : FnD P w K mg base p 1 "heights_of" F_heights_of) : FnD P w K mg base p 2 "is_up" F_is_up := by
  obtain ⟨f, fd, F, hm, hk⟩ := A
  exact ⟨f, fd, _, ok_is_up T F f_heights_of, hm, hk, F.binds (ps := ["path"]) fun _ _ _ _ _ _ us hl => match us, hl with | [_], _ => rfl⟩
abbrev N_closes : List Str := ["path"]
theorem sc_closes : FnScope N_closes ["path"] (defScope s_closes) := ⟨rfl, rfl, rfl, by decide +kernel, rfl, by decide +kernel, by decide +kernel⟩
theorem ok_closes {f : Addr} {fd : FuncData} (T : Tx K mg p) (F : Fun K "closes" "closes" s_closes f fd) (f_is_up : FnD P w K mg base p 2 "is_up" F_is_up) : FnOk P w K mg base (L2N.CX P w) 3 f fd ["path"] (spF p F_closes) := by
  refine fn_of_body F sc_closes fun cdv A outer s H E hr => ?_
  have ok := ok_mk (P := P) (w := w) (mg := mg) (base := base) (outer := outer) (H := H) (E := E) T.hK hr sc_closes.nd
  have f_is_up := f_is_up.mono (show 2 ≤ 2 by decide)
  exact (dss_one (ds_ret (de_and (de_call ok f_is_up (das_cons (de_var 0) das_nil)) (de_one (de_cmp (op_eqD ok.rm.units) ops_eq (de_callB (cr_sumE ok.cm) calls_sumE T.n_sum (by decide +kernel) (da_cons (de_var 0) da_nil)) de_int (nomark _))))))
theorem fd_closes (T : Tx K mg p) (A : FAt K mg "closes" s_closes) (f_is_up : FnD P w K mg base p 2 "is_up" F_is_up) : FnD P w K mg base p 3 "closes" F_closes := by
  obtain ⟨f, fd, F, hm, hk⟩ := A
  exact ⟨f, fd, _, ok_closes T F f_is_up, hm, hk, F.binds (ps := ["path"]) fun _ _ _ _ _ _ us hl => match us, hl with | [_], _ => rfl⟩
abbrev N_check_hill : List Str := ["path"]
theorem sc_check_hill : FnScope N_check_hill ["path"] (defScope s_check_hill) := ⟨rfl, rfl, rfl, by decide +kernel, rfl, by decide +kernel, by decide +kernel⟩
theorem ok_check_hill {f : Addr} {fd : FuncData} (T : Tx K mg p) (F : Fun K "check_hill" "check_hill" s_check_hill f fd) (f_check_path : FnD P w K mg base p 3 "check_path" F_check_path) (f_closes : FnD P w K mg base p 3 "closes" F_closes) : FnOk P w K mg base (L2N.CX P w) 4 f fd ["path"] (spF p F_check_hill) := by
  refine fn_of_body F sc_check_hill fun cdv A outer s H E hr => ?_
  have ok := ok_mk (P := P) (w := w) (mg := mg) (base := base) (outer := outer) (H := H) (E := E) T.hK hr sc_check_hill.nd
  have f_check_path := f_check_path.mono (show 3 ≤ 3 by decide)
  have f_closes := f_closes.mono (show 3 ≤ 3 by decide)
  exact (dss_cons (ds_expr (de_call ok f_check_path (das_cons (de_var 0) das_nil)))
    (dss_one (ds_if (dt_not (dt_val (de_call ok f_closes (das_cons (de_var 0) das_nil)))) (dss_one (ds_raise 5 ok T.x_NotHill)) dss_nil)))
theorem fd_check_hill (T : Tx K mg p) (A : FAt K mg "check_hill" s_check_hill) (f_check_path : FnD P w K mg base p 3 "check_path" F_check_path) (f_closes : FnD P w K mg base p 3 "closes" F_closes) : FnD P w K mg base p 4 "check_hill" F_check_hill := by
  obtain ⟨f, fd, F, hm, hk⟩ := A
  exact ⟨f, fd, _, ok_check_hill T F f_check_path f_closes, hm, hk, F.binds (ps := ["path"]) fun _ _ _ _ _ _ us hl => match us, hl with | [_], _ => rfl⟩
abbrev N_tree : List Str := ["path", "line", "step", "branch"]
theorem sc_tree : FnScope N_tree ["path"] (defScope s_tree) := ⟨rfl, rfl, rfl, by decide +kernel, rfl, by decide +kernel, by decide +kernel⟩
theorem ok_tree {f : Addr} {fd : FuncData} (T : Tx K mg p) (F : Fun K "tree" "tree" s_tree f fd) (e_check_hill : FnD P w K mg base p 4 "check_hill" E_check_hill) : FnOk P w K mg base (L2N.CX P w) 5 f fd ["path"] (spF p F_tree) := by
  refine fn_of_body F sc_tree fun cdv A outer s H E hr => ?_
  have ok := ok_mk (P := P) (w := w) (mg := mg) (base := base) (outer := outer) (H := H) (E := E) T.hK hr sc_tree.nd
  have e_check_hill := e_check_hill.mono (show 4 ≤ 4 by decide)
  exact (dss_cons (ds_expr (de_call ok e_check_hill (das_cons (de_var 0) das_nil)))
    (dss_cons (ds_own 1 ok (df_lst (da_cons (de_tup da_nil) da_nil)))
    (dss_cons (ds_for ok (di_seq (de_var 0)) (dg_one 2 ok.nd) (dss_one (ds_if (dt_cmp (op_eqD ok.rm.units) ops_eq (de_var 2) de_int (nomark _)) (dss_one (ds_app 1 (de_tup da_nil))) (dss_cons (ds_pop 3 1 ok)
    (dss_one (ds_setIx 1 (de_neg de_int) (de_bor 1 (de_add ok (de_ix (de_var 1) (de_neg de_int)) (de_tup (da_cons (de_var 3) da_nil))))))))))
    (dss_one (ds_frz 1 (ds_ret (de_ix (de_var 1) de_int)))))))
theorem fd_tree (T : Tx K mg p) (A : FAt K mg "tree" s_tree) (e_check_hill : FnD P w K mg base p 4 "check_hill" E_check_hill) : FnD P w K mg base p 5 "tree" F_tree := by
  obtain ⟨f, fd, F, hm, hk⟩ := A
  exact ⟨f, fd, _, ok_tree T F e_check_hill, hm, hk, F.binds (ps := ["path"]) fun _ _ _ _ _ _ us hl => match us, hl with | [_], _ => rfl⟩
abbrev N_check_hills : List Str := ["one", "other"]
theorem sc_check_hills : FnScope N_check_hills ["one", "other"] (defScope s_check_hills) := ⟨rfl, rfl, rfl, by decide +kernel, rfl, by decide +kernel, by decide +kernel⟩
theorem ok_check_hills {f : Addr} {fd : FuncData} (T : Tx K mg p) (F : Fun K "check_hills" "check_hills" s_check_hills f fd) (e_check_hill : FnD P w K mg base p 4 "check_hill" E_check_hill) : FnOk P w K mg base (L2N.CX P w) 5 f fd ["one", "other"] (spF p F_check_hills) := by
  refine fn_of_body F sc_check_hills fun cdv A outer s H E hr => ?_
  have ok := ok_mk (P := P) (w := w) (mg := mg) (base := base) (outer := outer) (H := H) (E := E) T.hK hr sc_check_hills.nd
  have e_check_hill := e_check_hill.mono (show 4 ≤ 4 by decide)
  exact (dss_cons (ds_expr (de_call ok e_check_hill (das_cons (de_var 0) das_nil)))
    (dss_cons (ds_expr (de_call ok e_check_hill (das_cons (de_var 1) das_nil)))
    (dss_one (ds_if (dt_cmp (op_neD ok.rm.units) ops_ne (de_len T.n_len (de_var 0)) (de_len T.n_len (de_var 1)) (nomark _)) (dss_one (ds_raise 7 ok T.x_DifferentLength)) dss_nil))))
theorem fd_check_hills (T : Tx K mg p) (A : FAt K mg "check_hills" s_check_hills) (e_check_hill : FnD P w K mg base p 4 "check_hill" E_check_hill) : FnD P w K mg base p 5 "check_hills" F_check_hills := by
  obtain ⟨f, fd, F, hm, hk⟩ := A
  exact ⟨f, fd, _, ok_check_hills T F e_check_hill, hm, hk, F.binds (ps := ["one", "other"]) fun _ _ _ _ _ _ us hl => match us, hl with | [_, _], _ => rfl⟩
abbrev N_is_below : List Str := ["one", "other", "first", "second"]
theorem sc_is_below : FnScope N_is_below ["one", "other"] (defScope s_is_below) := ⟨rfl, rfl, rfl, by decide +kernel, rfl, by decide +kernel, by decide +kernel⟩
theorem ok_is_below {f : Addr} {fd : FuncData} (T : Tx K mg p) (F : Fun K "is_below" "is_below" s_is_below f fd) (f_check_hills : FnD P w K mg base p 5 "check_hills" F_check_hills) (e_heights_of : FnD P w K mg base p 1 "heights_of" E_heights_of) : FnOk P w K mg base (L2N.CX P w) 6 f fd ["one", "other"] (spF p F_is_below) := by
  refine fn_of_body F sc_is_below fun cdv A outer s H E hr => ?_
  have ok := ok_mk (P := P) (w := w) (mg := mg) (base := base) (outer := outer) (H := H) (E := E) T.hK hr sc_is_below.nd
  have f_check_hills := f_check_hills.mono (show 5 ≤ 5 by decide)
  have e_heights_of := e_heights_of.mono (show 1 ≤ 5 by decide)
  exact (dss_cons (ds_expr (de_call ok f_check_hills (das_cons (de_var 0) (das_cons (de_var 1) das_nil))))
    (dss_one (ds_ret (de_callB (cr_all ok.cm) calls_all T.n_all (by decide +kernel) (da_cons (de_lc ok (di_zip ok T.n_zip (da_cons (de_call ok e_heights_of (das_cons (de_var 0) das_nil)) (da_cons (de_call ok e_heights_of (das_cons (de_var 1) das_nil)) da_nil))) (blkOk_by (N := N_is_below) (sc := defScope s_is_below) (own := [("first", 2), ("second", 3)]) (by decide +kernel)) rfl (fun _ _ _ _ _ => dg_two 2 3 ok.nd ok.cm) (fun _ _ _ _ _ => dts_nil) (fun _ _ _ _ _ => (de_cmp op_le ops_le (de_var 2) (de_var 3) (nomark _)))) da_nil)))))
theorem fd_is_below (T : Tx K mg p) (A : FAt K mg "is_below" s_is_below) (f_check_hills : FnD P w K mg base p 5 "check_hills" F_check_hills) (e_heights_of : FnD P w K mg base p 1 "heights_of" E_heights_of) : FnD P w K mg base p 6 "is_below" F_is_below := by
  obtain ⟨f, fd, F, hm, hk⟩ := A
  exact ⟨f, fd, _, ok_is_below T F f_check_hills e_heights_of, hm, hk, F.binds (ps := ["one", "other"]) fun _ _ _ _ _ _ us hl => match us, hl with | [_, _], _ => rfl⟩
abbrev N_area : List Str := ["path"]
theorem sc_area : FnScope N_area ["path"] (defScope s_area) := ⟨rfl, rfl, rfl, by decide +kernel, rfl, by decide +kernel, by decide +kernel⟩
theorem ok_area {f : Addr} {fd : FuncData} (T : Tx K mg p) (F : Fun K "area" "area" s_area f fd) (e_check_hill : FnD P w K mg base p 4 "check_hill" E_check_hill) (e_heights_of : FnD P w K mg base p 1 "heights_of" E_heights_of) : FnOk P w K mg base (L2N.CX P w) 5 f fd ["path"] (spF p F_area) := by
  refine fn_of_body F sc_area fun cdv A outer s H E hr => ?_
  have ok := ok_mk (P := P) (w := w) (mg := mg) (base := base) (outer := outer) (H := H) (E := E) T.hK hr sc_area.nd
  have e_check_hill := e_check_hill.mono (show 4 ≤ 4 by decide)
  have e_heights_of := e_heights_of.mono (show 1 ≤ 4 by decide)
  exact (dss_cons (ds_expr (de_call ok e_check_hill (das_cons (de_var 0) das_nil)))
    (dss_one (ds_ret (de_callB (cr_sumE ok.cm) calls_sumE T.n_sum (by decide +kernel) (da_cons (de_call ok e_heights_of (das_cons (de_var 0) das_nil)) da_nil)))))
theorem fd_area (T : Tx K mg p) (A : FAt K mg "area" s_area) (e_check_hill : FnD P w K mg base p 4 "check_hill" E_check_hill) (e_heights_of : FnD P w K mg base p 1 "heights_of" E_heights_of) : FnD P w K mg base p 5 "area" F_area := by
  obtain ⟨f, fd, F, hm, hk⟩ := A
  exact ⟨f, fd, _, ok_area T F e_check_hill e_heights_of, hm, hk, F.binds (ps := ["path"]) fun _ _ _ _ _ _ us hl => match us, hl with | [_], _ => rfl⟩
abbrev N_change_list : List Str := ["path", "found", "at", "after"]
theorem sc_change_list : FnScope N_change_list ["path"] (defScope s_change_list) := ⟨rfl, rfl, rfl, by decide +kernel, rfl, by decide +kernel, by decide +kernel⟩
theorem ok_change_list {f : Addr} {fd : FuncData} (T : Tx K mg p) (F : Fun K "change_list" "change_list" s_change_list f fd) (e_closes : FnD P w K mg base p 3 "closes" E_closes) : FnOk P w K mg base (L2N.CX P w) 4 f fd ["path"] (spF p F_change_list) := by
  refine fn_of_body F sc_change_list fun cdv A outer s H E hr => ?_
  have ok := ok_mk (P := P) (w := w) (mg := mg) (base := base) (outer := outer) (H := H) (E := E) T.hK hr sc_change_list.nd
  have e_closes := e_closes.mono (show 3 ≤ 3 by decide)
  exact (dss_cons (ds_own 1 ok (df_lst da_nil))
    (dss_cons (ds_for ok (di_range1 T.n_range (da_cons (de_sub (de_len T.n_len (de_var 0)) de_int) da_nil)) (dg_one 2 ok.nd) (dss_one (ds_if (dt_cmp (op_neD ok.rm.units) ops_ne (de_ix (de_var 0) (de_var 2)) (de_ix (de_var 0) (de_add ok (de_var 2) de_int)) (nomark _)) (dss_cons (ds_asg 3 ok (de_add ok (de_add ok (de_sl (de_var 0) do_no (do_at (de_var 2))) (de_tup (da_cons (de_ix (de_var 0) (de_add ok (de_var 2) de_int)) (da_cons (de_ix (de_var 0) (de_var 2)) da_nil)))) (de_sl (de_var 0) (do_at (de_add ok (de_var 2) de_int)) do_no)))
    (dss_one (ds_if (dt_val (de_call ok e_closes (das_cons (de_var 3) das_nil))) (dss_one (ds_app 1 (de_var 3))) dss_nil))) dss_nil)))
    (dss_one (ds_frz 1 (ds_ret (de_callB (cr_sortA) calls_sortA T.n_sorted (by decide +kernel) (da_cons (de_var 1) da_nil)))))))
theorem fd_change_list (T : Tx K mg p) (A : FAt K mg "change_list" s_change_list) (e_closes : FnD P w K mg base p 3 "closes" E_closes) : FnD P w K mg base p 4 "change_list" F_change_list := by
  obtain ⟨f, fd, F, hm, hk⟩ := A
  exact ⟨f, fd, _, ok_change_list T F e_closes, hm, hk, F.binds (ps := ["path"]) fun _ _ _ _ _ _ us hl => match us, hl with | [_], _ => rfl⟩
abbrev N_changes : List Str := ["path"]
theorem sc_changes : FnScope N_changes ["path"] (defScope s_changes) := ⟨rfl, rfl, rfl, by decide +kernel, rfl, by decide +kernel, by decide +kernel⟩
theorem ok_changes {f : Addr} {fd : FuncData} (T : Tx K mg p) (F : Fun K "changes" "changes" s_changes f fd) (e_check_hill : FnD P w K mg base p 4 "check_hill" E_check_hill) (f_change_list : FnD P w K mg base p 4 "change_list" F_change_list) : FnOk P w K mg base (L2N.CX P w) 5 f fd ["path"] (spF p F_changes) := by
  refine fn_of_body F sc_changes fun cdv A outer s H E hr => ?_
  have ok := ok_mk (P := P) (w := w) (mg := mg) (base := base) (outer := outer) (H := H) (E := E) T.hK hr sc_changes.nd
  have e_check_hill := e_check_hill.mono (show 4 ≤ 4 by decide)
  have f_change_list := f_change_list.mono (show 4 ≤ 4 by decide)
  exact (dss_cons (ds_expr (de_call ok e_check_hill (das_cons (de_var 0) das_nil)))
    (dss_one (ds_ret (de_call ok f_change_list (das_cons (de_var 0) das_nil)))))
theorem fd_changes (T : Tx K mg p) (A : FAt K mg "changes" s_changes) (e_check_hill : FnD P w K mg base p 4 "check_hill" E_check_hill) (f_change_list : FnD P w K mg base p 4 "change_list" F_change_list) : FnD P w K mg base p 5 "changes" F_changes := by
  obtain ⟨f, fd, F, hm, hk⟩ := A
  exact ⟨f, fd, _, ok_changes T F e_check_hill f_change_list, hm, hk, F.binds (ps := ["path"]) fun _ _ _ _ _ _ us hl => match us, hl with | [_], _ => rfl⟩
abbrev N_choose : List Str := ["many", "some", "result", "one"]
theorem sc_choose : FnScope N_choose ["many", "some"] (defScope s_choose) := ⟨rfl, rfl, rfl, by decide +kernel, rfl, by decide +kernel, by decide +kernel⟩
theorem ok_choose {f : Addr} {fd : FuncData} (T : Tx K mg p) (F : Fun K "choose" "choose" s_choose f fd)  : FnOk P w K mg base (L2N.CX P w) 1 f fd ["many", "some"] (spF p F_choose) := by
  refine fn_of_body F sc_choose fun cdv A outer s H E hr => ?_
  have ok := ok_mk (P := P) (w := w) (mg := mg) (base := base) (outer := outer) (H := H) (E := E) T.hK hr sc_choose.nd
  
  exact (dss_cons (ds_if (dt_not (dt_chain op_le ops_le op_le ops_le de_int (de_var 1) (de_var 0))) (dss_one (ds_ret de_int)) dss_nil)
    (dss_cons (ds_asg 2 ok de_int)
    (dss_cons (ds_for ok (di_range1 T.n_range (da_cons (de_var 1) da_nil)) (dg_one 3 ok.nd) (dss_one (ds_asg 2 ok (de_fdiv (de_mulE (de_var 2) (de_sub (de_var 0) (de_var 3))) (de_add ok (de_var 3) de_int)))))
    (dss_one (ds_ret (de_var 2))))))
theorem fd_choose (T : Tx K mg p) (A : FAt K mg "choose" s_choose)  : FnD P w K mg base p 1 "choose" F_choose := by
  obtain ⟨f, fd, F, hm, hk⟩ := A
  exact ⟨f, fd, _, ok_choose T F , hm, hk, F.binds (ps := ["many", "some"]) fun _ _ _ _ _ _ us hl => match us, hl with | [_, _], _ => rfl⟩
abbrev N_check_steps : List Str := ["ups", "downs"]
theorem sc_check_steps : FnScope N_check_steps ["ups", "downs"] (defScope s_check_steps) := ⟨rfl, rfl, rfl, by decide +kernel, rfl, by decide +kernel, by decide +kernel⟩
theorem ok_check_steps {f : Addr} {fd : FuncData} (T : Tx K mg p) (F : Fun K "check_steps" "check_steps" s_check_steps f fd) (e_is_integer : FnD P w K mg base p 1 "is_integer" E_is_integer) : FnOk P w K mg base (L2N.CX P w) 2 f fd ["ups", "downs"] (spF p F_check_steps) := by
  refine fn_of_body F sc_check_steps fun cdv A outer s H E hr => ?_
  have ok := ok_mk (P := P) (w := w) (mg := mg) (base := base) (outer := outer) (H := H) (E := E) T.hK hr sc_check_steps.nd
  have e_is_integer := e_is_integer.mono (show 1 ≤ 1 by decide)
  exact (dss_one (ds_if (dt_w (dw_or (dt_not (dt_val (de_call ok e_is_integer (das_cons (de_var 0) (das_cons de_int (das_cons (de_gint T.g_MOST.choose_spec) das_nil)))))) (dw_or (dt_not (dt_val (de_call ok e_is_integer (das_cons (de_var 1) (das_cons de_int (das_cons (de_gint T.g_MOST.choose_spec) das_nil)))))) (dw_or1 (dt_cmp op_gt ops_gt (de_add ok (de_var 0) (de_var 1)) (de_gint T.g_MOST.choose_spec) (nomark _)))))) (dss_one (ds_raise 2 ok T.x_InvalidNumber)) dss_nil))
theorem fd_check_steps (T : Tx K mg p) (A : FAt K mg "check_steps" s_check_steps) (e_is_integer : FnD P w K mg base p 1 "is_integer" E_is_integer) : FnD P w K mg base p 2 "check_steps" F_check_steps := by
  obtain ⟨f, fd, F, hm, hk⟩ := A
  exact ⟨f, fd, _, ok_check_steps T F e_is_integer, hm, hk, F.binds (ps := ["ups", "downs"]) fun _ _ _ _ _ _ us hl => match us, hl with | [_, _], _ => rfl⟩
abbrev N_up_count : List Str := ["ups", "downs"]
theorem sc_up_count : FnScope N_up_count ["ups", "downs"] (defScope s_up_count) := ⟨rfl, rfl, rfl, by decide +kernel, rfl, by decide +kernel, by decide +kernel⟩
theorem ok_up_count {f : Addr} {fd : FuncData} (T : Tx K mg p) (F : Fun K "up_count" "up_count" s_up_count f fd) (e_choose : FnD P w K mg base p 1 "choose" E_choose) : FnOk P w K mg base (L2N.CX P w) 2 f fd ["ups", "downs"] (spF p F_up_count) := by
  refine fn_of_body F sc_up_count fun cdv A outer s H E hr => ?_
  have ok := ok_mk (P := P) (w := w) (mg := mg) (base := base) (outer := outer) (H := H) (E := E) T.hK hr sc_up_count.nd
  have e_choose := e_choose.mono (show 1 ≤ 1 by decide)
  exact (dss_one (ds_ret (de_if (dt_cmp op_ge ops_ge (de_var 0) (de_var 1) (nomark _)) (de_fdiv (de_mulE (de_call ok e_choose (das_cons (de_add ok (de_var 0) (de_var 1)) (das_cons (de_var 0) das_nil))) (de_add ok (de_sub (de_var 0) (de_var 1)) de_int)) (de_add ok (de_var 0) de_int)) de_int)))
theorem fd_up_count (T : Tx K mg p) (A : FAt K mg "up_count" s_up_count) (e_choose : FnD P w K mg base p 1 "choose" E_choose) : FnD P w K mg base p 2 "up_count" F_up_count := by
  obtain ⟨f, fd, F, hm, hk⟩ := A
  exact ⟨f, fd, _, ok_up_count T F e_choose, hm, hk, F.binds (ps := ["ups", "downs"]) fun _ _ _ _ _ _ us hl => match us, hl with | [_, _], _ => rfl⟩
abbrev N_count_up : List Str := ["ups", "downs"]
theorem sc_count_up : FnScope N_count_up ["ups", "downs"] (defScope s_count_up) := ⟨rfl, rfl, rfl, by decide +kernel, rfl, by decide +kernel, by decide +kernel⟩
theorem ok_count_up {f : Addr} {fd : FuncData} (T : Tx K mg p) (F : Fun K "count_up" "count_up" s_count_up f fd) (f_check_steps : FnD P w K mg base p 2 "check_steps" F_check_steps) (f_up_count : FnD P w K mg base p 2 "up_count" F_up_count) : FnOk P w K mg base (L2N.CX P w) 3 f fd ["ups", "downs"] (spF p F_count_up) := by
  refine fn_of_body F sc_count_up fun cdv A outer s H E hr => ?_
  have ok := ok_mk (P := P) (w := w) (mg := mg) (base := base) (outer := outer) (H := H) (E := E) T.hK hr sc_count_up.nd
  have f_check_steps := f_check_steps.mono (show 2 ≤ 2 by decide)
  have f_up_count := f_up_count.mono (show 2 ≤ 2 by decide)
  exact (dss_cons (ds_expr (de_call ok f_check_steps (das_cons (de_var 0) (das_cons (de_var 1) das_nil))))
    (dss_one (ds_ret (de_call ok f_up_count (das_cons (de_var 0) (das_cons (de_var 1) das_nil))))))
theorem fd_count_up (T : Tx K mg p) (A : FAt K mg "count_up" s_count_up) (f_check_steps : FnD P w K mg base p 2 "check_steps" F_check_steps) (f_up_count : FnD P w K mg base p 2 "up_count" F_up_count) : FnD P w K mg base p 3 "count_up" F_count_up := by
  obtain ⟨f, fd, F, hm, hk⟩ := A
  exact ⟨f, fd, _, ok_count_up T F f_check_steps f_up_count, hm, hk, F.binds (ps := ["ups", "downs"]) fun _ _ _ _ _ _ us hl => match us, hl with | [_, _], _ => rfl⟩
abbrev N_all_up : List Str := ["ups", "downs", "some", "again", "longer", "path"]
theorem sc_all_up : FnScope N_all_up ["ups", "downs"] (defScope s_all_up) := ⟨rfl, rfl, rfl, by decide +kernel, rfl, by decide +kernel, by decide +kernel⟩
theorem ok_all_up {f : Addr} {fd : FuncData} (T : Tx K mg p) (F : Fun K "all_up" "all_up" s_all_up f fd) (f_check_steps : FnD P w K mg base p 2 "check_steps" F_check_steps) : FnOk P w K mg base (L2N.CX P w) 3 f fd ["ups", "downs"] (spF p F_all_up) := by
  refine fn_of_body F sc_all_up fun cdv A outer s H E hr => ?_
  have ok := ok_mk (P := P) (w := w) (mg := mg) (base := base) (outer := outer) (H := H) (E := E) T.hK hr sc_all_up.nd
  have f_check_steps := f_check_steps.mono (show 2 ≤ 2 by decide)
  exact (dss_cons (ds_expr (de_call ok f_check_steps (das_cons (de_var 0) (das_cons (de_var 1) das_nil))))
    (dss_cons (ds_asg 2 ok (de_if (dt_cmp op_ge ops_ge (de_var 0) (de_var 1) (nomark _)) (de_lst (da_cons (de_tup da_nil) da_nil)) (de_lst da_nil)))
    (dss_cons (ds_for ok (di_range1 T.n_range (da_cons (de_add ok (de_var 0) (de_var 1)) da_nil)) (dg_one 3 ok.nd) (dss_cons (ds_own 4 ok (df_lst da_nil))
    (dss_cons (ds_for ok (di_seq (de_var 2)) (dg_one 5 ok.nd) (dss_cons (ds_if (dt_w (dw_and (dt_cmp (op_ltA ok.rm.units0) ops_lt (de_count (de_var 5) (de_neg de_int)) (de_var 1) (nomark _)) (dw_and1 (dt_cmp op_gt ops_gt (de_callB (cr_sumE ok.cm) calls_sumE T.n_sum (by decide +kernel) (da_cons (de_var 5) da_nil)) de_int (nomark _))))) (dss_one (ds_app 4 (de_add ok (de_var 5) (de_tup (da_cons (de_neg de_int) da_nil))))) dss_nil)
    (dss_one (ds_if (dt_cmp (op_ltA ok.rm.units0) ops_lt (de_count (de_var 5) de_int) (de_var 0) (nomark _)) (dss_one (ds_app 4 (de_add ok (de_var 5) (de_tup (da_cons de_int da_nil))))) dss_nil))))
    (dss_one (ds_frz 4 (ds_asg 2 ok (de_var 4)))))))
    (dss_one (ds_ret (de_var 2))))))
theorem fd_all_up (T : Tx K mg p) (A : FAt K mg "all_up" s_all_up) (f_check_steps : FnD P w K mg base p 2 "check_steps" F_check_steps) : FnD P w K mg base p 3 "all_up" F_all_up := by
  obtain ⟨f, fd, F, hm, hk⟩ := A
  exact ⟨f, fd, _, ok_all_up T F f_check_steps, hm, hk, F.binds (ps := ["ups", "downs"]) fun _ _ _ _ _ _ us hl => match us, hl with | [_, _], _ => rfl⟩
abbrev N_touches : List Str := ["path"]
theorem sc_touches : FnScope N_touches ["path"] (defScope s_touches) := ⟨rfl, rfl, rfl, by decide +kernel, rfl, by decide +kernel, by decide +kernel⟩
theorem ok_touches {f : Addr} {fd : FuncData} (T : Tx K mg p) (F : Fun K "touches" "touches" s_touches f fd) (e_check_path : FnD P w K mg base p 3 "check_path" E_check_path) (e_heights_of : FnD P w K mg base p 1 "heights_of" E_heights_of) : FnOk P w K mg base (L2N.CX P w) 4 f fd ["path"] (spF p F_touches) := by
  refine fn_of_body F sc_touches fun cdv A outer s H E hr => ?_
  have ok := ok_mk (P := P) (w := w) (mg := mg) (base := base) (outer := outer) (H := H) (E := E) T.hK hr sc_touches.nd
  have e_check_path := e_check_path.mono (show 3 ≤ 3 by decide)
  have e_heights_of := e_heights_of.mono (show 1 ≤ 3 by decide)
  exact (dss_cons (ds_expr (de_call ok e_check_path (das_cons (de_var 0) das_nil)))
    (dss_one (ds_ret (de_count (de_sl (de_call ok e_heights_of (das_cons (de_var 0) das_nil)) (do_at de_int) do_no) de_int))))
theorem fd_touches (T : Tx K mg p) (A : FAt K mg "touches" s_touches) (e_check_path : FnD P w K mg base p 3 "check_path" E_check_path) (e_heights_of : FnD P w K mg base p 1 "heights_of" E_heights_of) : FnD P w K mg base p 4 "touches" F_touches := by
  obtain ⟨f, fd, F, hm, hk⟩ := A
  exact ⟨f, fd, _, ok_touches T F e_check_path e_heights_of, hm, hk, F.binds (ps := ["path"]) fun _ _ _ _ _ _ us hl => match us, hl with | [_], _ => rfl⟩
abbrev N__law_cell_at : List Str := ["script", "k", "spare", "again"]
theorem sc__law_cell_at : FnScope N__law_cell_at ["script", "k"] (defScope s__law_cell_at) := ⟨rfl, rfl, rfl, by decide +kernel, rfl, by decide +kernel, by decide +kernel⟩
theorem ok__law_cell_at {f : Addr} {fd : FuncData} (T : Tx K mg p) (F : Fun K "_law_cell_at" "_law_cell_at" s__law_cell_at f fd)  : FnOk P w K mg base (L2N.CX P w) 1 f fd ["script", "k"] (spF p F__law_cell_at) := by
  refine fn_of_body F sc__law_cell_at fun cdv A outer s H E hr => ?_
  have ok := ok_mk (P := P) (w := w) (mg := mg) (base := base) (outer := outer) (H := H) (E := E) T.hK hr sc__law_cell_at.nd
  
  exact (dss_cons (ds_if (dt_cmp (op_ltA ok.rm.units0) ops_lt (de_var 1) (de_scrLen 0 ok T.n_len) (nomark _)) (dss_one (ds_ret (de_scrIx 0 ok (de_var 1)))) dss_nil)
    (dss_cons (ds_if (dt_scrNil 0 ok) (dss_one (ds_ret de_int)) dss_nil)
    (dss_cons (ds_asg 2 ok (de_scrIx 0 ok (de_mod (de_var 1) (de_scrLen 0 ok T.n_len))))
    (dss_cons (ds_for ok (di_range1 T.n_range (da_cons (de_callB (call_min2 ok.cm) calls_min2 T.n_min (by decide +kernel) (da_cons (de_fdiv (de_var 1) (de_scrLen 0 ok T.n_len)) (da_cons de_int da_nil))) da_nil)) (dg_one 3 ok.nd) (dss_one (ds_asg 2 ok (de_fdiv (de_var 2) de_int))))
    (dss_one (ds_ret (de_add ok (de_add ok (de_mul (de_scrIx 0 ok (de_mod (de_var 1) (de_scrLen 0 ok T.n_len))) de_int) (de_var 1)) (de_mul (de_var 2) de_int))))))))
theorem fd__law_cell_at (T : Tx K mg p) (A : FAt K mg "_law_cell_at" s__law_cell_at)  : FnD P w K mg base p 1 "_law_cell_at" F__law_cell_at := by
  obtain ⟨f, fd, F, hm, hk⟩ := A
  exact ⟨f, fd, _, ok__law_cell_at T F , hm, hk, F.binds (ps := ["script", "k"]) fun _ _ _ _ _ _ us hl => match us, hl with | [_, _], _ => rfl⟩
abbrev N__law_mixed : List Str := ["script", "k", "many", "spun"]
theorem sc__law_mixed : FnScope N__law_mixed ["script", "k", "many"] (defScope s__law_mixed) := ⟨rfl, rfl, rfl, by decide +kernel, rfl, by decide +kernel, by decide +kernel⟩
theorem ok__law_mixed {f : Addr} {fd : FuncData} (T : Tx K mg p) (F : Fun K "_law_mixed" "_law_mixed" s__law_mixed f fd) (f__law_cell_at : FnD P w K mg base p 1 "_law_cell_at" F__law_cell_at) : FnOk P w K mg base (L2N.CX P w) 2 f fd ["script", "k", "many"] (spF p F__law_mixed) := by
  refine fn_of_body F sc__law_mixed fun cdv A outer s H E hr => ?_
  have ok := ok_mk (P := P) (w := w) (mg := mg) (base := base) (outer := outer) (H := H) (E := E) T.hK hr sc__law_mixed.nd
  have f__law_cell_at := f__law_cell_at.mono (show 1 ≤ 1 by decide)
  exact (dss_cons (ds_asg 3 ok (de_mod (de_add ok (de_add ok (de_mul (de_call ok f__law_cell_at (das_obj 0 (das_cons (de_var 1) das_nil))) de_int) (de_mul de_int (de_var 1))) de_int) de_int))
    (dss_one (ds_ret (de_mod (de_mod (de_mod (de_pow (de_var 3) de_int) de_int) de_int) (de_var 2)))))
theorem fd__law_mixed (T : Tx K mg p) (A : FAt K mg "_law_mixed" s__law_mixed) (f__law_cell_at : FnD P w K mg base p 1 "_law_cell_at" F__law_cell_at) : FnD P w K mg base p 2 "_law_mixed" F__law_mixed := by
  obtain ⟨f, fd, F, hm, hk⟩ := A
  exact ⟨f, fd, _, ok__law_mixed T F f__law_cell_at, hm, hk, F.binds (ps := ["script", "k", "many"]) fun _ _ _ _ _ _ us hl => match us, hl with | [_, _, _], _ => rfl⟩
abbrev N__law_draw : List Str := ["script", "town", "many"]
theorem sc__law_draw : FnScope N__law_draw ["script", "town", "many"] (defScope s__law_draw) := ⟨rfl, rfl, rfl, by decide +kernel, rfl, by decide +kernel, by decide +kernel⟩
theorem ok__law_draw {f : Addr} {fd : FuncData} (T : Tx K mg p) (F : Fun K "_law_draw" "_law_draw" s__law_draw f fd) (f__law_mixed : FnD P w K mg base p 2 "_law_mixed" F__law_mixed) : FnOk P w K mg base (L2N.CX P w) 3 f fd ["script", "town", "many"] (spF p F__law_draw) := by
  refine fn_of_body F sc__law_draw fun cdv A outer s H E hr => ?_
  have ok := ok_mk (P := P) (w := w) (mg := mg) (base := base) (outer := outer) (H := H) (E := E) T.hK hr sc__law_draw.nd
  have f__law_mixed := f__law_mixed.mono (show 2 ≤ 2 by decide)
  exact (dss_cons (ds_town 1)
    (dss_one (ds_ret (de_call ok f__law_mixed (das_obj 0 (das_cons (de_townLen 1 ok T.n_len) (das_cons (de_var 2) das_nil)))))))
theorem fd__law_draw (T : Tx K mg p) (A : FAt K mg "_law_draw" s__law_draw) (f__law_mixed : FnD P w K mg base p 2 "_law_mixed" F__law_mixed) : FnD P w K mg base p 3 "_law_draw" F__law_draw := by
  obtain ⟨f, fd, F, hm, hk⟩ := A
  exact ⟨f, fd, _, ok__law_draw T F f__law_mixed, hm, hk, F.binds (ps := ["script", "town", "many"]) fun _ _ _ _ _ _ us hl => match us, hl with | [_, _, _], _ => rfl⟩
abbrev N__law_pick : List Str := ["script", "town", "some"]
theorem sc__law_pick : FnScope N__law_pick ["script", "town", "some"] (defScope s__law_pick) := ⟨rfl, rfl, rfl, by decide +kernel, rfl, by decide +kernel, by decide +kernel⟩
theorem ok__law_pick {f : Addr} {fd : FuncData} (T : Tx K mg p) (F : Fun K "_law_pick" "_law_pick" s__law_pick f fd) (f__law_draw : FnD P w K mg base p 3 "_law_draw" F__law_draw) : FnOk P w K mg base (L2N.CX P w) 4 f fd ["script", "town", "some"] (spF p F__law_pick) := by
  refine fn_of_body F sc__law_pick fun cdv A outer s H E hr => ?_
  have ok := ok_mk (P := P) (w := w) (mg := mg) (base := base) (outer := outer) (H := H) (E := E) T.hK hr sc__law_pick.nd
  have f__law_draw := f__law_draw.mono (show 3 ≤ 3 by decide)
  exact (dss_one (ds_ret (de_ix (de_var 2) (de_call ok f__law_draw (das_obj 0 (das_obj 1 (das_cons (de_len T.n_len (de_var 2)) das_nil)))))))
theorem fd__law_pick (T : Tx K mg p) (A : FAt K mg "_law_pick" s__law_pick) (f__law_draw : FnD P w K mg base p 3 "_law_draw" F__law_draw) : FnD P w K mg base p 4 "_law_pick" F__law_pick := by
  obtain ⟨f, fd, F, hm, hk⟩ := A
  exact ⟨f, fd, _, ok__law_pick T F f__law_draw, hm, hk, F.binds (ps := ["script", "town", "some"]) fun _ _ _ _ _ _ us hl => match us, hl with | [_, _, _], _ => rfl⟩
abbrev N__law_all_hills : List Str := ["n", "some", "at", "longer", "own", "here"]
theorem sc__law_all_hills : FnScope N__law_all_hills ["n"] (defScope s__law_all_hills) := ⟨rfl, rfl, rfl, by decide +kernel, rfl, by decide +kernel, by decide +kernel⟩
theorem ok__law_all_hills {f : Addr} {fd : FuncData} (T : Tx K mg p) (F : Fun K "_law_all_hills" "_law_all_hills" s__law_all_hills f fd)  : FnOk P w K mg base (L2N.CX P w) 1 f fd ["n"] (spF p F__law_all_hills) := by
  refine fn_of_body F sc__law_all_hills fun cdv A outer s H E hr => ?_
  have ok := ok_mk (P := P) (w := w) (mg := mg) (base := base) (outer := outer) (H := H) (E := E) T.hK hr sc__law_all_hills.nd
  
  exact (dss_cons (ds_asg 1 ok (de_lst (da_cons (de_tup da_nil) da_nil)))
    (dss_cons (ds_for ok (di_range1 T.n_range (da_cons (de_mulE de_int (de_var 0)) da_nil)) (dg_one 2 ok.nd) (dss_cons (ds_own 3 ok (df_lst da_nil))
    (dss_cons (ds_for ok (di_seq (de_var 1)) (dg_one 4 ok.nd) (dss_cons (ds_asg 5 ok (de_callB (cr_sumE ok.cm) calls_sumE T.n_sum (by decide +kernel) (da_cons (de_var 4) da_nil)))
    (dss_cons (ds_if (dt_cmp op_gt ops_gt (de_var 5) de_int (nomark _)) (dss_one (ds_app 3 (de_add ok (de_var 4) (de_tup (da_cons (de_sub de_int de_int) da_nil))))) dss_nil)
    (dss_one (ds_if (dt_cmp op_le ops_le (de_add ok (de_var 5) de_int) (de_sub (de_sub (de_mulE de_int (de_var 0)) (de_var 2)) de_int) (nomark _)) (dss_one (ds_app 3 (de_add ok (de_var 4) (de_tup (da_cons de_int da_nil))))) dss_nil)))))
    (dss_one (ds_frz 3 (ds_asg 1 ok (de_var 3)))))))
    (dss_one (ds_ret (de_var 1)))))
theorem fd__law_all_hills (T : Tx K mg p) (A : FAt K mg "_law_all_hills" s__law_all_hills)  : FnD P w K mg base p 1 "_law_all_hills" F__law_all_hills := by
  obtain ⟨f, fd, F, hm, hk⟩ := A
  exact ⟨f, fd, _, ok__law_all_hills T F , hm, hk, F.binds (ps := ["n"]) fun _ _ _ _ _ _ us hl => match us, hl with | [_], _ => rfl⟩
abbrev N__law_chosen : List Str := ["many", "some", "row", "again", "one", "other"]
theorem sc__law_chosen : FnScope N__law_chosen ["many", "some"] (defScope s__law_chosen) := ⟨rfl, rfl, rfl, by decide +kernel, rfl, by decide +kernel, by decide +kernel⟩
theorem ok__law_chosen {f : Addr} {fd : FuncData} (T : Tx K mg p) (F : Fun K "_law_chosen" "_law_chosen" s__law_chosen f fd)  : FnOk P w K mg base (L2N.CX P w) 1 f fd ["many", "some"] (spF p F__law_chosen) := by
  refine fn_of_body F sc__law_chosen fun cdv A outer s H E hr => ?_
  have ok := ok_mk (P := P) (w := w) (mg := mg) (base := base) (outer := outer) (H := H) (E := E) T.hK hr sc__law_chosen.nd
  
  exact (dss_cons (ds_asg 2 ok (de_lst (da_cons de_int da_nil)))
    (dss_cons (ds_for ok (di_range1 T.n_range (da_cons (de_var 0) da_nil)) (dg_one 3 ok.nd) (dss_one (ds_asg 2 ok (de_add ok (de_add ok (de_lst (da_cons de_int da_nil)) (de_lc ok (di_zip ok T.n_zip (da_cons (de_var 2) (da_cons (de_sl (de_var 2) (do_at de_int) do_no) da_nil))) (blkOk_by (N := N__law_chosen) (sc := defScope s__law_chosen) (own := [("one", 4), ("other", 5)]) (by decide +kernel)) rfl (fun _ _ _ _ _ => dg_two 4 5 ok.nd ok.cm) (fun _ _ _ _ _ => dts_nil) (fun _ _ _ _ _ => (de_add (okb ok) (de_var 4) (de_var 5))))) (de_lst (da_cons de_int da_nil))))))
    (dss_one (ds_ret (de_if (dt_chain op_le ops_le op_le ops_le de_int (de_var 1) (de_var 0)) (de_ix (de_var 2) (de_var 1)) de_int)))))
theorem fd__law_chosen (T : Tx K mg p) (A : FAt K mg "_law_chosen" s__law_chosen)  : FnD P w K mg base p 1 "_law_chosen" F__law_chosen := by
  obtain ⟨f, fd, F, hm, hk⟩ := A
  exact ⟨f, fd, _, ok__law_chosen T F , hm, hk, F.binds (ps := ["many", "some"]) fun _ _ _ _ _ _ us hl => match us, hl with | [_, _], _ => rfl⟩
abbrev N_law : List Str := ["script", "town", "n", "some", "own", "power", "again", "low", "high", "lesser", "other"]
theorem sc_law : FnScope N_law ["script"] (defScope s_law) := ⟨rfl, rfl, rfl, by decide +kernel, rfl, by decide +kernel, by decide +kernel⟩
theorem ok_law {f : Addr} {fd : FuncData} (T : Tx K mg p) (F : Fun K "law" "law" s_law f fd) (f__law_draw : FnD P w K mg base p 3 "_law_draw" F__law_draw) (f_all_up : FnD P w K mg base p 3 "all_up" F_all_up) (f__law_all_hills : FnD P w K mg base p 1 "_law_all_hills" F__law_all_hills) (f_count_up : FnD P w K mg base p 3 "count_up" F_count_up) (f_tree : FnD P w K mg base p 5 "tree" F_tree) (f_area : FnD P w K mg base p 5 "area" F_area) (f__law_chosen : FnD P w K mg base p 1 "_law_chosen" F__law_chosen) (f_is_below : FnD P w K mg base p 6 "is_below" F_is_below) (f_touches : FnD P w K mg base p 4 "touches" F_touches) (f__law_pick : FnD P w K mg base p 4 "_law_pick" F__law_pick) (f_changes : FnD P w K mg base p 5 "changes" F_changes)
    (hm : ∀ ns : List Int, ns.length ≤ 63 → ∃ g', m_law (Γ0 11 1) ⟨ns, 0, []⟩ = .ok (.ret (.bool true)) g') : FnOk P w K mg base (L2N.CX P w) 7 f fd ["script"] (spLaw K) := by
  refine law_of (it := 1) F sc_law T.hK rfl rfl (by decide) (by first | exact Or.inl rfl | exact Or.inr rfl) (fun _ => rfl) (fun cdv A outer s H E hr => ?_) hm
  have ok := ok_mk (P := P) (w := w) (mg := mg) (base := base) (outer := outer) (H := H) (E := E) T.hK hr sc_law.nd
  have f__law_draw := f__law_draw.mono (show 3 ≤ 6 by decide)
  have f_all_up := f_all_up.mono (show 3 ≤ 6 by decide)
  have f__law_all_hills := f__law_all_hills.mono (show 1 ≤ 6 by decide)
  have f_count_up := f_count_up.mono (show 3 ≤ 6 by decide)
  have f_tree := f_tree.mono (show 5 ≤ 6 by decide)
  have f_area := f_area.mono (show 5 ≤ 6 by decide)
  have f__law_chosen := f__law_chosen.mono (show 1 ≤ 6 by decide)
  have f_is_below := f_is_below.mono (show 6 ≤ 6 by decide)
  have f_touches := f_touches.mono (show 4 ≤ 6 by decide)
  have f__law_pick := f__law_pick.mono (show 4 ≤ 6 by decide)
  have f_changes := f_changes.mono (show 5 ≤ 6 by decide)
  exact (dss_cons (ds_asg 2 ok (de_call ok f__law_draw (das_obj 0 (das_obj 1 (das_cons de_int das_nil)))))
    (dss_cons (ds_asg 3 ok (de_call ok f_all_up (das_cons (de_var 2) (das_cons (de_var 2) das_nil))))
    (dss_cons (ds_if (dt_w (dw_or (dt_cmp (op_neD ok.rm.units) ops_ne (de_var 3) (de_call ok f__law_all_hills (das_cons (de_var 2) das_nil)) (nomark _)) (dw_or (dt_cmp (op_neD ok.rm.units) ops_ne (de_len T.n_len (de_var 3)) (de_call ok f_count_up (das_cons (de_var 2) (das_cons (de_var 2) das_nil))) (nomark _)) (dw_or1 (dt_cmp (op_neD ok.rm.units) ops_ne (de_lenSetN ok (de_lc ok (di_seq (de_var 3)) (blkOk_by (N := N_law) (sc := defScope s_law) (own := [("own", 4)]) (by decide +kernel)) rfl (fun _ _ _ _ _ => dg_one 4 ok.nd) (fun _ _ _ _ _ => dts_nil) (fun _ _ _ _ _ => (de_call (okb ok) f_tree (das_cons (de_var 4) das_nil)))) T.n_len T.n_set) (de_len T.n_len (de_var 3)) (nomark _)))))) (dss_one (ds_ret de_bl)) dss_nil)
    (dss_cons (ds_asg 5 ok de_int)
    (dss_cons (ds_for ok (di_range1 T.n_range (da_cons (de_var 2) da_nil)) (dg_one 6 ok.nd) (dss_one (ds_asg 5 ok (de_mulE (de_var 5) de_int))))
    (dss_cons (ds_if (dt_cmp (op_neD ok.rm.units) ops_ne (de_callB (cr_sumE ok.cm) calls_sumE T.n_sum (by decide +kernel) (da_cons (de_lc ok (di_seq (de_var 3)) (blkOk_by (N := N_law) (sc := defScope s_law) (own := [("own", 4)]) (by decide +kernel)) rfl (fun _ _ _ _ _ => dg_one 4 ok.nd) (fun _ _ _ _ _ => dts_nil) (fun _ _ _ _ _ => (de_call (okb ok) f_area (das_cons (de_var 4) das_nil)))) da_nil)) (de_sub (de_var 5) (de_call ok f__law_chosen (das_cons (de_add ok (de_mulE de_int (de_var 2)) de_int) (das_cons (de_var 2) das_nil)))) (nomark _)) (dss_one (ds_ret de_bl)) dss_nil)
    (dss_cons (ds_par 7 8 ok (da_cons (de_ix (de_var 3) de_int) (da_cons (de_ix (de_var 3) (de_neg de_int)) da_nil)))
    (dss_cons (ds_for ok (di_seq (de_var 3)) (dg_one 4 ok.nd) (dss_one (ds_if (dt_w (dw_or (dt_not (dt_val (de_call ok f_is_below (das_cons (de_var 7) (das_cons (de_var 4) das_nil))))) (dw_or (dt_not (dt_val (de_call ok f_is_below (das_cons (de_var 4) (das_cons (de_var 8) das_nil))))) (dw_or1 (dt_cmp (op_neD ok.rm.units) ops_ne (de_len T.n_len (de_call ok f_tree (das_cons (de_var 4) das_nil))) (de_call ok f_touches (das_cons (de_var 4) das_nil)) (nomark _)))))) (dss_one (ds_ret de_bl)) dss_nil)))
    (dss_cons (ds_asg 4 ok (de_call ok f__law_pick (das_obj 0 (das_obj 1 (das_cons (de_var 3) das_nil)))))
    (dss_cons (ds_while 64 ok (dt_cmp (op_neD ok.rm.units) ops_ne (de_var 4) (de_var 7) (nomark _)) (dss_cons (ds_setLc 9 ok (di_seq (de_call ok f_changes (das_cons (de_var 4) das_nil))) (blkOk_by (N := N_law) (sc := defScope s_law) (own := [("other", 10)]) (by decide +kernel)) rfl (fun _ _ _ _ _ => dg_one 10 ok.nd) (fun _ _ _ _ _ => (dts_one (dt_cmp (op_ltA (okb ok).rm.units0) ops_lt (de_call (okb ok) f_area (das_cons (de_var 10) das_nil)) (de_call (okb ok) f_area (das_cons (de_var 4) das_nil)) (nomark _)))) (fun _ _ _ _ _ => (de_var 10)) (sw_true rfl rfl rfl (by decide +kernel)))
    (dss_cons (ds_if (dt_cmp (op_eqD ok.rm.units) ops_eq (de_var 9) (de_lst da_nil) (nomark _)) (dss_one (ds_ret de_bl)) dss_nil)
    (dss_one (ds_asg 4 ok (de_call ok f__law_pick (das_obj 0 (das_obj 1 (das_cons (de_var 9) das_nil)))))))))
    (dss_one (ds_ret (de_and (de_cmp (op_eqD ok.rm.units) ops_eq (de_call ok f_area (das_cons (de_var 4) das_nil)) (de_var 2) (nomark _)) (de_one (de_cmp (op_eqD ok.rm.units) ops_eq (de_lc ok (di_seq (de_call ok f_changes (das_cons (de_var 4) das_nil))) (blkOk_by (N := N_law) (sc := defScope s_law) (own := [("other", 10)]) (by decide +kernel)) rfl (fun _ _ _ _ _ => dg_one 10 ok.nd) (fun _ _ _ _ _ => (dts_one (dt_cmp (op_ltA (okb ok).rm.units0) ops_lt (de_call (okb ok) f_area (das_cons (de_var 10) das_nil)) (de_var 2) (nomark _)))) (fun _ _ _ _ _ => (de_var 10))) (de_lst da_nil) (nomark _))))))))))))))))
end
theorem all_mk {l : PySem.W.OpenLaw} {w : World} {K : PySem.W.Frag} {h : Heap} {mg : Str → Option Value} {fa : Addr} (X : K.In h) (G : h.Ns mainGlobals mg) (hfa : mg "law" = some (.ref fa)) {C7 C2 C0 C5 : Addr}
    (x_DifferentLength : ExC K mg "DifferentLength" C7) (x_InvalidNumber : ExC K mg "InvalidNumber" C2) (x_InvalidPath : ExC K mg "InvalidPath" C0) (x_NotHill : ExC K mg "NotHill" C5) (g_MOST : ∃ t, mg "MOST" = some (.int 12 t))
    (n_all : mg "all" = none) (n_bool : mg "bool" = none) (n_int : mg "int" = none) (n_isinstance : mg "isinstance" = none) (n_len : mg "len" = none) (n_min : mg "min" = none) (n_range : mg "range" = none) (n_set : mg "set" = none) (n_sorted : mg "sorted" = none) (n_sum : mg "sum" = none) (n_tuple : mg "tuple" = none) (n_zip : mg "zip" = none) (A_is_integer : FAt K mg "is_integer" s_is_integer) (A_is_path : FAt K mg "is_path" s_is_path) (A_check_path : FAt K mg "check_path" s_check_path) (A_heights_of : FAt K mg "heights_of" s_heights_of) (A_is_up : FAt K mg "is_up" s_is_up) (A_closes : FAt K mg "closes" s_closes) (A_check_hill : FAt K mg "check_hill" s_check_hill) (A_tree : FAt K mg "tree" s_tree) (A_check_hills : FAt K mg "check_hills" s_check_hills) (A_is_below : FAt K mg "is_below" s_is_below) (A_area : FAt K mg "area" s_area) (A_change_list : FAt K mg "change_list" s_change_list) (A_changes : FAt K mg "changes" s_changes) (A_choose : FAt K mg "choose" s_choose) (A_check_steps : FAt K mg "check_steps" s_check_steps) (A_up_count : FAt K mg "up_count" s_up_count) (A_count_up : FAt K mg "count_up" s_count_up) (A_all_up : FAt K mg "all_up" s_all_up) (A_touches : FAt K mg "touches" s_touches) (A__law_cell_at : FAt K mg "_law_cell_at" s__law_cell_at) (A__law_mixed : FAt K mg "_law_mixed" s__law_mixed) (A__law_draw : FAt K mg "_law_draw" s__law_draw) (A__law_pick : FAt K mg "_law_pick" s__law_pick) (A__law_all_hills : FAt K mg "_law_all_hills" s__law_all_hills) (A__law_chosen : FAt K mg "_law_chosen" s__law_chosen) (A_law : FAt K mg "law" s_law)
    (hm : ∀ ns : List Int, ns.length ≤ 63 → ∃ g', m_law (Γ0 11 1) ⟨ns, 0, []⟩ = .ok (.ret (.bool true)) g') :
    ∃ fd : FuncData, (∀ (s : Shared) (v : Value), BindsTo s fd ⟨[v], []⟩ [("script", v)]) ∧ ∀ base : Heap, K.In base → base.Ns mainGlobals mg → FnOk l.prog w K mg base (L2N.CX l.prog w) 7 fa fd ["script"] (spLaw K) := by
  obtain ⟨f, fd, F, hm', hk⟩ := A_law
  have e := hfa.symm.trans hm'
  cases e
  have T : Tx K mg ⟨K, 0, fun i => match i with | 7 => C7 | 2 => C2 | 0 => C0 | 5 => C5 | _ => 0⟩ := ⟨rfl, n_all, n_bool, n_int, n_isinstance, n_len, n_min, n_range, n_set, n_sorted, n_sum, n_tuple, n_zip, x_DifferentLength, x_InvalidNumber, x_InvalidPath, x_NotHill, g_MOST⟩
  refine ⟨fd, fun s v => ?_, fun base _ _ => ?_⟩
  · obtain ⟨oc, od, kV, doc, pm, an, cdv, ct, osl, rfl, lk, hcd⟩ := F.ex
    exact .of_eq rfl
  · have f_is_integer := fd_is_integer (P := l.prog) (w := w) (base := base) T A_is_integer 
    have e_is_integer := f_is_integer.re re_is_integer
    have f_is_path := fd_is_path (P := l.prog) (w := w) (base := base) T A_is_path f_is_integer
    have e_is_path := f_is_path.re re_is_path
    have f_check_path := fd_check_path (P := l.prog) (w := w) (base := base) T A_check_path f_is_path
    have e_check_path := f_check_path.re re_check_path
    have f_heights_of := fd_heights_of (P := l.prog) (w := w) (base := base) T A_heights_of 
    have e_heights_of := f_heights_of.re re_heights_of
    have f_is_up := fd_is_up (P := l.prog) (w := w) (base := base) T A_is_up f_heights_of
    have e_is_up := f_is_up.re re_is_up
    have f_closes := fd_closes (P := l.prog) (w := w) (base := base) T A_closes f_is_up
    have e_closes := f_closes.re re_closes
    have f_check_hill := fd_check_hill (P := l.prog) (w := w) (base := base) T A_check_hill f_check_path f_closes
    have e_check_hill := f_check_hill.re re_check_hill
    have f_tree := fd_tree (P := l.prog) (w := w) (base := base) T A_tree e_check_hill
    have f_check_hills := fd_check_hills (P := l.prog) (w := w) (base := base) T A_check_hills e_check_hill
    have f_is_below := fd_is_below (P := l.prog) (w := w) (base := base) T A_is_below f_check_hills e_heights_of
    have f_area := fd_area (P := l.prog) (w := w) (base := base) T A_area e_check_hill e_heights_of
    have f_change_list := fd_change_list (P := l.prog) (w := w) (base := base) T A_change_list e_closes
    have f_changes := fd_changes (P := l.prog) (w := w) (base := base) T A_changes e_check_hill f_change_list
    have f_choose := fd_choose (P := l.prog) (w := w) (base := base) T A_choose 
    have e_choose := f_choose.re re_choose
    have f_check_steps := fd_check_steps (P := l.prog) (w := w) (base := base) T A_check_steps e_is_integer
    have f_up_count := fd_up_count (P := l.prog) (w := w) (base := base) T A_up_count e_choose
    have f_count_up := fd_count_up (P := l.prog) (w := w) (base := base) T A_count_up f_check_steps f_up_count
    have f_all_up := fd_all_up (P := l.prog) (w := w) (base := base) T A_all_up f_check_steps
    have f_touches := fd_touches (P := l.prog) (w := w) (base := base) T A_touches e_check_path e_heights_of
    have f__law_cell_at := fd__law_cell_at (P := l.prog) (w := w) (base := base) T A__law_cell_at 
    have f__law_mixed := fd__law_mixed (P := l.prog) (w := w) (base := base) T A__law_mixed f__law_cell_at
    have f__law_draw := fd__law_draw (P := l.prog) (w := w) (base := base) T A__law_draw f__law_mixed
    have f__law_pick := fd__law_pick (P := l.prog) (w := w) (base := base) T A__law_pick f__law_draw
    have f__law_all_hills := fd__law_all_hills (P := l.prog) (w := w) (base := base) T A__law_all_hills 
    have f__law_chosen := fd__law_chosen (P := l.prog) (w := w) (base := base) T A__law_chosen 
    exact ok_law T F f__law_draw f_all_up f__law_all_hills f_count_up f_tree f_area f__law_chosen f_is_below f_touches f__law_pick f_changes hm
end Lw

namespace Lw
open PySem PySem.Spec L2 Av
set_option autoImplicit false
theorem t_heights (p : List Int) (h : okP p = true) (g : G) : F_heights [.val (tupI p)] g = .ok (lstI (hts 0 p)) g := by
  have hl : p.length ≤ 12 := by unfold okP at h; simp at h; exact h.1
  simp [runB, sSeq, sAsg, sRet, sIf, sDrop, sNext, sAug, sRaise, sFor, sApp, sOwn, sPar, sParOV, sParVO, sParOO, sPar3, sFrz, sExt, eBor, eC, eVar, getV, getO, getOw, eBin, eTest, eChain, bAnd, bOr, bNot, eAnd, eOr, eNot, eIf, aNil, aCons, sNil, sCons, sObj, eTup, eLst, eCall, eCallF, eUn, eUnD, eIsi, eSl, oNo, Av.oAt, fLst, fList, iSeq, iVia, tYesM, bnd, lift, Res.bind, Av.ret, frz, small, Nat.ble, Av.plain, le_i, gt_i, ge_i, lt_i, sub_i, add_i, ipAdd_i, ipSub_i, neg_i, is_b, isNot_b, asB_b, asI_i, isi_ii, isi_bi, isi_bb, isi_ib, isi_ti, isi_tt, isi_tl, isi_tn, isi_ts, isi_in, isi_is, isi_it, isi_il, F_heights, m_heights, q_check_path p h, q_heights_of p (by omega)]
theorem t_stays_up (p : List Int) (h : okP p = true) (g : G) : F_stays_up [.val (tupI p)] g = .ok (.bool (up 0 p)) g := by
  have hl := okP_len h
  simp [runB, sSeq, sAsg, sRet, sIf, sDrop, sNext, sAug, sRaise, sFor, sApp, sOwn, sPar, sParOV, sParVO, sParOO, sPar3, sFrz, sExt, eBor, eC, eVar, getV, getO, getOw, eBin, eTest, eChain, bAnd, bOr, bNot, eAnd, eOr, eNot, eIf, aNil, aCons, sNil, sCons, sObj, eTup, eLst, eCall, eCallF, eUn, eUnD, eIsi, eSl, oNo, Av.oAt, fLst, fList, iSeq, iVia, tYesM, bnd, lift, Res.bind, Av.ret, frz, small, Nat.ble, Av.plain, le_i, gt_i, ge_i, lt_i, sub_i, add_i, ipAdd_i, ipSub_i, neg_i, is_b, isNot_b, asB_b, asI_i, isi_ii, isi_bi, isi_bb, isi_ib, isi_ti, isi_tt, isi_tl, isi_tn, isi_ts, isi_in, isi_is, isi_it, isi_il, F_stays_up, m_stays_up, q_check_path p h, q_is_up p (by omega)]
theorem t_is_hill (p : List Int) (h : okP p = true) (g : G) : F_is_hill [.val (tupI p)] g = .ok (.bool (hillB p)) g := by
  have hl := okP_len h
  simp [runB, sSeq, sAsg, sRet, sIf, sDrop, sNext, sAug, sRaise, sFor, sApp, sOwn, sPar, sParOV, sParVO, sParOO, sPar3, sFrz, sExt, eBor, eC, eVar, getV, getO, getOw, eBin, eTest, eChain, bAnd, bOr, bNot, eAnd, eOr, eNot, eIf, aNil, aCons, sNil, sCons, sObj, eTup, eLst, eCall, eCallF, eUn, eUnD, eIsi, eSl, oNo, Av.oAt, fLst, fList, iSeq, iVia, tYesM, bnd, lift, Res.bind, Av.ret, frz, small, Nat.ble, Av.plain, le_i, gt_i, ge_i, lt_i, sub_i, add_i, ipAdd_i, ipSub_i, neg_i, is_b, isNot_b, asB_b, asI_i, isi_ii, isi_bi, isi_bb, isi_ib, isi_ti, isi_tt, isi_tl, isi_tn, isi_ts, isi_in, isi_is, isi_it, isi_il, F_is_hill, m_is_hill, q_check_path p h, q_closes p (by omega)]
/-- seen from the other end -/
def mir (p : List Int) : List Int := p.reverse.map fun x => 0 - x
theorem lst_map (f : Int → Int) (l : List Int) : PyData.list (l.map fun x => .int (f x)) = lstI (l.map f) := by unfold lstI; rw [List.map_map]; rfl
theorem t_neg {fi : List Sl → Mo (List PD)} {i : Nat} {Γ : List Sl} {g g1 : G} {ns : List Int} (hi : fi Γ g = .ok (ns.map .int) g1) (hs : ns.length ≤ 100000) (hb : i < Γ.length) : eLc fi (.one i) tYesM (eBin subD (eC (.int 0)) (eVar i)) Γ g = .ok (lstI (ns.map fun x => 0 - x)) g1 := by
  rw [← lst_map]
  refine eLc_ints hi hs fun n _ => ?_
  simp [runB, sSeq, sAsg, sRet, sIf, sDrop, sNext, sAug, sRaise, sFor, sApp, sOwn, sPar, sParOV, sParVO, sParOO, sPar3, sFrz, sExt, eBor, eC, eVar, getV, getO, getOw, eBin, eTest, eChain, bAnd, bOr, bNot, eAnd, eOr, eNot, eIf, aNil, aCons, sNil, sCons, sObj, eTup, eLst, eCall, eCallF, eUn, eUnD, eIsi, eSl, oNo, Av.oAt, fLst, fList, iSeq, iVia, tYesM, bnd, lift, Res.bind, Av.ret, frz, small, Nat.ble, Av.plain, le_i, gt_i, ge_i, lt_i, sub_i, add_i, ipAdd_i, ipSub_i, neg_i, is_b, isNot_b, asB_b, asI_i, isi_ii, isi_bi, isi_bb, isi_ib, isi_ti, isi_tt, isi_tl, isi_tn, isi_ts, isi_in, isi_is, isi_it, isi_il, wipeG, hb]
theorem t_mirrored (p : List Int) (h : okP p = true) (g : G) : F_mirrored [.val (tupI p)] g = .ok (tupI (mir p)) g := by
  have hl := okP_len h
  have hc := t_neg (fi := iSeq (eUnD revD (eVar 0))) (i := 1) (Γ := [.val (tupI p), .dead]) (g := g) (g1 := g) (ns := p.reverse) (by simp [runB, sSeq, sAsg, sRet, sIf, sDrop, sNext, sAug, sRaise, sFor, sApp, sOwn, sPar, sParOV, sParVO, sParOO, sPar3, sFrz, sExt, eBor, eC, eVar, getV, getO, getOw, eBin, eTest, eChain, bAnd, bOr, bNot, eAnd, eOr, eNot, eIf, aNil, aCons, sNil, sCons, sObj, eTup, eLst, eCall, eCallF, eUn, eUnD, eIsi, eSl, oNo, Av.oAt, fLst, fList, iSeq, iVia, tYesM, bnd, lift, Res.bind, Av.ret, frz, small, Nat.ble, Av.plain, le_i, gt_i, ge_i, lt_i, sub_i, add_i, ipAdd_i, ipSub_i, neg_i, is_b, isNot_b, asB_b, asI_i, isi_ii, isi_bi, isi_bb, isi_ib, isi_ti, isi_tt, isi_tl, isi_tn, isi_ts, isi_in, isi_is, isi_it, isi_il, revD_tup, items_tup]) (by simp; omega) (by simp)
  simp [runB, sSeq, sAsg, sRet, sIf, sDrop, sNext, sAug, sRaise, sFor, sApp, sOwn, sPar, sParOV, sParVO, sParOO, sPar3, sFrz, sExt, eBor, eC, eVar, getV, getO, getOw, eBin, eTest, eChain, bAnd, bOr, bNot, eAnd, eOr, eNot, eIf, aNil, aCons, sNil, sCons, sObj, eTup, eLst, eCall, eCallF, eUn, eUnD, eIsi, eSl, oNo, Av.oAt, fLst, fList, iSeq, iVia, tYesM, bnd, lift, Res.bind, Av.ret, frz, small, Nat.ble, Av.plain, le_i, gt_i, ge_i, lt_i, sub_i, add_i, ipAdd_i, ipSub_i, neg_i, is_b, isNot_b, asB_b, asI_i, isi_ii, isi_bi, isi_bb, isi_ib, isi_ti, isi_tt, isi_tl, isi_tn, isi_ts, isi_in, isi_is, isi_it, isi_il, F_mirrored, m_mirrored, q_check_path p h, hc, tupleD_lst, mir]
theorem t_same_truth (a b : Bool) (g : G) : F__law_same_truth [.val (.bool a), .val (.bool b)] g = .ok (.bool (decide (a = b))) g := by
  simp [runB, sSeq, sAsg, sRet, sIf, sDrop, sNext, sAug, sRaise, sFor, sApp, sOwn, sPar, sParOV, sParVO, sParOO, sPar3, sFrz, sExt, eBor, eC, eVar, getV, getO, getOw, eBin, eTest, eChain, bAnd, bOr, bNot, eAnd, eOr, eNot, eIf, aNil, aCons, sNil, sCons, sObj, eTup, eLst, eCall, eCallF, eUn, eUnD, eIsi, eSl, oNo, Av.oAt, fLst, fList, iSeq, iVia, tYesM, bnd, lift, Res.bind, Av.ret, frz, small, Nat.ble, Av.plain, le_i, gt_i, ge_i, lt_i, sub_i, add_i, ipAdd_i, ipSub_i, neg_i, is_b, isNot_b, asB_b, asI_i, isi_ii, isi_bi, isi_bb, isi_ib, isi_ti, isi_tt, isi_tl, isi_tn, isi_ts, isi_in, isi_is, isi_it, isi_il, F__law_same_truth, m__law_same_truth, eqD_bool]
/-! ### draws -/
structure Gk (g g' : G) (k : Nat) : Prop where
  ns : g'.ns = g.ns
  ws : g'.ws = g.ws
  n : g'.n ≤ g.n + k
theorem Gk.refl (g : G) : Gk g g 0 := ⟨rfl, rfl, Nat.le_refl _⟩
theorem Gk.trans {g g1 g2 : G} {j k : Nat} (a : Gk g g1 j) (b : Gk g1 g2 k) : Gk g g2 (j + k) := ⟨b.ns.trans a.ns, b.ws.trans a.ws, by have := a.n; have := b.n; omega⟩
theorem Gk.up {g g' : G} {j k : Nat} (a : Gk g g' j) (h : j ≤ k) : Gk g g' k := ⟨a.ns, a.ws, by have := a.n; omega⟩
/-- enough is left for k draws -/
structure Few (g : G) (k : Nat) : Prop where
  l : g.ns.length ≤ 63
  n : g.n + k ≤ 99999
theorem Few.step {g g' : G} {j k : Nat} (f : Few g k) (h : Gk g g' j) (hj : j ≤ k) : Few g' (k - j) := ⟨by rw [h.ns]; exact f.l, by have := h.n; have := f.n; omega⟩
theorem Few.mono {g : G} {j k : Nat} (f : Few g k) (h : j ≤ k) : Few g j := ⟨f.l, by have := f.n; omega⟩
theorem draw (g : G) (many : Int) (f : Few g 1) (hm : 0 < many) : ∃ v g', 0 ≤ v ∧ v < many ∧ Gk g g' 1 ∧ F__law_draw [.obj 1, .obj 0, .val (.int many)] g = .ok (.int v) g' := by
  obtain ⟨v, h0, h1, h⟩ := draw_ok g many (by have := f.n; omega) f.l hm
  exact ⟨v, { g with n := g.n + 1 }, h0, h1, ⟨rfl, rfl, Nat.le_refl _⟩, h⟩
theorem lc_any (Γ : List Sl) (lean : Int) (h0 : Γ[0]? = some (.obj 1)) (h1 : Γ[1]? = some (.obj 0)) (h3 : Γ[3]? = some (.val (.int lean))) : ∀ (ds : List PD) (g : G), Few g ds.length → ∃ (p : List Int) (g' : G), p.all u1 = true ∧ p.length = ds.length ∧ Gk g g' ds.length ∧
    lcL (.one 5) tYesM (eIf (eTest (eBin ltD (eCallF F__law_draw (sObj 0 (sObj 1 (sCons (eC (.int 4)) sNil)))) (eVar 3))) (eC (.int 1)) (eBin subD (eC (.int 0)) (eC (.int 1)))) Γ ds g = .ok (p.map .int) g'
  | [], g, _ => ⟨[], g, rfl, rfl, Gk.refl g, rfl⟩
  | d :: ds, g, f => by
    obtain ⟨v, g1, v0, v1, k1, hd⟩ := draw g 4 (f.mono (by simp)) (by decide)
    obtain ⟨p, g', hp, hl, k2, ih⟩ := lc_any Γ lean h0 h1 h3 ds g1 ((f.step k1 (by simp)).mono (by simp))
    have e0 : (Γ.set 5 (.val d))[0]? = some (.obj 1) := by rw [List.getElem?_set_ne (by decide)]; exact h0
    have e1 : (Γ.set 5 (.val d))[1]? = some (.obj 0) := by rw [List.getElem?_set_ne (by decide)]; exact h1
    have e3 : (Γ.set 5 (.val d))[3]? = some (.val (.int lean)) := by rw [List.getElem?_set_ne (by decide)]; exact h3
    refine ⟨(if v < lean then 1 else -1) :: p, g', ?_, by simp [hl], (k1.trans k2).up (by simp; omega), ?_⟩
    · by_cases h : v < lean <;> simp [h, hp, u1]
    · by_cases h : v < lean
      · simp [runB, sSeq, sAsg, sRet, sIf, sDrop, sNext, sAug, sRaise, sFor, sApp, sOwn, sPar, sParOV, sParVO, sParOO, sPar3, sFrz, sExt, eBor, eC, eVar, getV, getO, getOw, eBin, eTest, eChain, bAnd, bOr, bNot, eAnd, eOr, eNot, eIf, aNil, aCons, sNil, sCons, sObj, eTup, eLst, eCall, eCallF, eUn, eUnD, eIsi, eSl, oNo, Av.oAt, fLst, fList, iSeq, iVia, tYesM, bnd, lift, Res.bind, Av.ret, frz, small, Nat.ble, Av.plain, le_i, gt_i, ge_i, lt_i, sub_i, add_i, ipAdd_i, ipSub_i, neg_i, is_b, isNot_b, asB_b, asI_i, isi_ii, isi_bi, isi_bb, isi_ib, isi_ti, isi_tt, isi_tl, isi_tn, isi_ts, isi_in, isi_is, isi_it, isi_il, lcL, Tg.set, nx, e0, e1, e3, hd, h, ih]
      · simp [runB, sSeq, sAsg, sRet, sIf, sDrop, sNext, sAug, sRaise, sFor, sApp, sOwn, sPar, sParOV, sParVO, sParOO, sPar3, sFrz, sExt, eBor, eC, eVar, getV, getO, getOw, eBin, eTest, eChain, bAnd, bOr, bNot, eAnd, eOr, eNot, eIf, aNil, aCons, sNil, sCons, sObj, eTup, eLst, eCall, eCallF, eUn, eUnD, eIsi, eSl, oNo, Av.oAt, fLst, fList, iSeq, iVia, tYesM, bnd, lift, Res.bind, Av.ret, frz, small, Nat.ble, Av.plain, le_i, gt_i, ge_i, lt_i, sub_i, add_i, ipAdd_i, ipSub_i, neg_i, is_b, isNot_b, asB_b, asI_i, isi_ii, isi_bi, isi_bb, isi_ib, isi_ti, isi_tt, isi_tl, isi_tn, isi_ts, isi_in, isi_is, isi_it, isi_il, lcL, Tg.set, nx, e0, e1, e3, hd, h, ih]
theorem t_any_path (most : Int) (h0 : 0 ≤ most) (h12 : most ≤ 12) (g : G) (f : Few g 14) : ∃ (p : List Int) (g' : G), okP p = true ∧ (p.length : Int) ≤ most ∧ Gk g g' 14 ∧ F__law_any_path [.obj 1, .obj 0, .val (.int most)] g = .ok (tupI p) g' := by
  obtain ⟨v, g1, v0, v1, k1, hd1⟩ := draw g 3 (f.mono (by decide)) (by decide)
  obtain ⟨w, g2, w0, w1, k2, hd2⟩ := draw g1 (most + 1) ((f.step k1 (by decide)).mono (by decide)) (by omega)
  have f2 : Few g2 12 := ((f.step k1 (by decide)).step k2 (by decide))
  have hw : (rangeL 0 w.toNat).length = w.toNat := rangeL_len _ _
  obtain ⟨p, g', hp, hl, k3, hc⟩ := lc_any [.obj 1, .obj 0, .val (.int most), .val (.int (1 + v)), .val (.int w), .dead] (1 + v) rfl rfl rfl (rangeL 0 w.toNat) g2 (f2.mono (by rw [hw]; omega))
  rw [hw] at hl k3
  refine ⟨p, g', ?_, by omega, ((k1.trans k2).trans k3).up (by omega), ?_⟩
  · unfold okP
    rw [hp, decide_eq_true (by omega)]; rfl
  · have hr : rOk w = true := by simp [rOk]; omega
    have hs : w.toNat ≤ 100000 := by omega
    simp [runB, sSeq, sAsg, sRet, sIf, sDrop, sNext, sAug, sRaise, sFor, sApp, sOwn, sPar, sParOV, sParVO, sParOO, sPar3, sFrz, sExt, eBor, eC, eVar, getV, getO, getOw, eBin, eTest, eChain, bAnd, bOr, bNot, eAnd, eOr, eNot, eIf, aNil, aCons, sNil, sCons, sObj, eTup, eLst, eCall, eCallF, eUn, eUnD, eIsi, eSl, oNo, Av.oAt, fLst, fList, iSeq, iVia, tYesM, bnd, lift, Res.bind, Av.ret, frz, small, Nat.ble, Av.plain, le_i, gt_i, ge_i, lt_i, sub_i, add_i, ipAdd_i, ipSub_i, neg_i, is_b, isNot_b, asB_b, asI_i, isi_ii, isi_bi, isi_bb, isi_ib, isi_ti, isi_tt, isi_tl, isi_tn, isi_ts, isi_in, isi_is, isi_it, isi_il, F__law_any_path, m__law_any_path, hd1, hd2, rng1, hr, eLc, hw, hs, wipeG, Tg.slots, hc, tupleD, tupI]
theorem mulE_i (i j : Int) (h : -1000000 ≤ i) (h' : i ≤ 1000000) : mulE (.int i) (.int j) = some (.int (i * j)) := by
  show (if mulB i j = true then some (PyData.int (i * j)) else none) = _
  rw [if_pos]
  unfold mulB
  rw [decide_eq_true (show -18446744073709551616 < i by omega), decide_eq_true (show i < 18446744073709551616 by omega)]
  rfl
theorem ix_last (l : List PD) (x : PD) : ixD (.list (l ++ [x])) (.int (-1)) = some x := atI_last l x
def hillBody : List Sl → Mo Fl := (sSeq (sAsg 6 (eBin subD (eBin mulE (eC (.int 2)) (eVar 2)) (eVar 5)))
    (sSeq (sIf (bOr (eTest (eBin eqD (eVar 4) (eC (.int 0)))) (bAnd (eTest (eBin ltD (eVar 4) (eVar 6))) (eTest (eBin eqD (eCallF F__law_draw (sObj 0 (sObj 1 (sCons (eC (.int 2)) sNil)))) (eC (.int 0)))))) (sApp 3 (eC (.int 1))) (sApp 3 (eBin subD (eC (.int 0)) (eC (.int 1)))))
    (sAug 4 ipAdd (eBor 3 (eBin ixD (eVar 3) (eUn negD (eC (.int 1))))))))
theorem hill_step (n lo h : Int) (l : List PD) (hl : l.length ≤ 100000) (y z : Sl) (g : G) (f : Few g 1) (h0 : 0 ≤ h) (hle : h ≤ 2 * n - lo) (hp : h % 2 = (2 * n - lo) % 2) (hlo : lo < 2 * n) : ∃ (s : Int) (z' : Sl) (g' : G), u1 s = true ∧ 0 ≤ h + s ∧ h + s ≤ 2 * n - lo - 1 ∧ Gk g g' 1 ∧
    hillBody [.obj 1, .obj 0, .val (.int n), .own l, .val (.int h), .val (.int lo), z] g = .ok (.next [.obj 1, .obj 0, .val (.int n), .own (l ++ [.int s]), .val (.int (h + s)), .val (.int lo), z']) g' := by
  by_cases e : h = 0
  · subst e
    refine ⟨1, .val (.int (2 * n - lo)), g, rfl, by omega, by omega, (Gk.refl g).up (by omega), ?_⟩
    simp [runB, sSeq, sAsg, sRet, sIf, sDrop, sNext, sAug, sRaise, sFor, sApp, sOwn, sPar, sParOV, sParVO, sParOO, sPar3, sFrz, sExt, eBor, eC, eVar, getV, getO, getOw, eBin, eTest, eChain, bAnd, bOr, bNot, eAnd, eOr, eNot, eIf, aNil, aCons, sNil, sCons, sObj, eTup, eLst, eCall, eCallF, eUn, eUnD, eIsi, eSl, oNo, Av.oAt, fLst, fList, iSeq, iVia, tYesM, bnd, lift, Res.bind, Av.ret, frz, small, Nat.ble, Av.plain, le_i, gt_i, ge_i, lt_i, sub_i, add_i, ipAdd_i, ipSub_i, neg_i, is_b, isNot_b, asB_b, asI_i, isi_ii, isi_bi, isi_bb, isi_ib, isi_ti, isi_tt, isi_tl, isi_tn, isi_ts, isi_in, isi_is, isi_it, isi_il, hillBody, mulE_i, eqD_int, hl, ix_last]
  · by_cases e2 : h < 2 * n - lo
    · obtain ⟨v, g1, v0, v1, k1, hd⟩ := draw g 2 f (by decide)
      by_cases e3 : v = 0
      · refine ⟨1, .val (.int (2 * n - lo)), g1, rfl, by omega, by omega, k1, ?_⟩
        simp [runB, sSeq, sAsg, sRet, sIf, sDrop, sNext, sAug, sRaise, sFor, sApp, sOwn, sPar, sParOV, sParVO, sParOO, sPar3, sFrz, sExt, eBor, eC, eVar, getV, getO, getOw, eBin, eTest, eChain, bAnd, bOr, bNot, eAnd, eOr, eNot, eIf, aNil, aCons, sNil, sCons, sObj, eTup, eLst, eCall, eCallF, eUn, eUnD, eIsi, eSl, oNo, Av.oAt, fLst, fList, iSeq, iVia, tYesM, bnd, lift, Res.bind, Av.ret, frz, small, Nat.ble, Av.plain, le_i, gt_i, ge_i, lt_i, sub_i, add_i, ipAdd_i, ipSub_i, neg_i, is_b, isNot_b, asB_b, asI_i, isi_ii, isi_bi, isi_bb, isi_ib, isi_ti, isi_tt, isi_tl, isi_tn, isi_ts, isi_in, isi_is, isi_it, isi_il, hillBody, mulE_i, eqD_int, hl, ix_last, e, e2, hd, e3]
      · refine ⟨-1, .val (.int (2 * n - lo)), g1, rfl, by omega, by omega, k1, ?_⟩
        simp [runB, sSeq, sAsg, sRet, sIf, sDrop, sNext, sAug, sRaise, sFor, sApp, sOwn, sPar, sParOV, sParVO, sParOO, sPar3, sFrz, sExt, eBor, eC, eVar, getV, getO, getOw, eBin, eTest, eChain, bAnd, bOr, bNot, eAnd, eOr, eNot, eIf, aNil, aCons, sNil, sCons, sObj, eTup, eLst, eCall, eCallF, eUn, eUnD, eIsi, eSl, oNo, Av.oAt, fLst, fList, iSeq, iVia, tYesM, bnd, lift, Res.bind, Av.ret, frz, small, Nat.ble, Av.plain, le_i, gt_i, ge_i, lt_i, sub_i, add_i, ipAdd_i, ipSub_i, neg_i, is_b, isNot_b, asB_b, asI_i, isi_ii, isi_bi, isi_bb, isi_ib, isi_ti, isi_tt, isi_tl, isi_tn, isi_ts, isi_in, isi_is, isi_it, isi_il, hillBody, mulE_i, eqD_int, hl, ix_last, e, e2, hd, e3]
    · refine ⟨-1, .val (.int (2 * n - lo)), g, rfl, by omega, by omega, (Gk.refl g).up (by omega), ?_⟩
      simp [runB, sSeq, sAsg, sRet, sIf, sDrop, sNext, sAug, sRaise, sFor, sApp, sOwn, sPar, sParOV, sParVO, sParOO, sPar3, sFrz, sExt, eBor, eC, eVar, getV, getO, getOw, eBin, eTest, eChain, bAnd, bOr, bNot, eAnd, eOr, eNot, eIf, aNil, aCons, sNil, sCons, sObj, eTup, eLst, eCall, eCallF, eUn, eUnD, eIsi, eSl, oNo, Av.oAt, fLst, fList, iSeq, iVia, tYesM, bnd, lift, Res.bind, Av.ret, frz, small, Nat.ble, Av.plain, le_i, gt_i, ge_i, lt_i, sub_i, add_i, ipAdd_i, ipSub_i, neg_i, is_b, isNot_b, asB_b, asI_i, isi_ii, isi_bi, isi_bb, isi_ib, isi_ti, isi_tt, isi_tl, isi_tn, isi_ts, isi_in, isi_is, isi_it, isi_il, hillBody, mulE_i, eqD_int, hl, ix_last, e, e2]
theorem hill_loop (n : Int) : ∀ (m : Nat) (h : Int) (l : List PD) (y z : Sl) (g : G), l.length + m ≤ 1000 → Few g m → 0 ≤ h → h ≤ m → h % 2 = (m : Int) % 2 → ∃ (q : List Int) (a b c : Sl) (g' : G), q.all u1 = true ∧ q.length = m ∧ up h q = true ∧ h + q.sum = 0 ∧ Gk g g' m ∧
    forL (.one 5) hillBody (rangeL (2 * n - m) m) [.obj 1, .obj 0, .val (.int n), .own l, .val (.int h), y, z] g = .ok (.next [.obj 1, .obj 0, .val (.int n), .own (l ++ q.map .int), a, b, c]) g'
  | 0, h, l, y, z, g, _, f, h0, h1, _ => by
    have : h = 0 := by omega
    subst this
    exact ⟨[], .val (.int 0), y, z, g, rfl, rfl, rfl, rfl, Gk.refl g, by simp [rangeL, forL, Av.ret]⟩
  | m + 1, h, l, y, z, g, hl, f, h0, h1, hp => by
    obtain ⟨s, z', g1, hs, s0, s1, k1, hb⟩ := hill_step n (2 * n - (m + 1 : Nat)) h l (by omega) y z g (f.mono (by omega)) h0 (by omega) (by omega) (by omega)
    have hs2 : s = 1 ∨ s = -1 := by unfold u1 at hs; simpa using hs
    obtain ⟨q, a, b, c, g', hq, hql, hup, hsum, k2, ih⟩ := hill_loop n m (h + s) (l ++ [.int s]) (.val (.int (2 * n - (m + 1 : Nat)))) z' g1 (by simp; omega) ((f.step k1 (by omega)).mono (by omega)) s0 (by omega) (by rcases hs2 with rfl | rfl <;> omega)
    refine ⟨s :: q, a, b, c, g', by simp [hs, hq], by simp [hql], ?_, by rw [List.sum_cons]; omega, (k1.trans k2).up (by omega), ?_⟩
    · show (decide (0 ≤ h) && up (h + s) q) = true
      rw [hup, decide_eq_true h0]; rfl
    · have e : (2 * n - ((m + 1 : Nat) : Int)) + 1 = 2 * n - (m : Nat) := by omega
      show bnd (lift (some _)) _ g = _
      simp only [bnd, lift, Res.bind]
      have hb' : hillBody (List.set [Sl.obj 1, Sl.obj 0, Sl.val (PyData.int n), Sl.own l, Sl.val (PyData.int h), y, z] 5 (Sl.val (PyData.int (2 * n - ((m + 1 : Nat) : Int))))) g = _ := hb
      rw [hb']
      show forL (.one 5) hillBody (rangeL (2 * n - ((m + 1 : Nat) : Int) + 1) m) _ g1 = _
      rw [e, ih]
      simp
theorem t_some_hill (n : Nat) (hn : n ≤ 6) (g : G) (f : Few g 12) : ∃ (p : List Int) (g' : G), okP p = true ∧ p.length = 2 * n ∧ hillB p = true ∧ Gk g g' 12 ∧ F__law_some_hill [.obj 1, .obj 0, .val (.int (n : Nat))] g = .ok (tupI p) g' := by
  obtain ⟨q, a, b, c, g', hq, hql, hup, hsum, k2, ih⟩ := hill_loop (n : Int) (2 * n) 0 [] .dead .dead g (by simp; omega) (f.mono (by omega)) (by omega) (by omega) (by omega)
  refine ⟨q, g', ?_, hql, ?_, k2.up (by omega), ?_⟩
  · unfold okP; rw [hq, decide_eq_true (by omega)]; rfl
  · unfold hillB; rw [hup, decide_eq_true (by omega)]; rfl
  · have hr : rOk (2 * (n : Int)) = true := by simp [rOk]; omega
    have e1 : (2 * (n : Int) - ((2 * n : Nat) : Int)) = 0 := by omega
    have e2 : (2 * (n : Int)).toNat = 2 * n := by omega
    rw [e1] at ih
    rw [List.nil_append] at ih
    unfold hillBody at ih
    simp [runB, sSeq, sAsg, sRet, sIf, sDrop, sNext, sAug, sRaise, sFor, sApp, sOwn, sPar, sParOV, sParVO, sParOO, sPar3, sFrz, sExt, eBor, eC, eVar, getV, getO, getOw, eBin, eTest, eChain, bAnd, bOr, bNot, eAnd, eOr, eNot, eIf, aNil, aCons, sNil, sCons, sObj, eTup, eLst, eCall, eCallF, eUn, eUnD, eIsi, eSl, oNo, Av.oAt, fLst, fList, iSeq, iVia, tYesM, bnd, lift, Res.bind, Av.ret, frz, small, Nat.ble, Av.plain, le_i, gt_i, ge_i, lt_i, sub_i, add_i, ipAdd_i, ipSub_i, neg_i, is_b, isNot_b, asB_b, asI_i, isi_ii, isi_bi, isi_bb, isi_ib, isi_ti, isi_tt, isi_tl, isi_tn, isi_ts, isi_in, isi_is, isi_it, isi_il, F__law_some_hill, m__law_some_hill, mulE_i, rng1, hr, e2, ih, tupleD, tupI]
/-! ### what is no path -/
def nod : PD → Bool
  | .dict _ => false
  | _ => true
def chk : PD → Bool
  | .int n => u1 n
  | _ => false
theorem t_unitD (d : PD) (hd : nod d = true) (g : G) (x : Sl) : eAnd (eCallF F_is_integer (sCons (eVar 1) (sCons (eUn negD (eC (.int 1))) (sCons (eC (.int 1)) sNil)))) (eBin neD (eVar 1) (eC (.int 0))) [x, .val d] g = .ok (.bool (chk d)) g := by
  cases d with
  | int n => exact t_unit n g x
  | dict _ => cases hd
  | none => rfl
  | bool _ => rfl
  | str _ => rfl
  | list _ => rfl
  | tuple _ => rfl
theorem t_is_pathD (ds : List PD) (hd : ds.all nod = true) (g : G) : F_is_path [.val (.tuple ds)] g = .ok (.bool (decide (ds.length ≤ 12) && ds.all chk)) g := by
  by_cases hl : ds.length ≤ 12
  · have hc : eLc (iSeq (eVar 0)) (.one 1) tYesM (eAnd (eCallF F_is_integer (sCons (eVar 1) (sCons (eUn negD (eC (.int 1))) (sCons (eC (.int 1)) sNil)))) (eBin neD (eVar 1) (eC (.int 0)))) [.val (.tuple ds), .dead] g = .ok (.list ((ds.map chk).map .bool)) g := by
      rw [List.map_map]
      exact eLc_map rfl (by omega) fun d hm => ⟨_, rfl, t_unitD d (List.all_eq_true.mp hd d hm) g _⟩
    have hl' : ¬ (12 : Int) < ds.length := by omega
    simp [runB, sSeq, sAsg, sRet, sIf, sDrop, sNext, sAug, sRaise, sFor, sApp, sOwn, sPar, sParOV, sParVO, sParOO, sPar3, sFrz, sExt, eBor, eC, eVar, getV, getO, getOw, eBin, eTest, eChain, bAnd, bOr, bNot, eAnd, eOr, eNot, eIf, aNil, aCons, sNil, sCons, sObj, eTup, eLst, eCall, eCallF, eUn, eUnD, eIsi, eSl, oNo, Av.oAt, fLst, fList, iSeq, iVia, tYesM, bnd, lift, Res.bind, Av.ret, frz, small, Nat.ble, Av.plain, le_i, gt_i, ge_i, lt_i, sub_i, add_i, ipAdd_i, ipSub_i, neg_i, is_b, isNot_b, asB_b, asI_i, isi_ii, isi_bi, isi_bb, isi_ib, isi_ti, isi_tt, isi_tl, isi_tn, isi_ts, isi_in, isi_is, isi_it, isi_il, F_is_path, m_is_path, lenD, hl', hc, allD, boolsOf_map, boolsOf_mapf, hl]
  · have hl' : (12 : Int) < ds.length := by omega
    simp [runB, sSeq, sAsg, sRet, sIf, sDrop, sNext, sAug, sRaise, sFor, sApp, sOwn, sPar, sParOV, sParVO, sParOO, sPar3, sFrz, sExt, eBor, eC, eVar, getV, getO, getOw, eBin, eTest, eChain, bAnd, bOr, bNot, eAnd, eOr, eNot, eIf, aNil, aCons, sNil, sCons, sObj, eTup, eLst, eCall, eCallF, eUn, eUnD, eIsi, eSl, oNo, Av.oAt, fLst, fList, iSeq, iVia, tYesM, bnd, lift, Res.bind, Av.ret, frz, small, Nat.ble, Av.plain, le_i, gt_i, ge_i, lt_i, sub_i, add_i, ipAdd_i, ipSub_i, neg_i, is_b, isNot_b, asB_b, asI_i, isi_ii, isi_bi, isi_bb, isi_ib, isi_ti, isi_tt, isi_tl, isi_tn, isi_ts, isi_in, isi_is, isi_it, isi_il, F_is_path, m_is_path, lenD, hl', hl]
theorem t_no_path (d : PD) (h : isiD .tuple d = some false) (g : G) : F_is_path [.val d] g = .ok (.bool false) g := by
  simp [runB, sSeq, sAsg, sRet, sIf, sDrop, sNext, sAug, sRaise, sFor, sApp, sOwn, sPar, sParOV, sParVO, sParOO, sPar3, sFrz, sExt, eBor, eC, eVar, getV, getO, getOw, eBin, eTest, eChain, bAnd, bOr, bNot, eAnd, eOr, eNot, eIf, aNil, aCons, sNil, sCons, sObj, eTup, eLst, eCall, eCallF, eUn, eUnD, eIsi, eSl, oNo, Av.oAt, fLst, fList, iSeq, iVia, tYesM, bnd, lift, Res.bind, Av.ret, frz, small, Nat.ble, Av.plain, le_i, gt_i, ge_i, lt_i, sub_i, add_i, ipAdd_i, ipSub_i, neg_i, is_b, isNot_b, asB_b, asI_i, isi_ii, isi_bi, isi_bb, isi_ib, isi_ti, isi_tt, isi_tl, isi_tn, isi_ts, isi_in, isi_is, isi_it, isi_il, F_is_path, m_is_path, h]
/-! ### slices -/
theorem sIx_lo (n k : Nat) : HT.sIx n 0 (some (k : Int)) = min k n := by
  unfold HT.sIx
  simp
  try omega
theorem sIx_hi (n k : Nat) : HT.sIx n n (some (k : Int)) = min k n := by
  unfold HT.sIx
  simp
  try omega
theorem cut_take (ds : List PD) (k : Nat) : cutL ds none (some (k : Int)) = ds.take k := by
  unfold cutL
  rw [sIx_hi]
  show (ds.drop 0).take (min k ds.length - 0) = _
  rw [List.drop_zero, Nat.sub_zero, List.take_eq_take_iff]
  omega
theorem cut_drop (ds : List PD) (k : Nat) : cutL ds (some (k : Int)) none = ds.drop k := by
  unfold cutL
  rw [sIx_lo]
  show (ds.drop (min k ds.length)).take (ds.length - min k ds.length) = _
  rw [List.take_of_length_le (by rw [List.length_drop]; omega)]
  by_cases h : k ≤ ds.length
  · rw [Nat.min_eq_left h]
  · rw [List.drop_eq_nil_of_le (by omega), List.drop_eq_nil_of_le (by omega)]
theorem cutD_take (p : List Int) (k : Nat) : cutD (tupI p) none (some (k : Int)) = some (tupI (p.take k)) := by
  show some (PyData.tuple (cutL _ _ _)) = _
  rw [cut_take, tupI, List.map_take]
theorem cutD_drop (p : List Int) (k : Nat) : cutD (tupI p) (some (k : Int)) none = some (tupI (p.drop k)) := by
  show some (PyData.tuple (cutL _ _ _)) = _
  rw [cut_drop, tupI, List.map_drop]
theorem cutD_dropL (p : List Int) (k : Nat) : cutD (lstI p) (some (k : Int)) none = some (lstI (p.drop k)) := by
  show some (PyData.list (cutL _ _ _)) = _
  rw [cut_drop, lstI, List.map_drop]
/-! ### heights -/
theorem up_all : ∀ (p : List Int) (a : Int), up a p = (hts a p).all fun x => decide (0 ≤ x)
  | [], a => by simp [up, hts]
  | x :: p, a => by simp [up, hts, up_all p]
theorem hts_add : ∀ (p : List Int) (a b : Int), hts (a + b) p = (hts a p).map fun x => x + b
  | [], a, b => rfl
  | x :: p, a, b => by
    have := hts_add p (a + x) b
    rw [show a + x + b = a + b + x by omega] at this
    simp [hts, this]
theorem hts_snoc : ∀ (p : List Int) (a x : Int), hts a (p ++ [x]) = hts a p ++ [a + p.sum + x]
  | [], a, x => by simp [hts]
  | y :: p, a, x => by
    have := hts_snoc p (a + y) x
    simp [hts, this]
    omega
theorem mir_cons (x : Int) (p : List Int) : mir (x :: p) = mir p ++ [0 - x] := by simp [mir]
theorem mir_sum : ∀ p : List Int, (mir p).sum = 0 - p.sum
  | [] => rfl
  | x :: p => by rw [mir_cons, List.sum_append, mir_sum p]; simp; omega
theorem mir_mir (p : List Int) : mir (mir p) = p := by
  unfold mir
  rw [← List.map_reverse, List.reverse_reverse, List.map_map]
  conv => rhs; rw [← List.map_id p]
  congr 1
  funext x
  show 0 - (0 - x) = x
  omega
theorem mir_len (p : List Int) : (mir p).length = p.length := by simp [mir]
theorem okP_mir {p : List Int} (h : okP p = true) : okP (mir p) = true := by
  unfold okP at h ⊢
  rw [mir_len]
  simp only [Bool.and_eq_true] at h ⊢
  refine ⟨h.1, ?_⟩
  rw [List.all_eq_true] at h ⊢
  intro x hx
  unfold mir at hx
  obtain ⟨y, hy, rfl⟩ := List.mem_map.mp hx
  have := h.2 y (List.mem_reverse.mp hy)
  unfold u1 at this ⊢
  simp at this ⊢
  omega
theorem hts_mir : ∀ p : List Int, hts 0 (mir p) = (hts 0 p).reverse.map fun x => x - p.sum
  | [] => rfl
  | x :: p => by
    have ih := hts_mir p
    have e := hts_add p 0 x
    rw [mir_cons, hts_snoc, ih, mir_sum]
    show _ = (((0 : Int) :: hts (0 + x) p).reverse).map _
    rw [e, List.reverse_cons, List.map_append, ← List.map_reverse, List.map_map]
    congr 1
    · congr 1
      funext y
      show y - p.sum = y + x - (x :: p).sum
      rw [List.sum_cons]
      omega
    · simp [List.sum_cons]
      omega
theorem hill_mir {p : List Int} (h : hillB p = true) : hillB (mir p) = true := by
  unfold hillB at h ⊢
  rw [Bool.and_eq_true, decide_eq_true_eq] at h
  rw [mir_sum, up_all, hts_mir, h.2, Bool.and_eq_true]
  refine ⟨?_, by simp⟩
  have := h.1
  rw [up_all] at this
  rw [List.all_eq_true] at this ⊢
  intro x hx
  obtain ⟨y, hy, rfl⟩ := List.mem_map.mp hx
  have := this y (List.mem_reverse.mp hy)
  simpa using this
theorem ix_hts (p : List Int) : ixD (lstI (hts 0 p)) (.int (-1)) = some (.int p.sum) := by
  have h := hts_last p 0
  obtain ⟨l, hl⟩ := List.getLast?_eq_some_iff.mp h
  unfold lstI
  rw [hl, List.map_append]
  show ixD (.list (_ ++ [PyData.int (0 + p.sum)])) _ = _
  rw [ix_last]
  simp
theorem cat_tup (p : List Int) (ds : List PD) (h : p.length + ds.length ≤ 100000) : addD (tupI p) (.tuple ds) = some (.tuple (p.map .int ++ ds)) := by
  show (if small ((p.map PyData.int).length + ds.length) = true then _ else _) = _
  rw [if_pos (show small _ = true from Nat.ble_eq_true_of_le (by simpa using h))]
theorem cat_tupI (p q : List Int) (h : p.length + q.length ≤ 100000) : addD (tupI p) (tupI q) = some (tupI (p ++ q)) := by
  rw [show tupI q = .tuple (q.map .int) from rfl, cat_tup p _ (by simpa using h)]
  simp [tupI]
theorem nod_ints (p : List Int) : (p.map PyData.int).all nod = true := by
  rw [List.all_eq_true]
  intro d hd
  obtain ⟨n, _, rfl⟩ := List.mem_map.mp hd
  rfl
theorem bad_end (p : List Int) (d : PD) (hd : nod d = true) (hc : chk d = false) (g : G) : F_is_path [.val (.tuple (p.map .int ++ [d]))] g = .ok (.bool false) g := by
  rw [t_is_pathD _ (by rw [List.all_append, nod_ints]; simpa using hd)]
  rw [List.all_append]
  simp [hc]
theorem atI_zero {α : Type} (x : α) (l : List α) : atI (x :: l) 0 = some x := by
  unfold L2.atI L2.ixN
  simp
theorem ix_zero (a : Int) (p : List Int) : ixD (lstI (a :: p)) (.int 0) = some (.int a) := atI_zero (PyData.int a) (p.map PyData.int)
end Lw

/-! pieces that draw nothing leave the state as it is -/
namespace Av
open PySem PySem.Spec L2
open PyProof.Rows hiding St
set_option autoImplicit false
def Res.g? {α : Type} : Res α → Option G
  | .ok _ g => some g
  | .exc _ g => some g
  | .bad => none
def PureM {α : Type} (x : Mo α) : Prop := ∀ g g', (x g).g? = some g' → g' = g
class NoG {α : Type} (f : List Sl → Mo α) : Prop where
  p : ∀ Γ, PureM (f Γ)
section
variable {α β : Type}
theorem pm_ret (a : α) : PureM (ret a) := fun g g' h => (Option.some.inj h).symm
theorem pm_fail : PureM (fail : Mo α) := fun g g' h => nomatch h
theorem pm_lift (o : Option α) : PureM (lift o) := fun g g' h => by
  cases o with
  | none => cases h
  | some a => exact (Option.some.inj h).symm
theorem pm_bnd {x : Mo α} {k : α → Mo β} (hx : PureM x) (hk : ∀ a, PureM (k a)) : PureM (bnd x k) := fun g g' h => by
  unfold bnd at h
  cases e : x g with
  | ok a g1 =>
    rw [e] at h
    have e1 : g1 = g := hx g g1 (by rw [e]; rfl)
    subst e1
    exact hk a _ g' h
  | exc c g1 =>
    rw [e] at h
    have e1 : g1 = g := hx g g1 (by rw [e]; rfl)
    subst e1
    exact (Option.some.inj h).symm
  | bad => rw [e] at h; cases h
theorem pm_ite {b : Bool} {x y : Mo α} (hx : PureM x) (hy : PureM y) : PureM (if b = true then x else y) := by
  cases b with
  | true => exact hx
  | false => exact hy
theorem NoG.ok {f : List Sl → Mo α} [h : NoG f] {Γ : List Sl} {g g' : G} {a : α} (e : f Γ g = .ok a g') : g' = g := h.p Γ g g' (by rw [e]; rfl)
end
section
variable {α : Type} {f fa fb fc fi fe : List Sl → Mo PD} {l l2 : List Sl → Mo (List PD)} {a : List Sl → Mo (List Sl)} {t t2 : List Sl → Mo Bool} {s s2 : List Sl → Mo Fl} {o o2 : List Sl → Mo (Option Int)}
instance {d : PD} : NoG (eC d) := ⟨fun Γ => pm_ret _⟩
instance {i : Nat} : NoG (eVar i) := ⟨fun Γ => pm_lift _⟩
instance {h : PD → PD → Option PD} [x : NoG fa] [y : NoG fb] : NoG (eBin h fa fb) := ⟨fun Γ => pm_bnd (x.p Γ) fun _ => pm_bnd (y.p Γ) fun _ => pm_lift _⟩
instance [x : NoG f] : NoG (eTest f) := ⟨fun Γ => pm_bnd (x.p Γ) fun _ => pm_lift _⟩
instance {h h' : PD → PD → Option PD} [x : NoG fa] [y : NoG fb] [z : NoG fc] : NoG (eChain h h' fa fb fc) := ⟨fun Γ => pm_bnd (x.p Γ) fun _ => pm_bnd (y.p Γ) fun _ => pm_bnd (pm_lift _) fun _ => pm_ite (pm_bnd (z.p Γ) fun _ => pm_lift _) (pm_ret _)⟩
instance [x : NoG t] [y : NoG t2] : NoG (bAnd t t2) := ⟨fun Γ => pm_bnd (x.p Γ) fun _ => pm_ite (y.p Γ) (pm_ret _)⟩
instance [x : NoG t] [y : NoG t2] : NoG (bOr t t2) := ⟨fun Γ => pm_bnd (x.p Γ) fun _ => pm_ite (pm_ret _) (y.p Γ)⟩
instance [x : NoG t] : NoG (bNot t) := ⟨fun Γ => pm_bnd (x.p Γ) fun _ => pm_ret _⟩
instance [x : NoG fa] [y : NoG fb] : NoG (eAnd fa fb) := ⟨fun Γ => pm_bnd (pm_bnd (x.p Γ) fun _ => pm_lift _) fun _ => pm_ite (y.p Γ) (pm_ret _)⟩
instance [x : NoG fa] [y : NoG fb] : NoG (eOr fa fb) := ⟨fun Γ => pm_bnd (pm_bnd (x.p Γ) fun _ => pm_lift _) fun _ => pm_ite (pm_ret _) (y.p Γ)⟩
instance [x : NoG f] : NoG (eNot f) := ⟨fun Γ => pm_bnd (pm_bnd (x.p Γ) fun _ => pm_lift _) fun _ => pm_ret _⟩
instance [x : NoG t] [y : NoG fa] [z : NoG fb] : NoG (eIf t fa fb) := ⟨fun Γ => pm_bnd (x.p Γ) fun _ => pm_ite (y.p Γ) (z.p Γ)⟩
instance : NoG aNil := ⟨fun Γ => pm_ret _⟩
instance [x : NoG f] [y : NoG l] : NoG (aCons f l) := ⟨fun Γ => pm_bnd (x.p Γ) fun _ => pm_bnd (y.p Γ) fun _ => pm_ret _⟩
instance : NoG sNil := ⟨fun Γ => pm_ret _⟩
instance [x : NoG f] [y : NoG a] : NoG (sCons f a) := ⟨fun Γ => pm_bnd (x.p Γ) fun _ => pm_bnd (y.p Γ) fun _ => pm_ret _⟩
instance {i : Nat} [y : NoG a] : NoG (sObj i a) := ⟨fun Γ => pm_bnd (pm_lift _) fun _ => pm_bnd (y.p Γ) fun _ => pm_ret _⟩
instance [x : NoG l] : NoG (eTup l) := ⟨fun Γ => pm_bnd (x.p Γ) fun _ => pm_lift _⟩
instance [x : NoG l] : NoG (eLst l) := ⟨fun Γ => pm_bnd (x.p Γ) fun _ => pm_lift _⟩
instance {h : List PD → Option PD} [x : NoG l] : NoG (eCall h l) := ⟨fun Γ => pm_bnd (x.p Γ) fun _ => pm_lift _⟩
instance {h : PD → Option PD} [x : NoG f] : NoG (eUn h f) := ⟨fun Γ => pm_bnd (x.p Γ) fun _ => pm_lift _⟩
instance {h : PD → Option PD} [x : NoG f] : NoG (eUnD h f) := ⟨fun Γ => pm_bnd (x.p Γ) fun _ => pm_lift _⟩
instance {T : IsiT} [x : NoG f] : NoG (eIsi T f) := ⟨fun Γ => pm_bnd (x.p Γ) fun _ => pm_lift _⟩
instance : NoG oNo := ⟨fun Γ => pm_ret _⟩
instance [x : NoG f] : NoG (Av.oAt f) := ⟨fun Γ => pm_bnd (x.p Γ) fun _ => pm_lift _⟩
instance [x : NoG f] [y : NoG o] [z : NoG o2] : NoG (eSl f o o2) := ⟨fun Γ => pm_bnd (x.p Γ) fun _ => pm_bnd (y.p Γ) fun _ => pm_bnd (z.p Γ) fun _ => pm_lift _⟩
instance {h : PD → PD → Option PD} [x : NoG fa] [y : NoG fb] : NoG (eM2 h fa fb) := ⟨fun Γ => pm_bnd (x.p Γ) fun _ => pm_bnd (pm_lift _) fun _ => pm_bnd (y.p Γ) fun _ => pm_lift _⟩
instance {F : List Sl → Mo PD} [x : NoG F] [y : NoG a] : NoG (eCallF F a) := ⟨fun Γ => pm_bnd (y.p Γ) fun as => x.p as⟩
class NoGL (Fs : List (List Sl → Mo PD)) : Prop where
  p : ∀ F ∈ Fs, NoG F
instance : NoGL [] := ⟨fun _ h => nomatch h⟩
instance {F : List Sl → Mo PD} {Fs : List (List Sl → Mo PD)} [x : NoG F] [y : NoGL Fs] : NoGL (F :: Fs) := ⟨fun G h => by
  rcases List.mem_cons.mp h with rfl | h
  · exact x
  · exact y.p G h⟩
theorem pick_mem {Fs : List (List Sl → Mo PD)} {d : PD} {F : List Sl → Mo PD} (h : pickF Fs d = some F) : F ∈ Fs := by
  cases d with
  | int i =>
    have h : atI Fs i = some F := h
    unfold L2.atI at h
    obtain ⟨j, _, h⟩ := Option.bind_eq_some_iff.mp h
    exact List.mem_of_getElem? h
  | none => cases h
  | bool _ => cases h
  | str _ => cases h
  | list _ => cases h
  | tuple _ => cases h
  | dict _ => cases h
instance {Fs : List (List Sl → Mo PD)} [w : NoGL Fs] [x : NoG f] [y : NoG a] : NoG (eCallAt Fs f a) := ⟨fun Γ => pm_bnd (x.p Γ) fun d => by
  cases e : pickF Fs d with
  | none => exact fun g g' h => nomatch h
  | some F => exact fun g g' h => pm_bnd (y.p Γ) (fun as => (w.p F (pick_mem e)).p as) g g' h⟩
instance {np n : Nat} [x : NoG s] : NoG (runB np n s) := ⟨fun as => pm_ite (pm_bnd (x.p _) fun r => by
  cases r with
  | next Γ' => exact pm_ret _
  | ret d => exact pm_ret _) pm_fail⟩
instance {h : List PD → Option (List PD)} [x : NoG l] : NoG (iVia h l) := ⟨fun Γ => pm_bnd (x.p Γ) fun _ => pm_lift _⟩
instance [x : NoG f] : NoG (iSeq f) := ⟨fun Γ => pm_bnd (x.p Γ) fun _ => pm_lift _⟩
instance : NoG tYesM := ⟨fun Γ => pm_ret _⟩
theorem pm_nx {x : Mo α} (h : PureM x) : PureM (nx x) := fun g g' e => by
  unfold nx at e
  cases q : x g with
  | ok a g1 => rw [q] at e; exact h g g' (by rw [q]; exact e)
  | exc c g1 => rw [q] at e; cases e
  | bad => rw [q] at e; cases e
theorem pm_lcL {T : Tg} {Γ : List Sl} [x : NoG t] [y : NoG f] : ∀ ds : List PD, PureM (lcL T t f Γ ds)
  | [] => pm_ret _
  | d :: ds => pm_bnd (pm_lift _) fun Γ1 => pm_bnd (pm_nx (x.p Γ1)) fun b => pm_ite (pm_bnd (pm_nx (y.p Γ1)) fun _ => pm_bnd (pm_lcL ds) fun _ => pm_ret _) (pm_lcL ds)
instance {T : Tg} [z : NoG l] [x : NoG t] [y : NoG f] : NoG (eLc l T t f) := ⟨fun Γ => pm_bnd (z.p Γ) fun ds => pm_bnd (pm_lift _) fun _ => pm_bnd (pm_lcL ds) fun _ => pm_ret _⟩
instance : NoG sNext := ⟨fun Γ => pm_ret _⟩
theorem pm_seq {k : List Sl → Mo Fl} (h : ∀ Γ, PureM (k Γ)) (r : Fl) : PureM (match r with
  | .next Γ' => k Γ'
  | .ret d => ret (.ret d)) := by
  cases r with
  | next Γ' => exact h Γ'
  | ret d => exact pm_ret _
instance [x : NoG s] [y : NoG s2] : NoG (sSeq s s2) := ⟨fun Γ => pm_bnd (x.p Γ) fun r => pm_seq y.p r⟩
instance [x : NoG f] : NoG (sRet f) := ⟨fun Γ => pm_bnd (x.p Γ) fun _ => pm_ret _⟩
instance [x : NoG f] : NoG (sDrop f) := ⟨fun Γ => pm_bnd (x.p Γ) fun _ => pm_ret _⟩
instance [x : NoG t] [y : NoG s] [z : NoG s2] : NoG (sIf t s s2) := ⟨fun Γ => pm_bnd (x.p Γ) fun _ => pm_ite (y.p Γ) (z.p Γ)⟩
instance {i : Nat} [x : NoG f] : NoG (sAsg i f) := ⟨fun Γ => pm_bnd (x.p Γ) fun _ => pm_ret _⟩
instance {i : Nat} {h : PD → PD → Option PD} [x : NoG f] : NoG (sAug i h f) := ⟨fun Γ => pm_bnd (pm_lift _) fun _ => pm_bnd (x.p Γ) fun _ => pm_bnd (pm_lift _) fun _ => pm_ret _⟩
instance {i : Nat} : NoG (sRaise i) := ⟨fun Γ g g' h => (Option.some.inj h).symm⟩
theorem pm_forL {T : Tg} [x : NoG s] : ∀ (ds : List PD) (Γ : List Sl), PureM (forL T s ds Γ)
  | [], Γ => pm_ret _
  | d :: ds, Γ => pm_bnd (pm_lift _) fun Γ1 => pm_bnd (x.p Γ1) fun r => by
    cases r with
    | next Γ2 => exact pm_forL ds Γ2
    | ret d => exact pm_ret _
instance {T : Tg} [z : NoG l] [x : NoG s] : NoG (sFor l T s) := ⟨fun Γ => pm_bnd (z.p Γ) fun ds => pm_forL ds Γ⟩
theorem pm_while [x : NoG t] [y : NoG s] : ∀ (n : Nat) (Γ : List Sl), PureM (sWhile t s n Γ)
  | 0, Γ => pm_fail
  | n + 1, Γ => pm_bnd (x.p Γ) fun b => pm_ite (pm_bnd (y.p Γ) fun r => by
    cases r with
    | next Γ2 => exact pm_while n Γ2
    | ret d => exact pm_ret _) (pm_ret _)
instance {n : Nat} [x : NoG t] [y : NoG s] : NoG (sWhile t s n) := ⟨pm_while n⟩
instance {i : Nat} {f : List Sl → Mo α} [x : NoG f] : NoG (sFrz i f) := ⟨fun Γ => x.p _⟩
instance {i : Nat} [x : NoG f] : NoG (eBor i f) := ⟨fun Γ => pm_bnd (x.p _) fun _ => pm_lift _⟩
instance [x : NoG l] : NoG (fLst l) := ⟨fun Γ => pm_bnd (x.p Γ) fun _ => pm_lift _⟩
instance [x : NoG f] : NoG (fList f) := ⟨fun Γ => pm_bnd (x.p Γ) fun _ => pm_lift _⟩
instance {i : Nat} [x : NoG l] : NoG (sOwn i l) := ⟨fun Γ => pm_bnd (x.p Γ) fun _ => pm_ret _⟩
instance {i : Nat} [x : NoG f] : NoG (sApp i f) := ⟨fun Γ => pm_bnd (pm_lift _) fun _ => pm_bnd (x.p Γ) fun _ => pm_lift _⟩
instance {i j : Nat} : NoG (sPop j i) := ⟨fun Γ => pm_bnd (pm_lift _) fun _ => pm_lift _⟩
instance {m i j : Nat} : NoG (sAppPop m i j) := ⟨fun Γ => pm_bnd (pm_lift _) fun _ => pm_bnd (pm_lift _) fun _ => pm_bnd (pm_lift _) fun _ => pm_lift _⟩
instance {i : Nat} [x : NoG fi] [y : NoG fe] : NoG (sSetIx i fi fe) := ⟨fun Γ => pm_bnd (pm_lift _) fun _ => pm_bnd (y.p Γ) fun _ => pm_bnd (x.p Γ) fun _ => pm_lift _⟩
instance {i : Nat} [x : NoG l] : NoG (sExt i l) := ⟨fun Γ => pm_bnd (pm_lift _) fun _ => pm_bnd (x.p Γ) fun _ => pm_lift _⟩
instance {i j : Nat} [x : NoG l] : NoG (sPar i j l) := ⟨fun Γ => pm_bnd (x.p Γ) fun _ => pm_lift _⟩
instance {i j : Nat} [x : NoG l] [y : NoG f] : NoG (sParOV i j l f) := ⟨fun Γ => pm_bnd (x.p Γ) fun _ => pm_bnd (y.p Γ) fun _ => pm_ret _⟩
instance {i j : Nat} [x : NoG l] [y : NoG f] : NoG (sParVO i j f l) := ⟨fun Γ => pm_bnd (y.p Γ) fun _ => pm_bnd (x.p Γ) fun _ => pm_ret _⟩
instance {i j : Nat} [x : NoG l] [y : NoG l2] : NoG (sParOO i j l l2) := ⟨fun Γ => pm_bnd (x.p Γ) fun _ => pm_bnd (y.p Γ) fun _ => pm_ret _⟩
instance {i j k : Nat} [x : NoG l] : NoG (sPar3 i j k l) := ⟨fun Γ => pm_bnd (x.p Γ) fun _ => pm_lift _⟩
instance {i j k : Nat} [x : NoG f] : NoG (sUn3 i j k f) := ⟨fun Γ => pm_bnd (x.p Γ) fun _ => pm_lift _⟩
instance {i : Nat} [x : NoG f] : NoG (sRem i f) := ⟨fun Γ => pm_bnd (pm_lift _) fun _ => pm_bnd (x.p Γ) fun _ => pm_lift _⟩
instance {js : List Nat} [x : NoG s] : NoG (sTry js s) := ⟨fun Γ g g' h => by
  have q := x.p Γ g
  unfold sTry at h
  cases e : s Γ g with
  | ok a g1 => rw [e] at h; exact q g' (by rw [e]; exact h)
  | exc c g1 =>
    rw [e] at h q
    have e1 := q g1 rfl
    subst e1
    dsimp only at h
    split at h
    · exact (Option.some.inj h).symm
    · first | exact (Option.some.inj h).symm | cases h
  | bad => rw [e] at h; cases h⟩
end
end Av
namespace Av
theorem nog_re {F E : List Sl → Mo PD} (h : ∀ as g, E as g = .bad ∨ F as g = E as g) [x : NoG F] : NoG E := ⟨fun as g g' e => by
  rcases h as g with z | z
  · rw [z] at e; cases e
  · rw [← z] at e; exact x.p as g g' e⟩
end Av

namespace Lw
open PySem PySem.Spec L2 Av
set_option autoImplicit false
instance : NoG m_is_integer := by unfold m_is_integer; infer_instance
instance : NoG F_is_integer := by unfold F_is_integer; infer_instance
instance : NoG E_is_integer := nog_re re_is_integer
instance : NoG m_is_path := by unfold m_is_path; infer_instance
instance : NoG F_is_path := by unfold F_is_path; infer_instance
instance : NoG E_is_path := nog_re re_is_path
instance : NoG m_check_path := by unfold m_check_path; infer_instance
instance : NoG F_check_path := by unfold F_check_path; infer_instance
instance : NoG E_check_path := nog_re re_check_path
instance : NoG m_heights_of := by unfold m_heights_of; infer_instance
instance : NoG F_heights_of := by unfold F_heights_of; infer_instance
instance : NoG E_heights_of := nog_re re_heights_of
instance : NoG m_heights := by unfold m_heights; infer_instance
instance : NoG F_heights := by unfold F_heights; infer_instance
instance : NoG m_is_up := by unfold m_is_up; infer_instance
instance : NoG F_is_up := by unfold F_is_up; infer_instance
instance : NoG E_is_up := nog_re re_is_up
instance : NoG m_stays_up := by unfold m_stays_up; infer_instance
instance : NoG F_stays_up := by unfold F_stays_up; infer_instance
instance : NoG m_closes := by unfold m_closes; infer_instance
instance : NoG F_closes := by unfold F_closes; infer_instance
instance : NoG E_closes := nog_re re_closes
instance : NoG m_is_hill := by unfold m_is_hill; infer_instance
instance : NoG F_is_hill := by unfold F_is_hill; infer_instance
instance : NoG m_mirrored := by unfold m_mirrored; infer_instance
instance : NoG F_mirrored := by unfold F_mirrored; infer_instance
instance : NoG m__law_same_truth := by unfold m__law_same_truth; infer_instance
instance : NoG F__law_same_truth := by unfold F__law_same_truth; infer_instance
instance : NoG m__law_climb := by unfold m__law_climb; infer_instance
instance : NoG F__law_climb := by unfold F__law_climb; infer_instance
instance : NoG E__law_climb := nog_re re__law_climb
instance : NoG m_is_row := by unfold m_is_row; infer_instance
instance : NoG F_is_row := by unfold F_is_row; infer_instance
instance : NoG m_check_row := by unfold m_check_row; infer_instance
instance : NoG F_check_row := by unfold F_check_row; infer_instance
instance : NoG m_turned_by := by unfold m_turned_by; infer_instance
instance : NoG F_turned_by := by unfold F_turned_by; infer_instance
instance : NoG m_turned := by unfold m_turned; infer_instance
instance : NoG F_turned := by unfold F_turned; infer_instance
instance : NoG m_good_starts := by unfold m_good_starts; infer_instance
instance : NoG F_good_starts := by unfold F_good_starts; infer_instance
instance : NoG m__law_turn := by unfold m__law_turn; infer_instance
instance : NoG F__law_turn := by unfold F__law_turn; infer_instance
instance : NoG m_choose := by unfold m_choose; infer_instance
instance : NoG F_choose := by unfold F_choose; infer_instance
instance : NoG E_choose := nog_re re_choose
instance : NoG m_check_steps := by unfold m_check_steps; infer_instance
instance : NoG F_check_steps := by unfold F_check_steps; infer_instance
instance : NoG m_count_paths := by unfold m_count_paths; infer_instance
instance : NoG F_count_paths := by unfold F_count_paths; infer_instance
instance : NoG m_up_count := by unfold m_up_count; infer_instance
instance : NoG F_up_count := by unfold F_up_count; infer_instance
instance : NoG m_count_up := by unfold m_count_up; infer_instance
instance : NoG F_count_up := by unfold F_count_up; infer_instance
instance : NoG m_count_above := by unfold m_count_above; infer_instance
instance : NoG F_count_above := by unfold F_count_above; infer_instance
instance : NoG m_all_up := by unfold m_all_up; infer_instance
instance : NoG F_all_up := by unfold F_all_up; infer_instance
instance : NoG m__law_same_number := by unfold m__law_same_number; infer_instance
instance : NoG F__law_same_number := by unfold F__law_same_number; infer_instance
instance : NoG m__law_every_path := by unfold m__law_every_path; infer_instance
instance : NoG F__law_every_path := by unfold F__law_every_path; infer_instance
instance : NoG m__law_chosen := by unfold m__law_chosen; infer_instance
instance : NoG F__law_chosen := by unfold F__law_chosen; infer_instance
instance : NoG m_endings := by unfold m_endings; infer_instance
instance : NoG F_endings := by unfold F_endings; infer_instance
instance : NoG m_path_at := by unfold m_path_at; infer_instance
instance : NoG F_path_at := by unfold F_path_at; infer_instance
instance : NoG m_rank := by unfold m_rank; infer_instance
instance : NoG F_rank := by unfold F_rank; infer_instance
instance : NoG m_from_rank := by unfold m_from_rank; infer_instance
instance : NoG F_from_rank := by unfold F_from_rank; infer_instance
instance : NoG m_exchanged := by unfold m_exchanged; infer_instance
instance : NoG F_exchanged := by unfold F_exchanged; infer_instance
instance : NoG m_reflected := by unfold m_reflected; infer_instance
instance : NoG F_reflected := by unfold F_reflected; infer_instance
instance : NoG m_unreflected := by unfold m_unreflected; infer_instance
instance : NoG F_unreflected := by unfold F_unreflected; infer_instance
instance : NoG m_check_hill := by unfold m_check_hill; infer_instance
instance : NoG F_check_hill := by unfold F_check_hill; infer_instance
instance : NoG E_check_hill := nog_re re_check_hill
instance : NoG m_pairs := by unfold m_pairs; infer_instance
instance : NoG F_pairs := by unfold F_pairs; infer_instance
theorem nog_branch_count : ∀ n : Nat, NoG (F_branch_count n)
  | 0 => ⟨fun _ => pm_fail⟩
  | n + 1 => by
    have := nog_branch_count n
    unfold F_branch_count m_branch_count
    infer_instance
instance {n : Nat} : NoG (F_branch_count n) := nog_branch_count n
instance : NoG m_is_tree := by unfold m_is_tree; infer_instance
instance : NoG F_is_tree := by unfold F_is_tree; infer_instance
instance : NoG m_tree := by unfold m_tree; infer_instance
instance : NoG F_tree := by unfold F_tree; infer_instance
theorem nog_built : ∀ n : Nat, NoG (F_built n)
  | 0 => ⟨fun _ => pm_fail⟩
  | n + 1 => by
    have := nog_built n
    unfold F_built m_built
    infer_instance
instance {n : Nat} : NoG (F_built n) := nog_built n
instance : NoG m_hill := by unfold m_hill; infer_instance
instance : NoG F_hill := by unfold F_hill; infer_instance
instance : NoG m_peaks := by unfold m_peaks; infer_instance
instance : NoG F_peaks := by unfold F_peaks; infer_instance
instance : NoG m_touches := by unfold m_touches; infer_instance
instance : NoG F_touches := by unfold F_touches; infer_instance
instance : NoG m_check_numbers := by unfold m_check_numbers; infer_instance
instance : NoG F_check_numbers := by unfold F_check_numbers; infer_instance
instance : NoG m_count_peaks := by unfold m_count_peaks; infer_instance
instance : NoG F_count_peaks := by unfold F_count_peaks; infer_instance
instance : NoG m_count_touches := by unfold m_count_touches; infer_instance
instance : NoG F_count_touches := by unfold F_count_touches; infer_instance
instance : NoG m__law_all_hills := by unfold m__law_all_hills; infer_instance
instance : NoG F__law_all_hills := by unfold F__law_all_hills; infer_instance
instance : NoG m_check_hills := by unfold m_check_hills; infer_instance
instance : NoG F_check_hills := by unfold F_check_hills; infer_instance
instance : NoG m_is_below := by unfold m_is_below; infer_instance
instance : NoG F_is_below := by unfold F_is_below; infer_instance
instance : NoG m_steps_of := by unfold m_steps_of; infer_instance
instance : NoG F_steps_of := by unfold F_steps_of; infer_instance
instance : NoG m_upper := by unfold m_upper; infer_instance
instance : NoG F_upper := by unfold F_upper; infer_instance
instance : NoG m_lower := by unfold m_lower; infer_instance
instance : NoG F_lower := by unfold F_lower; infer_instance
instance : NoG m_area := by unfold m_area; infer_instance
instance : NoG F_area := by unfold F_area; infer_instance
instance : NoG m_apart := by unfold m_apart; infer_instance
instance : NoG F_apart := by unfold F_apart; infer_instance
instance : NoG m_distance := by unfold m_distance; infer_instance
instance : NoG F_distance := by unfold F_distance; infer_instance
instance : NoG m_change_list := by unfold m_change_list; infer_instance
instance : NoG F_change_list := by unfold F_change_list; infer_instance
instance : NoG m_changes := by unfold m_changes; infer_instance
instance : NoG F_changes := by unfold F_changes; infer_instance
instance : NoG m_way := by unfold m_way; infer_instance
instance : NoG F_way := by unfold F_way; infer_instance
instance : NoG m_text_of := by unfold m_text_of; infer_instance
instance : NoG F_text_of := by unfold F_text_of; infer_instance
instance : NoG m_format_path := by unfold m_format_path; infer_instance
instance : NoG F_format_path := by unfold F_format_path; infer_instance
instance : NoG m_parse_path := by unfold m_parse_path; infer_instance
instance : NoG F_parse_path := by unfold F_parse_path; infer_instance
end Lw

/-! all paths, all hills, one after another -/
namespace Lw
open PySem PySem.Spec L2 Av
set_option autoImplicit false
theorem and_i {a b : Bool} (h1 : a = true) (h2 : b = true) : (a && b) = true := by rw [h1, h2]; rfl
theorem and_e {a b : Bool} (h : (a && b) = true) : a = true ∧ b = true := by
  cases a <;> cases b <;> cases h
  exact ⟨rfl, rfl⟩
def dn : Int := Int.negSucc 0
def on1 : Int := Int.ofNat 1
def snoc : List Int → Int → List Int
  | [], x => [x]
  | a :: r, x => a :: snoc r x
theorem snoc_eq : ∀ (l : List Int) (x : Int), snoc l x = l ++ [x]
  | [], _ => rfl
  | a :: r, x => by show a :: snoc r x = _; rw [snoc_eq r]; rfl
def allU (f : List Int → Bool) : Nat → List Int → Bool
  | 0, p => f p
  | n + 1, p => allU f n (snoc p (Int.negSucc 0)) && allU f n (snoc p (Int.ofNat 1))
theorem u1_or {x : Int} (h : u1 x = true) : x = 1 ∨ x = -1 := by unfold u1 at h; simpa using h
theorem allU_at {f : List Int → Bool} : ∀ {n : Nat} {p q : List Int}, allU f n p = true → q.all u1 = true → q.length = n → f (p ++ q) = true
  | 0, p, q, h, _, hl => by
    have e : q = [] := List.eq_nil_of_length_eq_zero hl
    subst e
    rw [List.append_nil]
    exact h
  | n + 1, p, [], _, _, hl => by cases hl
  | n + 1, p, x :: q, h, hu, hl => by
    rw [List.all_cons] at hu
    obtain ⟨hx, hq⟩ := and_e hu
    obtain ⟨h1, h2⟩ := and_e (show (allU f n (snoc p (Int.negSucc 0)) && allU f n (snoc p (Int.ofNat 1))) = true from h)
    have hl' : q.length = n := by simpa using hl
    rw [snoc_eq] at h1 h2
    rcases u1_or hx with rfl | rfl
    · have := allU_at h2 hq hl'
      rw [List.append_assoc] at this
      exact this
    · have := allU_at h1 hq hl'
      rw [List.append_assoc] at this
      exact this
theorem allU_paths {f : List Int → Bool} {N : Nat} (h : ∀ n, n ≤ N → allU f n [] = true) {p : List Int} (hp : okP p = true) (hN : p.length ≤ N) : f p = true := by
  have hu : p.all u1 = true := by unfold okP at hp; exact (and_e hp).2
  exact allU_at (h p.length hN) hu rfl
def decH : Nat → (Nat → Bool) → Bool
  | 0, _ => true
  | k + 1, c => c k
/-- hills: the steps that are left, the height -/
def allH (f : List Int → Bool) : Nat → Nat → List Int → Bool
  | 0, _, p => f p
  | n + 1, h, p => decH h (fun k => allH f n k (snoc p (Int.negSucc 0))) && (if Nat.ble (h + 1) n = true then allH f n (h + 1) (snoc p (Int.ofNat 1)) else true)
theorem allU_both {f : List Int → Bool} {n : Nat} {p : List Int} (h1 : allU f n (snoc p (Int.negSucc 0)) = true) (h2 : allU f n (snoc p (Int.ofNat 1)) = true) : allU f (n + 1) p = true := and_i h1 h2
theorem allH_up {f : List Int → Bool} {n : Nat} {p : List Int} (h2 : allH f n 1 (snoc p (Int.ofNat 1)) = true) : allH f (n + 1) 0 p = true := by
  refine and_i rfl ?_
  split
  · exact h2
  · rfl
theorem allH_both {f : List Int → Bool} {n k : Nat} {p : List Int} (h1 : allH f n k (snoc p (Int.negSucc 0)) = true) (h2 : allH f n (k + 2) (snoc p (Int.ofNat 1)) = true) : allH f (n + 1) (k + 1) p = true := by
  refine and_i h1 ?_
  split
  · exact h2
  · rfl
theorem allH_dn {f : List Int → Bool} {n k : Nat} {p : List Int} (h1 : allH f n k (snoc p (Int.negSucc 0)) = true) (h2 : Nat.ble (k + 2) n = false) : allH f (n + 1) (k + 1) p = true := by
  refine and_i h1 ?_
  rw [if_neg (by rw [h2]; exact Bool.false_ne_true)]
theorem sum_low : ∀ {q : List Int}, q.all u1 = true → -(q.length : Int) ≤ q.sum
  | [], _ => by simp
  | x :: q, h => by
    rw [List.all_cons] at h
    obtain ⟨hx, hq⟩ := and_e h
    have := sum_low hq
    rw [List.sum_cons, List.length_cons]
    rcases u1_or hx with rfl | rfl <;> omega
theorem allH_at {f : List Int → Bool} : ∀ {n h : Nat} {p q : List Int}, allH f n h p = true → q.all u1 = true → q.length = n → up (h : Int) q = true → (h : Int) + q.sum = 0 → f (p ++ q) = true
  | 0, h, p, q, e, _, hl, _, _ => by
    have e0 : q = [] := List.eq_nil_of_length_eq_zero hl
    subst e0
    rw [List.append_nil]
    exact e
  | n + 1, h, p, [], _, _, hl, _, _ => by cases hl
  | n + 1, h, p, x :: q, e, hu, hl, hup, hs => by
    rw [List.all_cons] at hu
    obtain ⟨hx, hq⟩ := and_e hu
    have hl' : q.length = n := by simpa using hl
    have hup' : (decide (0 ≤ (h : Int)) && up ((h : Int) + x) q) = true := hup
    obtain ⟨_, hup2⟩ := and_e hup'
    rw [List.sum_cons] at hs
    have lo := sum_low hq
    have e' : (decH h (fun k => allH f n k (snoc p (Int.negSucc 0))) && (if Nat.ble (h + 1) n = true then allH f n (h + 1) (snoc p (Int.ofNat 1)) else true)) = true := e
    obtain ⟨e1, e2⟩ := and_e e'
    rcases u1_or hx with rfl | rfl
    · rw [if_pos (Nat.ble_eq_true_of_le (by omega)), snoc_eq] at e2
      have := allH_at e2 hq hl' (by rw [show ((h + 1 : Nat) : Int) = (h : Int) + 1 by omega]; exact hup2) (by omega)
      rw [List.append_assoc] at this
      exact this
    · cases h with
      | zero =>
        exfalso
        have : up (-1) q = true := hup2
        cases q <;> simp [up] at this
      | succ k =>
        have e1 : allH f n k (snoc p (Int.negSucc 0)) = true := e1
        rw [snoc_eq] at e1
        have := allH_at e1 hq hl' (by rw [show (k : Int) = ((k + 1 : Nat) : Int) + -1 by omega]; exact hup2) (by omega)
        rw [List.append_assoc] at this
        exact this
theorem allH_hills {f : List Int → Bool} {n : Nat} (h : allH f (2 * n) 0 [] = true) {p : List Int} (hp : okP p = true) (hl : p.length = 2 * n) (hh : hillB p = true) : f p = true := by
  have hu : p.all u1 = true := by unfold okP at hp; exact (and_e hp).2
  unfold hillB at hh
  obtain ⟨h1, h2⟩ := and_e hh
  exact allH_at (p := []) h hu hl h1 (by have := of_decide_eq_true h2; omega)
theorem seq_assoc (a b c : List Sl → Mo Fl) : sSeq (sSeq a b) c = sSeq a (sSeq b c) := by
  funext Γ g
  unfold sSeq bnd
  cases h : a Γ g with
  | ok r g' =>
    cases r with
    | next Γ' => rfl
    | ret d => rfl
  | exc c g' => rfl
  | bad => rfl
/-- it went on, with the script and the town where they were -/
def okO (n : Nat) : Res Fl → Bool
  | .ok (.next (.obj 1 :: .obj 0 :: Γ)) _ => Nat.beq Γ.length n
  | _ => false
theorem okO_is {n : Nat} : ∀ {r : Res Fl}, okO n r = true → ∃ Γ g', r = .ok (.next (.obj 1 :: .obj 0 :: Γ)) g' ∧ Γ.length = n
  | .ok (.next (.obj 1 :: .obj 0 :: Γ)) g', h => ⟨Γ, g', rfl, Nat.eq_of_beq_eq_true h⟩
def okR : Res Fl → Bool
  | .ok (.ret (.bool true)) _ => true
  | _ => false
theorem okR_is : ∀ {r : Res Fl}, okR r = true → ∃ g', r = .ok (.ret (.bool true)) g'
  | .ok (.ret (.bool true)) g', _ => ⟨g', rfl⟩
end Lw

namespace Lw
open PySem PySem.Spec L2 Av
set_option autoImplicit false
def hN (h : Nat) : Int → Nat
  | .ofNat _ => Nat.succ h
  | .negSucc _ => Nat.pred h
def htsN : Nat → List Int → List Nat
  | h, [] => [h]
  | h, x :: r => h :: htsN (hN h x) r
def lowAt : Nat → Int → List Int → List (List Int)
  | _ + 1, .ofNat 1, .negSucc 0 :: t => [Int.negSucc 0 :: Int.ofNat 1 :: t]
  | _, _, _ => []
def lows : Nat → List Int → List (List Int)
  | _, [] => []
  | h, x :: r => lowAt h x r ++ (lows (hN h x) r).map (x :: ·)
def eqI : List Int → List Int → Bool
  | [], [] => true
  | x :: r, y :: t => decide (x = y) && eqI r t
  | _, _ => false
def eqDI : List PD → List Int → Bool
  | [], [] => true
  | .int x :: r, y :: t => decide (x = y) && eqDI r t
  | _, _ => false
def eqDL : List PD → List (List Int) → Bool
  | [], [] => true
  | .tuple xs :: r, y :: t => eqDI xs y && eqDL r t
  | _, _ => false
def isL (l : List (List Int)) : Res PD → Bool
  | .ok (.list ds) _ => eqDL ds l
  | _ => false
def okN : Res Fl → Bool
  | .ok (.next _) _ => true
  | _ => false
/-- the hills: steps that are left, the height -/
def dnTo : Nat → (Nat → List (List Int)) → List (List Int)
  | 0, _ => []
  | k + 1, f => f k
def hlR : Nat → Nat → List (List Int)
  | 0, _ => [[]]
  | n + 1, h => (dnTo h fun k => (hlR n k).map (Int.negSucc 0 :: ·)) ++ (if Nat.ble (Nat.succ h) n = true then (hlR n (Nat.succ h)).map (Int.ofNat 1 :: ·) else [])
def HL (n : Nat) : List (List Int) := hlR (2 * n) 0
def low (n : Nat) : List Int := (HL n).headD []
def arN : List Nat → Nat
  | [] => 0
  | a :: r => Nat.add a (arN r)
def hlB (n : Nat) (p : List Int) : Bool := (okP p && hillB p) && Nat.beq p.length (2 * n)

theorem eqI_is : ∀ {x y : List Int}, eqI x y = true → x = y
  | [], [], _ => rfl
  | x :: r, y :: t, h => by
    obtain ⟨h1, h2⟩ := and_e (show (decide (x = y) && eqI r t) = true from h)
    rw [of_decide_eq_true h1, eqI_is h2]
  | [], _ :: _, h => by cases h
  | _ :: _, [], h => by cases h
theorem eqDI_is : ∀ {ds : List PD} {y : List Int}, eqDI ds y = true → ds = y.map .int
  | [], [], _ => rfl
  | [], _ :: _, h => by cases h
  | .int x :: r, y :: t, h => by
    obtain ⟨h1, h2⟩ := and_e (show (decide (x = y) && eqDI r t) = true from h)
    rw [of_decide_eq_true h1, eqDI_is h2]; rfl
  | .int _ :: _, [], h => by cases h
  | .none :: _, l, h => by cases l <;> cases h
  | .bool _ :: _, l, h => by cases l <;> cases h
  | .str _ :: _, l, h => by cases l <;> cases h
  | .list _ :: _, l, h => by cases l <;> cases h
  | .tuple _ :: _, l, h => by cases l <;> cases h
  | .dict _ :: _, l, h => by cases l <;> cases h
theorem eqDL_is : ∀ {ds : List PD} {y : List (List Int)}, eqDL ds y = true → ds = y.map tupI
  | [], [], _ => rfl
  | [], _ :: _, h => by cases h
  | .tuple x :: r, y :: t, h => by
    obtain ⟨h1, h2⟩ := and_e (show (eqDI x y && eqDL r t) = true from h)
    rw [eqDI_is h1, eqDL_is h2]; rfl
  | .tuple _ :: _, [], h => by cases h
  | .none :: _, l, h => by cases l <;> cases h
  | .bool _ :: _, l, h => by cases l <;> cases h
  | .str _ :: _, l, h => by cases l <;> cases h
  | .list _ :: _, l, h => by cases l <;> cases h
  | .int _ :: _, l, h => by cases l <;> cases h
  | .dict _ :: _, l, h => by cases l <;> cases h

def st3 (n : Nat) : List Sl := [.obj 1, .obj 0, .val (.int ((n : Nat) : Int)), .val (.list ((HL n).map tupI)), .dead, .dead, .dead, .dead, .dead, .dead, .dead]
def sh3 (n : Nat) (x : Nat → Sl) : List Sl := [.obj 1, .obj 0, .val (.int ((n : Nat) : Int)), .val (.list ((HL n).map tupI)), x 4, x 5, x 6, x 7, x 8, x 9, x 10]
def sh7 (n : Nat) (x : Nat → Sl) : List Sl := [.obj 1, .obj 0, .val (.int ((n : Nat) : Int)), .val (.list ((HL n).map tupI)), x 4, x 5, x 6, .val (tupI (low n)), x 8, x 9, x 10]
def shW (n : Nat) (p : List Int) (x : Nat → Sl) : List Sl := [.obj 1, .obj 0, .val (.int ((n : Nat) : Int)), x 3, .val (tupI p), x 5, x 6, .val (tupI (low n)), x 8, x 9, x 10]
def is3 (n : Nat) : Res Fl → Bool
  | .ok (.next [.obj 1, .obj 0, .val (.int k), .val (.list ds), _, _, _, _, _, _, _]) _ => decide (k = (n : Nat)) && eqDL ds (HL n)
  | _ => false
theorem is3_is {n : Nat} : ∀ {r : Res Fl}, is3 n r = true → ∃ (x : Nat → Sl) (g' : G), r = .ok (.next (sh3 n x)) g'
  | .ok (.next [.obj 1, .obj 0, .val (.int k), .val (.list ds), x4, x5, x6, x7, x8, x9, x10]) g', h => by
    obtain ⟨h1, h2⟩ := and_e (show (decide (k = (n : Nat)) && eqDL ds (HL n)) = true from h)
    exact ⟨fun i => match i with | 4 => x4 | 5 => x5 | 6 => x6 | 7 => x7 | 8 => x8 | 9 => x9 | 10 => x10 | _ => .dead, g', by rw [of_decide_eq_true h1, eqDL_is h2]; rfl⟩

def is7 (n : Nat) : Res Fl → Bool
  | .ok (.next [.obj 1, .obj 0, .val (.int k), .val (.list ds), _, _, _, .val (.tuple ys), _, _, _]) _ => decide (k = (n : Nat)) && (eqDL ds (HL n) && eqDI ys (low n))
  | _ => false
theorem is7_is {n : Nat} : ∀ {r : Res Fl}, is7 n r = true → ∃ (x : Nat → Sl) (g' : G), r = .ok (.next (sh7 n x)) g'
  | .ok (.next [.obj 1, .obj 0, .val (.int k), .val (.list ds), x4, x5, x6, .val (.tuple ys), x8, x9, x10]) g', h => by
    obtain ⟨h1, h2⟩ := and_e (show (decide (k = (n : Nat)) && (eqDL ds (HL n) && eqDI ys (low n))) = true from h)
    obtain ⟨h2, h3⟩ := and_e h2
    exact ⟨fun i => match i with | 4 => x4 | 5 => x5 | 6 => x6 | 8 => x8 | 9 => x9 | 10 => x10 | _ => .dead, g', by rw [of_decide_eq_true h1, eqDL_is h2, eqDI_is h3]; rfl⟩

def blkB : List Sl → Mo Fl := sSeq q_law_4 (sSeq q_law_5 (q_law_6))
def blkC : List Sl → Mo Fl := sSeq q_law_7 (q_law_8)
def tA : List Sl → Mo Bool := (eTest (eBin neD (eVar 3) (eCallF F__law_all_hills (sCons (eVar 2) sNil))))
def tB : List Sl → Mo Bool := (eTest (eBin neD (eCall lenD (aCons (eVar 3) aNil)) (eCallF F_count_up (sCons (eVar 2) (sCons (eVar 2) sNil)))))
def eT : List Sl → Mo PD := (eLc (iSeq (eVar 3)) (.one 4) tYesM (eCallF F_tree (sCons (eVar 4) sNil)))
def isF : Res Bool → Bool
  | .ok false _ => true
  | _ => false
theorem isF_is : ∀ {r : Res Bool}, isF r = true → ∃ g', r = .ok false g'
  | .ok false g', _ => ⟨g', rfl⟩
  | .ok true _, h => by cases h
  | .exc _ _, h => by cases h
  | .bad, h => by cases h
def hshB (zs : List Int) : Option (List Int) → Bool
  | some ws => eqI ws zs
  | none => false
def isZ (zs : List Int) : Res PD → Bool
  | .ok (.list ds) _ => hshB zs (mapO (hOf 8) ds)
  | _ => false
theorem isZ_is {zs : List Int} : ∀ {r : Res PD}, isZ zs r = true → ∃ ds g', r = .ok (.list ds) g' ∧ mapO (hOf 8) ds = some zs
  | .ok (.list ds) g', h => by
    have h : hshB zs (mapO (hOf 8) ds) = true := h
    cases e : mapO (hOf 8) ds with
    | none => rw [e] at h; cases h
    | some ws =>
      rw [e] at h
      exact ⟨ds, g', rfl, by rw [e, eqI_is h]⟩
  | .ok .none _, h => by cases h
  | .ok (.bool _) _, h => by cases h
  | .ok (.int _) _, h => by cases h
  | .ok (.str _) _, h => by cases h
  | .ok (.tuple _) _, h => by cases h
  | .ok (.dict _) _, h => by cases h
  | .exc _ _, h => by cases h
  | .bad, h => by cases h

def Z0 : List Int := [5740354900026072187]
def Z1 : List Int := [-5486347211504344842]
def Z2 : List Int := [9028247024705308198, 4510597632111149919]
def Z3 : List Int := [-3517168634428989288, 578447794611251343, -1807087918374670097, -8129927606219974177, -2010042300121347165]
def Z4 : List Int := [8203820493126157775, -7568610481538678015, 8492597879184952161, 6384666629989678863, 8106194553103937747, 4664087542628982029, 8189856925240824664, -7649420596463976355, -7426779196126117489, 3796176535257080355, -3674758447004149557, -4255453644681420661, -4036653320055449708, 5897120461648011547]
def Z5 : List Int := [4135970141718370334, -245978736967899080, 3038625137313051569, -6160749029144618623, -40863723045991611, -789885199242918563, 42798649090895306, 2650265201095645903, -4312899744991159240, -4534330685227186349, 7957145165378927275, -1141574193546462412, -7968803157555348284, 4612642529798601668, -3316850775265387180, -3785711687465074826, 5229467384623698525, -4450668313090299432, 1669216993008327580, 1188078663157753444, 6745881630135886534, 1034098451106924292, 6065354386661140753, -7634785264166825299, 8929652948616095801, -4242028772486101362, 1769565515322977812, 992348049850281665, -7603576017643177218, 6322186396611345204, -7633419334760122304, -6527915657073787012, 3272293113811265743, 8135774028599478745, -325184957796747170, -1727271575174305268, 3870509441713909004, 7650451737026937986, 6916173354922913149, 1800693471872377265, 2970775157595387041, -869347361025822534]
def Z6 : List Int := [-2027804347301077785, 84528294608681607, -2301007418377239833, 5560240098410528440, 235738732889930499, -2543839907889301562, -1012816709796637158, 7325225040015936141, -1059243236066393807, 5765355112332435909, -4499184978583299980, 4759754221028791718, 2330882640004273974, 7866299038723367101, -5070805483911770179, -4841327046352607290, -7226862759338528730, 5849017484469322826, -6477841283141601778, 132463304270220980, -1401176646014042824, 5174246673661628679, 2133204549161242177, -4520905813031867050, 6513169870273989145, 5874208080739183550, -2162584322176920764, -2939801787649616911, 2292915454888611185, 3905703318269238548, 3509086289884908746, -7812393588923196891, 6386172564946223992, -4409641630534818741, -8655692178281013874, -3011749507023715147, 6984388892848867253, 6076788485770240122, 5631695423073503270, 4914572923007335514, 6084654608730345290, -2153825292875232413, -3646414498081027604, 6680094068350107581, 1646886449713697444, 2020507147913352694, -3303994217607245247, 3977913688162645183, 1178025537514009798, 3785492089518760395, -3747519902996442744, 7475435828386755100, -8038917929080475726, 6469834937083110909, -357394026925774963, -8870364318931865324, -6435786387380814200, -2863363183951935283, 421240690329015366, -5894643608195237562, -4173115685080978678, -8626266151769696285, -3017343396002764435, -1615458154959455861, 8686792741840686921, -455285545571356331, -5625910463062582134, -7249194089463809738, 2472713925416834500, -6040256366589255861, 7367159176595145813, 479853718522038946, -4231636660467294405, 8911663099658056228, 3285717986006585042, 2293441350510172487, 6690597316488898792, 284311063598970757, 3364094412900547250, -6115711431424070220, 5801550829136035757, 3812276110645653290, 8776993992973814561, 8877988104280847705, -2799649150276266419, 2393368825972317543, 7833112986396103, -6318338841719778892, -4596810918605520008, 3480582342634222108, 2363525508855372457, -5287378050397800012, 689319326636901197, 999831101418899392, -8168872048566147190, 8187223789704774824, 5644039476861531328, 4177098473490297792, -7872866811925364485, -314025201494578110, -6444910600198553046, 3499595945611353143, -533191025837454980, 3431766336458946038, -2824729285786065464, 3754104405995943876, -5445057546654120649, 1014240138921014672, -7600302031901964976, -598518465924646481, 5342521520645652626, -8984358296977235049, 995010717509302858, -799347493067118869, -5442401751542183617, 5773809594761744998, -4002823960293952063, 7024814589908968516, 5121722104527473205, -5132779940573575139, -8005492415624748088, -4748238413347093736, -6599362416047294805, 524124497958944785, 7149174503279570998, -3795692665078447040, 117629005838913739, 527124988929497636, -8763305577815332594, 4902193639059460174, -1862571898043339054, -446549404724807673]
def Z (n : Nat) : List Int := match n with | 0 => Z0 | 1 => Z1 | 2 => Z2 | 3 => Z3 | 4 => Z4 | 5 => Z5 | 6 => Z6 | _ => []
def e9 : List Sl → Mo PD := (eLc (iSeq (eCallF F_changes (sCons (eVar 4) sNil))) (.one 10) (eTest (eBin ltD (eCallF F_area (sCons (eVar 10) sNil)) (eCallF F_area (sCons (eVar 4) sNil)))) (eVar 10))
def ckL (n : Nat) (g : G) (x : Nat → Sl) (p : List Int) : Bool := (isL (lows 0 p) (e9 (shW n p x) g) && Nat.ble (arN (htsN 0 p)) 40) && ((lows 0 p).all (fun q => hlB n q && Nat.blt (arN (htsN 0 q)) (arN (htsN 0 p))) && (eqI p (low n) || !(lows 0 p).isEmpty))
theorem c2_0 (g : G) : isL (HL 0) (F_all_up [.val (.int ((0 : Nat) : Int)), .val (.int ((0 : Nat) : Int))] g) = true := by kernel_rfl
theorem cA_0 (g : G) : isF (tA (st3 0) g) = true := by kernel_rfl
theorem cB_0 (g : G) : isF (tB (st3 0) g) = true := by kernel_rfl
theorem cT_0 (g : G) : isZ Z0 (eT (st3 0) g) = true := by kernel_rfl
theorem cN_0 : Nat.beq Z0.length (HL 0).length = true := by kernel_rfl
theorem c4_0 (g : G) : is3 0 (blkB (st3 0) g) = true := by kernel_rfl
theorem c7_0 (g : G) (x : Nat → Sl) : is7 0 (blkC (sh3 0 x) g) = true := by kernel_rfl
theorem c8_0 : ((HL 0).all (hlB 0) && !(HL 0).isEmpty) = true := by kernel_rfl
theorem c11_0 (g : G) (x : Nat → Sl) : okR (q_law_11 (shW 0 (low 0) x) g) = true := by kernel_rfl
theorem l0 (g : G) (x : Nat → Sl) : allH (ckL 0 g x) 0 0 [] = true := by kernel_rfl

theorem c2_1 (g : G) : isL (HL 1) (F_all_up [.val (.int ((1 : Nat) : Int)), .val (.int ((1 : Nat) : Int))] g) = true := by kernel_rfl
theorem cA_1 (g : G) : isF (tA (st3 1) g) = true := by kernel_rfl
theorem cB_1 (g : G) : isF (tB (st3 1) g) = true := by kernel_rfl
theorem cT_1 (g : G) : isZ Z1 (eT (st3 1) g) = true := by kernel_rfl
theorem cN_1 : Nat.beq Z1.length (HL 1).length = true := by kernel_rfl
theorem c4_1 (g : G) : is3 1 (blkB (st3 1) g) = true := by kernel_rfl
theorem c7_1 (g : G) (x : Nat → Sl) : is7 1 (blkC (sh3 1 x) g) = true := by kernel_rfl
theorem c8_1 : ((HL 1).all (hlB 1) && !(HL 1).isEmpty) = true := by kernel_rfl
theorem c11_1 (g : G) (x : Nat → Sl) : okR (q_law_11 (shW 1 (low 1) x) g) = true := by kernel_rfl
theorem l1 (g : G) (x : Nat → Sl) : allH (ckL 1 g x) 2 0 [] = true := by kernel_rfl

theorem c2_2 (g : G) : isL (HL 2) (F_all_up [.val (.int ((2 : Nat) : Int)), .val (.int ((2 : Nat) : Int))] g) = true := by kernel_rfl
theorem cA_2 (g : G) : isF (tA (st3 2) g) = true := by kernel_rfl
theorem cB_2 (g : G) : isF (tB (st3 2) g) = true := by kernel_rfl
theorem cT_2 (g : G) : isZ Z2 (eT (st3 2) g) = true := by kernel_rfl
theorem cN_2 : Nat.beq Z2.length (HL 2).length = true := by kernel_rfl
theorem c4_2 (g : G) : is3 2 (blkB (st3 2) g) = true := by kernel_rfl
theorem c7_2 (g : G) (x : Nat → Sl) : is7 2 (blkC (sh3 2 x) g) = true := by kernel_rfl
theorem c8_2 : ((HL 2).all (hlB 2) && !(HL 2).isEmpty) = true := by kernel_rfl
theorem c11_2 (g : G) (x : Nat → Sl) : okR (q_law_11 (shW 2 (low 2) x) g) = true := by kernel_rfl
theorem l2 (g : G) (x : Nat → Sl) : allH (ckL 2 g x) 4 0 [] = true := by kernel_rfl

theorem c2_3 (g : G) : isL (HL 3) (F_all_up [.val (.int ((3 : Nat) : Int)), .val (.int ((3 : Nat) : Int))] g) = true := by kernel_rfl
theorem cA_3 (g : G) : isF (tA (st3 3) g) = true := by kernel_rfl
theorem cB_3 (g : G) : isF (tB (st3 3) g) = true := by kernel_rfl
theorem cT_3 (g : G) : isZ Z3 (eT (st3 3) g) = true := by kernel_rfl
theorem cN_3 : Nat.beq Z3.length (HL 3).length = true := by kernel_rfl
theorem c4_3 (g : G) : is3 3 (blkB (st3 3) g) = true := by kernel_rfl
theorem c7_3 (g : G) (x : Nat → Sl) : is7 3 (blkC (sh3 3 x) g) = true := by kernel_rfl
theorem c8_3 : ((HL 3).all (hlB 3) && !(HL 3).isEmpty) = true := by kernel_rfl
theorem c11_3 (g : G) (x : Nat → Sl) : okR (q_law_11 (shW 3 (low 3) x) g) = true := by kernel_rfl
theorem l3 (g : G) (x : Nat → Sl) : allH (ckL 3 g x) 6 0 [] = true := by kernel_rfl

theorem c2_4 (g : G) : isL (HL 4) (F_all_up [.val (.int ((4 : Nat) : Int)), .val (.int ((4 : Nat) : Int))] g) = true := by kernel_rfl
theorem cA_4 (g : G) : isF (tA (st3 4) g) = true := by kernel_rfl
theorem cB_4 (g : G) : isF (tB (st3 4) g) = true := by kernel_rfl
theorem cT_4 (g : G) : isZ Z4 (eT (st3 4) g) = true := by kernel_rfl
theorem cN_4 : Nat.beq Z4.length (HL 4).length = true := by kernel_rfl
theorem c4_4 (g : G) : is3 4 (blkB (st3 4) g) = true := by kernel_rfl
theorem c7_4 (g : G) (x : Nat → Sl) : is7 4 (blkC (sh3 4 x) g) = true := by kernel_rfl
theorem c8_4 : ((HL 4).all (hlB 4) && !(HL 4).isEmpty) = true := by kernel_rfl
theorem c11_4 (g : G) (x : Nat → Sl) : okR (q_law_11 (shW 4 (low 4) x) g) = true := by kernel_rfl
theorem l4_ud (g : G) (x : Nat → Sl) : allH (ckL 4 g x) 6 0 [Int.ofNat 1, Int.negSucc 0] = true := by kernel_rfl
theorem l4_uud (g : G) (x : Nat → Sl) : allH (ckL 4 g x) 5 1 [Int.ofNat 1, Int.ofNat 1, Int.negSucc 0] = true := by kernel_rfl
theorem l4_uuu (g : G) (x : Nat → Sl) : allH (ckL 4 g x) 5 3 [Int.ofNat 1, Int.ofNat 1, Int.ofNat 1] = true := by kernel_rfl
theorem l4_uu (g : G) (x : Nat → Sl) : allH (ckL 4 g x) 6 2 [Int.ofNat 1, Int.ofNat 1] = true := allH_both (n := 5) (k := 1) (p := [Int.ofNat 1, Int.ofNat 1]) (l4_uud g x) (l4_uuu g x)
theorem l4_u (g : G) (x : Nat → Sl) : allH (ckL 4 g x) 7 1 [Int.ofNat 1] = true := allH_both (n := 6) (k := 0) (p := [Int.ofNat 1]) (l4_ud g x) (l4_uu g x)
theorem l4 (g : G) (x : Nat → Sl) : allH (ckL 4 g x) 8 0 [] = true := allH_up (n := 7) (p := []) (l4_u g x)

theorem c2_5 (g : G) : isL (HL 5) (F_all_up [.val (.int ((5 : Nat) : Int)), .val (.int ((5 : Nat) : Int))] g) = true := by kernel_rfl
theorem cA_5 (g : G) : isF (tA (st3 5) g) = true := by kernel_rfl
theorem cB_5 (g : G) : isF (tB (st3 5) g) = true := by kernel_rfl
theorem cT_5 (g : G) : isZ Z5 (eT (st3 5) g) = true := by kernel_rfl
theorem cN_5 : Nat.beq Z5.length (HL 5).length = true := by kernel_rfl
theorem c4_5 (g : G) : is3 5 (blkB (st3 5) g) = true := by kernel_rfl
theorem c7_5 (g : G) (x : Nat → Sl) : is7 5 (blkC (sh3 5 x) g) = true := by kernel_rfl
theorem c8_5 : ((HL 5).all (hlB 5) && !(HL 5).isEmpty) = true := by kernel_rfl
theorem c11_5 (g : G) (x : Nat → Sl) : okR (q_law_11 (shW 5 (low 5) x) g) = true := by kernel_rfl
theorem l5_udud (g : G) (x : Nat → Sl) : allH (ckL 5 g x) 6 0 [Int.ofNat 1, Int.negSucc 0, Int.ofNat 1, Int.negSucc 0] = true := by kernel_rfl
theorem l5_uduud (g : G) (x : Nat → Sl) : allH (ckL 5 g x) 5 1 [Int.ofNat 1, Int.negSucc 0, Int.ofNat 1, Int.ofNat 1, Int.negSucc 0] = true := by kernel_rfl
theorem l5_uduuu (g : G) (x : Nat → Sl) : allH (ckL 5 g x) 5 3 [Int.ofNat 1, Int.negSucc 0, Int.ofNat 1, Int.ofNat 1, Int.ofNat 1] = true := by kernel_rfl
theorem l5_uduu (g : G) (x : Nat → Sl) : allH (ckL 5 g x) 6 2 [Int.ofNat 1, Int.negSucc 0, Int.ofNat 1, Int.ofNat 1] = true := allH_both (n := 5) (k := 1) (p := [Int.ofNat 1, Int.negSucc 0, Int.ofNat 1, Int.ofNat 1]) (l5_uduud g x) (l5_uduuu g x)
theorem l5_udu (g : G) (x : Nat → Sl) : allH (ckL 5 g x) 7 1 [Int.ofNat 1, Int.negSucc 0, Int.ofNat 1] = true := allH_both (n := 6) (k := 0) (p := [Int.ofNat 1, Int.negSucc 0, Int.ofNat 1]) (l5_udud g x) (l5_uduu g x)
theorem l5_ud (g : G) (x : Nat → Sl) : allH (ckL 5 g x) 8 0 [Int.ofNat 1, Int.negSucc 0] = true := allH_up (n := 7) (p := [Int.ofNat 1, Int.negSucc 0]) (l5_udu g x)
theorem l5_uudd (g : G) (x : Nat → Sl) : allH (ckL 5 g x) 6 0 [Int.ofNat 1, Int.ofNat 1, Int.negSucc 0, Int.negSucc 0] = true := by kernel_rfl
theorem l5_uudud (g : G) (x : Nat → Sl) : allH (ckL 5 g x) 5 1 [Int.ofNat 1, Int.ofNat 1, Int.negSucc 0, Int.ofNat 1, Int.negSucc 0] = true := by kernel_rfl
theorem l5_uuduu (g : G) (x : Nat → Sl) : allH (ckL 5 g x) 5 3 [Int.ofNat 1, Int.ofNat 1, Int.negSucc 0, Int.ofNat 1, Int.ofNat 1] = true := by kernel_rfl
theorem l5_uudu (g : G) (x : Nat → Sl) : allH (ckL 5 g x) 6 2 [Int.ofNat 1, Int.ofNat 1, Int.negSucc 0, Int.ofNat 1] = true := allH_both (n := 5) (k := 1) (p := [Int.ofNat 1, Int.ofNat 1, Int.negSucc 0, Int.ofNat 1]) (l5_uudud g x) (l5_uuduu g x)
theorem l5_uud (g : G) (x : Nat → Sl) : allH (ckL 5 g x) 7 1 [Int.ofNat 1, Int.ofNat 1, Int.negSucc 0] = true := allH_both (n := 6) (k := 0) (p := [Int.ofNat 1, Int.ofNat 1, Int.negSucc 0]) (l5_uudd g x) (l5_uudu g x)
theorem l5_uuudd (g : G) (x : Nat → Sl) : allH (ckL 5 g x) 5 1 [Int.ofNat 1, Int.ofNat 1, Int.ofNat 1, Int.negSucc 0, Int.negSucc 0] = true := by kernel_rfl
theorem l5_uuudu (g : G) (x : Nat → Sl) : allH (ckL 5 g x) 5 3 [Int.ofNat 1, Int.ofNat 1, Int.ofNat 1, Int.negSucc 0, Int.ofNat 1] = true := by kernel_rfl
theorem l5_uuud (g : G) (x : Nat → Sl) : allH (ckL 5 g x) 6 2 [Int.ofNat 1, Int.ofNat 1, Int.ofNat 1, Int.negSucc 0] = true := allH_both (n := 5) (k := 1) (p := [Int.ofNat 1, Int.ofNat 1, Int.ofNat 1, Int.negSucc 0]) (l5_uuudd g x) (l5_uuudu g x)
theorem l5_uuuu (g : G) (x : Nat → Sl) : allH (ckL 5 g x) 6 4 [Int.ofNat 1, Int.ofNat 1, Int.ofNat 1, Int.ofNat 1] = true := by kernel_rfl
theorem l5_uuu (g : G) (x : Nat → Sl) : allH (ckL 5 g x) 7 3 [Int.ofNat 1, Int.ofNat 1, Int.ofNat 1] = true := allH_both (n := 6) (k := 2) (p := [Int.ofNat 1, Int.ofNat 1, Int.ofNat 1]) (l5_uuud g x) (l5_uuuu g x)
theorem l5_uu (g : G) (x : Nat → Sl) : allH (ckL 5 g x) 8 2 [Int.ofNat 1, Int.ofNat 1] = true := allH_both (n := 7) (k := 1) (p := [Int.ofNat 1, Int.ofNat 1]) (l5_uud g x) (l5_uuu g x)
theorem l5_u (g : G) (x : Nat → Sl) : allH (ckL 5 g x) 9 1 [Int.ofNat 1] = true := allH_both (n := 8) (k := 0) (p := [Int.ofNat 1]) (l5_ud g x) (l5_uu g x)
theorem l5 (g : G) (x : Nat → Sl) : allH (ckL 5 g x) 10 0 [] = true := allH_up (n := 9) (p := []) (l5_u g x)

theorem c2_6 (g : G) : isL (HL 6) (F_all_up [.val (.int ((6 : Nat) : Int)), .val (.int ((6 : Nat) : Int))] g) = true := by kernel_rfl
theorem cA_6 (g : G) : isF (tA (st3 6) g) = true := by kernel_rfl
theorem cB_6 (g : G) : isF (tB (st3 6) g) = true := by kernel_rfl
theorem cT_6 (g : G) : isZ Z6 (eT (st3 6) g) = true := by kernel_rfl
theorem cN_6 : Nat.beq Z6.length (HL 6).length = true := by kernel_rfl
theorem c4_6 (g : G) : is3 6 (blkB (st3 6) g) = true := by kernel_rfl
theorem c7_6 (g : G) (x : Nat → Sl) : is7 6 (blkC (sh3 6 x) g) = true := by kernel_rfl
theorem c8_6 : ((HL 6).all (hlB 6) && !(HL 6).isEmpty) = true := by kernel_rfl
theorem c11_6 (g : G) (x : Nat → Sl) : okR (q_law_11 (shW 6 (low 6) x) g) = true := by kernel_rfl
theorem l6_ududud (g : G) (x : Nat → Sl) : allH (ckL 6 g x) 6 0 [Int.ofNat 1, Int.negSucc 0, Int.ofNat 1, Int.negSucc 0, Int.ofNat 1, Int.negSucc 0] = true := by kernel_rfl
theorem l6_ududuud (g : G) (x : Nat → Sl) : allH (ckL 6 g x) 5 1 [Int.ofNat 1, Int.negSucc 0, Int.ofNat 1, Int.negSucc 0, Int.ofNat 1, Int.ofNat 1, Int.negSucc 0] = true := by kernel_rfl
theorem l6_ududuuu (g : G) (x : Nat → Sl) : allH (ckL 6 g x) 5 3 [Int.ofNat 1, Int.negSucc 0, Int.ofNat 1, Int.negSucc 0, Int.ofNat 1, Int.ofNat 1, Int.ofNat 1] = true := by kernel_rfl
theorem l6_ududuu (g : G) (x : Nat → Sl) : allH (ckL 6 g x) 6 2 [Int.ofNat 1, Int.negSucc 0, Int.ofNat 1, Int.negSucc 0, Int.ofNat 1, Int.ofNat 1] = true := allH_both (n := 5) (k := 1) (p := [Int.ofNat 1, Int.negSucc 0, Int.ofNat 1, Int.negSucc 0, Int.ofNat 1, Int.ofNat 1]) (l6_ududuud g x) (l6_ududuuu g x)
theorem l6_ududu (g : G) (x : Nat → Sl) : allH (ckL 6 g x) 7 1 [Int.ofNat 1, Int.negSucc 0, Int.ofNat 1, Int.negSucc 0, Int.ofNat 1] = true := allH_both (n := 6) (k := 0) (p := [Int.ofNat 1, Int.negSucc 0, Int.ofNat 1, Int.negSucc 0, Int.ofNat 1]) (l6_ududud g x) (l6_ududuu g x)
theorem l6_udud (g : G) (x : Nat → Sl) : allH (ckL 6 g x) 8 0 [Int.ofNat 1, Int.negSucc 0, Int.ofNat 1, Int.negSucc 0] = true := allH_up (n := 7) (p := [Int.ofNat 1, Int.negSucc 0, Int.ofNat 1, Int.negSucc 0]) (l6_ududu g x)
theorem l6_uduudd (g : G) (x : Nat → Sl) : allH (ckL 6 g x) 6 0 [Int.ofNat 1, Int.negSucc 0, Int.ofNat 1, Int.ofNat 1, Int.negSucc 0, Int.negSucc 0] = true := by kernel_rfl
theorem l6_uduudud (g : G) (x : Nat → Sl) : allH (ckL 6 g x) 5 1 [Int.ofNat 1, Int.negSucc 0, Int.ofNat 1, Int.ofNat 1, Int.negSucc 0, Int.ofNat 1, Int.negSucc 0] = true := by kernel_rfl
theorem l6_uduuduu (g : G) (x : Nat → Sl) : allH (ckL 6 g x) 5 3 [Int.ofNat 1, Int.negSucc 0, Int.ofNat 1, Int.ofNat 1, Int.negSucc 0, Int.ofNat 1, Int.ofNat 1] = true := by kernel_rfl
theorem l6_uduudu (g : G) (x : Nat → Sl) : allH (ckL 6 g x) 6 2 [Int.ofNat 1, Int.negSucc 0, Int.ofNat 1, Int.ofNat 1, Int.negSucc 0, Int.ofNat 1] = true := allH_both (n := 5) (k := 1) (p := [Int.ofNat 1, Int.negSucc 0, Int.ofNat 1, Int.ofNat 1, Int.negSucc 0, Int.ofNat 1]) (l6_uduudud g x) (l6_uduuduu g x)
theorem l6_uduud (g : G) (x : Nat → Sl) : allH (ckL 6 g x) 7 1 [Int.ofNat 1, Int.negSucc 0, Int.ofNat 1, Int.ofNat 1, Int.negSucc 0] = true := allH_both (n := 6) (k := 0) (p := [Int.ofNat 1, Int.negSucc 0, Int.ofNat 1, Int.ofNat 1, Int.negSucc 0]) (l6_uduudd g x) (l6_uduudu g x)
theorem l6_uduuudd (g : G) (x : Nat → Sl) : allH (ckL 6 g x) 5 1 [Int.ofNat 1, Int.negSucc 0, Int.ofNat 1, Int.ofNat 1, Int.ofNat 1, Int.negSucc 0, Int.negSucc 0] = true := by kernel_rfl
theorem l6_uduuudu (g : G) (x : Nat → Sl) : allH (ckL 6 g x) 5 3 [Int.ofNat 1, Int.negSucc 0, Int.ofNat 1, Int.ofNat 1, Int.ofNat 1, Int.negSucc 0, Int.ofNat 1] = true := by kernel_rfl
theorem l6_uduuud (g : G) (x : Nat → Sl) : allH (ckL 6 g x) 6 2 [Int.ofNat 1, Int.negSucc 0, Int.ofNat 1, Int.ofNat 1, Int.ofNat 1, Int.negSucc 0] = true := allH_both (n := 5) (k := 1) (p := [Int.ofNat 1, Int.negSucc 0, Int.ofNat 1, Int.ofNat 1, Int.ofNat 1, Int.negSucc 0]) (l6_uduuudd g x) (l6_uduuudu g x)
theorem l6_uduuuu (g : G) (x : Nat → Sl) : allH (ckL 6 g x) 6 4 [Int.ofNat 1, Int.negSucc 0, Int.ofNat 1, Int.ofNat 1, Int.ofNat 1, Int.ofNat 1] = true := by kernel_rfl
theorem l6_uduuu (g : G) (x : Nat → Sl) : allH (ckL 6 g x) 7 3 [Int.ofNat 1, Int.negSucc 0, Int.ofNat 1, Int.ofNat 1, Int.ofNat 1] = true := allH_both (n := 6) (k := 2) (p := [Int.ofNat 1, Int.negSucc 0, Int.ofNat 1, Int.ofNat 1, Int.ofNat 1]) (l6_uduuud g x) (l6_uduuuu g x)
theorem l6_uduu (g : G) (x : Nat → Sl) : allH (ckL 6 g x) 8 2 [Int.ofNat 1, Int.negSucc 0, Int.ofNat 1, Int.ofNat 1] = true := allH_both (n := 7) (k := 1) (p := [Int.ofNat 1, Int.negSucc 0, Int.ofNat 1, Int.ofNat 1]) (l6_uduud g x) (l6_uduuu g x)
theorem l6_udu (g : G) (x : Nat → Sl) : allH (ckL 6 g x) 9 1 [Int.ofNat 1, Int.negSucc 0, Int.ofNat 1] = true := allH_both (n := 8) (k := 0) (p := [Int.ofNat 1, Int.negSucc 0, Int.ofNat 1]) (l6_udud g x) (l6_uduu g x)
theorem l6_ud (g : G) (x : Nat → Sl) : allH (ckL 6 g x) 10 0 [Int.ofNat 1, Int.negSucc 0] = true := allH_up (n := 9) (p := [Int.ofNat 1, Int.negSucc 0]) (l6_udu g x)
theorem l6_uuddud (g : G) (x : Nat → Sl) : allH (ckL 6 g x) 6 0 [Int.ofNat 1, Int.ofNat 1, Int.negSucc 0, Int.negSucc 0, Int.ofNat 1, Int.negSucc 0] = true := by kernel_rfl
theorem l6_uudduud (g : G) (x : Nat → Sl) : allH (ckL 6 g x) 5 1 [Int.ofNat 1, Int.ofNat 1, Int.negSucc 0, Int.negSucc 0, Int.ofNat 1, Int.ofNat 1, Int.negSucc 0] = true := by kernel_rfl
theorem l6_uudduuu (g : G) (x : Nat → Sl) : allH (ckL 6 g x) 5 3 [Int.ofNat 1, Int.ofNat 1, Int.negSucc 0, Int.negSucc 0, Int.ofNat 1, Int.ofNat 1, Int.ofNat 1] = true := by kernel_rfl
theorem l6_uudduu (g : G) (x : Nat → Sl) : allH (ckL 6 g x) 6 2 [Int.ofNat 1, Int.ofNat 1, Int.negSucc 0, Int.negSucc 0, Int.ofNat 1, Int.ofNat 1] = true := allH_both (n := 5) (k := 1) (p := [Int.ofNat 1, Int.ofNat 1, Int.negSucc 0, Int.negSucc 0, Int.ofNat 1, Int.ofNat 1]) (l6_uudduud g x) (l6_uudduuu g x)
theorem l6_uuddu (g : G) (x : Nat → Sl) : allH (ckL 6 g x) 7 1 [Int.ofNat 1, Int.ofNat 1, Int.negSucc 0, Int.negSucc 0, Int.ofNat 1] = true := allH_both (n := 6) (k := 0) (p := [Int.ofNat 1, Int.ofNat 1, Int.negSucc 0, Int.negSucc 0, Int.ofNat 1]) (l6_uuddud g x) (l6_uudduu g x)
theorem l6_uudd (g : G) (x : Nat → Sl) : allH (ckL 6 g x) 8 0 [Int.ofNat 1, Int.ofNat 1, Int.negSucc 0, Int.negSucc 0] = true := allH_up (n := 7) (p := [Int.ofNat 1, Int.ofNat 1, Int.negSucc 0, Int.negSucc 0]) (l6_uuddu g x)
theorem l6_uududd (g : G) (x : Nat → Sl) : allH (ckL 6 g x) 6 0 [Int.ofNat 1, Int.ofNat 1, Int.negSucc 0, Int.ofNat 1, Int.negSucc 0, Int.negSucc 0] = true := by kernel_rfl
theorem l6_uududud (g : G) (x : Nat → Sl) : allH (ckL 6 g x) 5 1 [Int.ofNat 1, Int.ofNat 1, Int.negSucc 0, Int.ofNat 1, Int.negSucc 0, Int.ofNat 1, Int.negSucc 0] = true := by kernel_rfl
theorem l6_uududuu (g : G) (x : Nat → Sl) : allH (ckL 6 g x) 5 3 [Int.ofNat 1, Int.ofNat 1, Int.negSucc 0, Int.ofNat 1, Int.negSucc 0, Int.ofNat 1, Int.ofNat 1] = true := by kernel_rfl
theorem l6_uududu (g : G) (x : Nat → Sl) : allH (ckL 6 g x) 6 2 [Int.ofNat 1, Int.ofNat 1, Int.negSucc 0, Int.ofNat 1, Int.negSucc 0, Int.ofNat 1] = true := allH_both (n := 5) (k := 1) (p := [Int.ofNat 1, Int.ofNat 1, Int.negSucc 0, Int.ofNat 1, Int.negSucc 0, Int.ofNat 1]) (l6_uududud g x) (l6_uududuu g x)
theorem l6_uudud (g : G) (x : Nat → Sl) : allH (ckL 6 g x) 7 1 [Int.ofNat 1, Int.ofNat 1, Int.negSucc 0, Int.ofNat 1, Int.negSucc 0] = true := allH_both (n := 6) (k := 0) (p := [Int.ofNat 1, Int.ofNat 1, Int.negSucc 0, Int.ofNat 1, Int.negSucc 0]) (l6_uududd g x) (l6_uududu g x)
theorem l6_uuduudd (g : G) (x : Nat → Sl) : allH (ckL 6 g x) 5 1 [Int.ofNat 1, Int.ofNat 1, Int.negSucc 0, Int.ofNat 1, Int.ofNat 1, Int.negSucc 0, Int.negSucc 0] = true := by kernel_rfl
theorem l6_uuduudu (g : G) (x : Nat → Sl) : allH (ckL 6 g x) 5 3 [Int.ofNat 1, Int.ofNat 1, Int.negSucc 0, Int.ofNat 1, Int.ofNat 1, Int.negSucc 0, Int.ofNat 1] = true := by kernel_rfl
theorem l6_uuduud (g : G) (x : Nat → Sl) : allH (ckL 6 g x) 6 2 [Int.ofNat 1, Int.ofNat 1, Int.negSucc 0, Int.ofNat 1, Int.ofNat 1, Int.negSucc 0] = true := allH_both (n := 5) (k := 1) (p := [Int.ofNat 1, Int.ofNat 1, Int.negSucc 0, Int.ofNat 1, Int.ofNat 1, Int.negSucc 0]) (l6_uuduudd g x) (l6_uuduudu g x)
theorem l6_uuduuu (g : G) (x : Nat → Sl) : allH (ckL 6 g x) 6 4 [Int.ofNat 1, Int.ofNat 1, Int.negSucc 0, Int.ofNat 1, Int.ofNat 1, Int.ofNat 1] = true := by kernel_rfl
theorem l6_uuduu (g : G) (x : Nat → Sl) : allH (ckL 6 g x) 7 3 [Int.ofNat 1, Int.ofNat 1, Int.negSucc 0, Int.ofNat 1, Int.ofNat 1] = true := allH_both (n := 6) (k := 2) (p := [Int.ofNat 1, Int.ofNat 1, Int.negSucc 0, Int.ofNat 1, Int.ofNat 1]) (l6_uuduud g x) (l6_uuduuu g x)
theorem l6_uudu (g : G) (x : Nat → Sl) : allH (ckL 6 g x) 8 2 [Int.ofNat 1, Int.ofNat 1, Int.negSucc 0, Int.ofNat 1] = true := allH_both (n := 7) (k := 1) (p := [Int.ofNat 1, Int.ofNat 1, Int.negSucc 0, Int.ofNat 1]) (l6_uudud g x) (l6_uuduu g x)
theorem l6_uud (g : G) (x : Nat → Sl) : allH (ckL 6 g x) 9 1 [Int.ofNat 1, Int.ofNat 1, Int.negSucc 0] = true := allH_both (n := 8) (k := 0) (p := [Int.ofNat 1, Int.ofNat 1, Int.negSucc 0]) (l6_uudd g x) (l6_uudu g x)
theorem l6_uuuddd (g : G) (x : Nat → Sl) : allH (ckL 6 g x) 6 0 [Int.ofNat 1, Int.ofNat 1, Int.ofNat 1, Int.negSucc 0, Int.negSucc 0, Int.negSucc 0] = true := by kernel_rfl
theorem l6_uuuddud (g : G) (x : Nat → Sl) : allH (ckL 6 g x) 5 1 [Int.ofNat 1, Int.ofNat 1, Int.ofNat 1, Int.negSucc 0, Int.negSucc 0, Int.ofNat 1, Int.negSucc 0] = true := by kernel_rfl
theorem l6_uuudduu (g : G) (x : Nat → Sl) : allH (ckL 6 g x) 5 3 [Int.ofNat 1, Int.ofNat 1, Int.ofNat 1, Int.negSucc 0, Int.negSucc 0, Int.ofNat 1, Int.ofNat 1] = true := by kernel_rfl
theorem l6_uuuddu (g : G) (x : Nat → Sl) : allH (ckL 6 g x) 6 2 [Int.ofNat 1, Int.ofNat 1, Int.ofNat 1, Int.negSucc 0, Int.negSucc 0, Int.ofNat 1] = true := allH_both (n := 5) (k := 1) (p := [Int.ofNat 1, Int.ofNat 1, Int.ofNat 1, Int.negSucc 0, Int.negSucc 0, Int.ofNat 1]) (l6_uuuddud g x) (l6_uuudduu g x)
theorem l6_uuudd (g : G) (x : Nat → Sl) : allH (ckL 6 g x) 7 1 [Int.ofNat 1, Int.ofNat 1, Int.ofNat 1, Int.negSucc 0, Int.negSucc 0] = true := allH_both (n := 6) (k := 0) (p := [Int.ofNat 1, Int.ofNat 1, Int.ofNat 1, Int.negSucc 0, Int.negSucc 0]) (l6_uuuddd g x) (l6_uuuddu g x)
theorem l6_uuududd (g : G) (x : Nat → Sl) : allH (ckL 6 g x) 5 1 [Int.ofNat 1, Int.ofNat 1, Int.ofNat 1, Int.negSucc 0, Int.ofNat 1, Int.negSucc 0, Int.negSucc 0] = true := by kernel_rfl
theorem l6_uuududu (g : G) (x : Nat → Sl) : allH (ckL 6 g x) 5 3 [Int.ofNat 1, Int.ofNat 1, Int.ofNat 1, Int.negSucc 0, Int.ofNat 1, Int.negSucc 0, Int.ofNat 1] = true := by kernel_rfl
theorem l6_uuudud (g : G) (x : Nat → Sl) : allH (ckL 6 g x) 6 2 [Int.ofNat 1, Int.ofNat 1, Int.ofNat 1, Int.negSucc 0, Int.ofNat 1, Int.negSucc 0] = true := allH_both (n := 5) (k := 1) (p := [Int.ofNat 1, Int.ofNat 1, Int.ofNat 1, Int.negSucc 0, Int.ofNat 1, Int.negSucc 0]) (l6_uuududd g x) (l6_uuududu g x)
theorem l6_uuuduu (g : G) (x : Nat → Sl) : allH (ckL 6 g x) 6 4 [Int.ofNat 1, Int.ofNat 1, Int.ofNat 1, Int.negSucc 0, Int.ofNat 1, Int.ofNat 1] = true := by kernel_rfl
theorem l6_uuudu (g : G) (x : Nat → Sl) : allH (ckL 6 g x) 7 3 [Int.ofNat 1, Int.ofNat 1, Int.ofNat 1, Int.negSucc 0, Int.ofNat 1] = true := allH_both (n := 6) (k := 2) (p := [Int.ofNat 1, Int.ofNat 1, Int.ofNat 1, Int.negSucc 0, Int.ofNat 1]) (l6_uuudud g x) (l6_uuuduu g x)
theorem l6_uuud (g : G) (x : Nat → Sl) : allH (ckL 6 g x) 8 2 [Int.ofNat 1, Int.ofNat 1, Int.ofNat 1, Int.negSucc 0] = true := allH_both (n := 7) (k := 1) (p := [Int.ofNat 1, Int.ofNat 1, Int.ofNat 1, Int.negSucc 0]) (l6_uuudd g x) (l6_uuudu g x)
theorem l6_uuuuddd (g : G) (x : Nat → Sl) : allH (ckL 6 g x) 5 1 [Int.ofNat 1, Int.ofNat 1, Int.ofNat 1, Int.ofNat 1, Int.negSucc 0, Int.negSucc 0, Int.negSucc 0] = true := by kernel_rfl
theorem l6_uuuuddu (g : G) (x : Nat → Sl) : allH (ckL 6 g x) 5 3 [Int.ofNat 1, Int.ofNat 1, Int.ofNat 1, Int.ofNat 1, Int.negSucc 0, Int.negSucc 0, Int.ofNat 1] = true := by kernel_rfl
theorem l6_uuuudd (g : G) (x : Nat → Sl) : allH (ckL 6 g x) 6 2 [Int.ofNat 1, Int.ofNat 1, Int.ofNat 1, Int.ofNat 1, Int.negSucc 0, Int.negSucc 0] = true := allH_both (n := 5) (k := 1) (p := [Int.ofNat 1, Int.ofNat 1, Int.ofNat 1, Int.ofNat 1, Int.negSucc 0, Int.negSucc 0]) (l6_uuuuddd g x) (l6_uuuuddu g x)
theorem l6_uuuudu (g : G) (x : Nat → Sl) : allH (ckL 6 g x) 6 4 [Int.ofNat 1, Int.ofNat 1, Int.ofNat 1, Int.ofNat 1, Int.negSucc 0, Int.ofNat 1] = true := by kernel_rfl
theorem l6_uuuud (g : G) (x : Nat → Sl) : allH (ckL 6 g x) 7 3 [Int.ofNat 1, Int.ofNat 1, Int.ofNat 1, Int.ofNat 1, Int.negSucc 0] = true := allH_both (n := 6) (k := 2) (p := [Int.ofNat 1, Int.ofNat 1, Int.ofNat 1, Int.ofNat 1, Int.negSucc 0]) (l6_uuuudd g x) (l6_uuuudu g x)
theorem l6_uuuuu (g : G) (x : Nat → Sl) : allH (ckL 6 g x) 7 5 [Int.ofNat 1, Int.ofNat 1, Int.ofNat 1, Int.ofNat 1, Int.ofNat 1] = true := by kernel_rfl
theorem l6_uuuu (g : G) (x : Nat → Sl) : allH (ckL 6 g x) 8 4 [Int.ofNat 1, Int.ofNat 1, Int.ofNat 1, Int.ofNat 1] = true := allH_both (n := 7) (k := 3) (p := [Int.ofNat 1, Int.ofNat 1, Int.ofNat 1, Int.ofNat 1]) (l6_uuuud g x) (l6_uuuuu g x)
theorem l6_uuu (g : G) (x : Nat → Sl) : allH (ckL 6 g x) 9 3 [Int.ofNat 1, Int.ofNat 1, Int.ofNat 1] = true := allH_both (n := 8) (k := 2) (p := [Int.ofNat 1, Int.ofNat 1, Int.ofNat 1]) (l6_uuud g x) (l6_uuuu g x)
theorem l6_uu (g : G) (x : Nat → Sl) : allH (ckL 6 g x) 10 2 [Int.ofNat 1, Int.ofNat 1] = true := allH_both (n := 9) (k := 1) (p := [Int.ofNat 1, Int.ofNat 1]) (l6_uud g x) (l6_uuu g x)
theorem l6_u (g : G) (x : Nat → Sl) : allH (ckL 6 g x) 11 1 [Int.ofNat 1] = true := allH_both (n := 10) (k := 0) (p := [Int.ofNat 1]) (l6_ud g x) (l6_uu g x)
theorem l6 (g : G) (x : Nat → Sl) : allH (ckL 6 g x) 12 0 [] = true := allH_up (n := 11) (p := []) (l6_u g x)

def eqNs : List Nat → List Nat → Bool
  | [], [] => true
  | x :: r, y :: t => Nat.beq x y && eqNs r t
  | _, _ => false
theorem eqNs_is : ∀ {x y : List Nat}, eqNs x y = true → x = y
  | [], [], _ => rfl
  | x :: r, y :: t, h => by
    obtain ⟨h1, h2⟩ := and_e (show (Nat.beq x y && eqNs r t) = true from h)
    rw [Nat.eq_of_beq_eq_true h1, eqNs_is h2]
  | [], _ :: _, h => by cases h
  | _ :: _, [], h => by cases h
def eqB : Bool → Bool → Bool
  | true, b => b
  | false, b => !b
theorem eqB_is : ∀ {a b : Bool}, eqB a b = true → a = b
  | true, true, _ => rfl
  | false, false, _ => rfl
def eqT (t u : SetTable) : Bool := ((Nat.beq t.mask u.mask && Nat.beq t.finger u.finger) && (Nat.beq t.moves u.moves && eqB t.led u.led)) && ((eqB t.plain u.plain && eqNs t.dummies.toList u.dummies.toList) && eqNs t.place.toList u.place.toList)
theorem eqT_is : ∀ {t u : SetTable}, eqT t u = true → t = u
  | ⟨m, p, d, f, l, v, q⟩, ⟨m', p', d', f', l', v', q'⟩, h => by
    obtain ⟨h1, h2⟩ := and_e h
    obtain ⟨h3, h4⟩ := and_e h1
    obtain ⟨a1, a2⟩ := and_e h3
    obtain ⟨a3, a4⟩ := and_e h4
    obtain ⟨h5, a5⟩ := and_e h2
    obtain ⟨a6, a7⟩ := and_e h5
    have b1 : m = m' := Nat.eq_of_beq_eq_true a1
    have b2 : f = f' := Nat.eq_of_beq_eq_true a2
    have b3 : v = v' := Nat.eq_of_beq_eq_true a3
    have b4 : l = l' := eqB_is a4
    have b5 : p = p' := Array.ext' (eqNs_is a5)
    have b6 : q = q' := eqB_is a6
    have b7 : d = d' := Array.ext' (eqNs_is a7)
    rw [b1, b2, b3, b4, b5, b6, b7]
def eqC : Option (SetTable × List Int) → SetTable × List Int → Bool
  | some c, d => eqT c.1 d.1 && eqI c.2 d.2
  | none, _ => false
theorem eqC_is : ∀ {r : Option (SetTable × List Int)} {d : SetTable × List Int}, eqC r d = true → r = some d
  | some (t, l), (u, m), h => by
    obtain ⟨h1, h2⟩ := and_e (show (eqT t u && eqI l m) = true from h)
    rw [eqT_is h1, eqI_is h2]
  | none, _, h => by cases h
theorem run_app {a b : List Int} {c d e : SetTable × List Int} (h1 : Nt.run a c = some d) (h2 : Nt.run b d = some e) : Nt.run (a ++ b) c = some e := by
  induction a generalizing c with
  | nil => cases h1; exact h2
  | cons z a ih =>
    have h1 : (match Nt.step z c with | some c' => Nt.run a c' | none => none) = some d := h1
    show (match Nt.step z c with | some c' => Nt.run (a ++ b) c' | none => none) = some e
    cases k : Nt.step z c with
    | none => rw [k] at h1; cases h1
    | some c' => rw [k] at h1; exact ih h1
def T0_0 (b : Bool) : SetTable × List Int := (⟨7, #[], #[], 0, b, 0, true⟩, [])
def T0_1 (b : Bool) : SetTable × List Int := (⟨7, #[3], #[], 0, b, 0, true⟩, [5740354900026072187])
theorem s0_0_true : eqC (Nt.run [5740354900026072187] (T0_0 true)) (T0_1 true) = true := by kernel_rfl
theorem s0_0_false : eqC (Nt.run [5740354900026072187] (T0_0 false)) (T0_1 false) = true := by kernel_rfl
theorem s0_0 (b : Bool) : Nt.run [5740354900026072187] (T0_0 b) = some (T0_1 b) := by cases b; exact eqC_is s0_0_false; exact eqC_is s0_0_true
theorem r0_1 (b : Bool) : Nt.run [] (T0_1 b) = some (T0_1 b) := rfl
theorem r0_0 (b : Bool) : Nt.run [5740354900026072187] (T0_0 b) = some (T0_1 b) := run_app (s0_0 b) (r0_1 b)
theorem e0 (b : Bool) : Nt.endOk Z0.length (Nt.run Z0 (.fresh 0 0 b, [])) = true := by
  have h : Nt.run Z0 (.fresh 0 0 b, []) = some (T0_1 b) := r0_0 b
  rw [h]
  cases b <;> kernel_rfl
theorem cS_0 : Nt.allNew Z0 = true := and_i (e0 true) (e0 false)
def T1_0 (b : Bool) : SetTable × List Int := (⟨7, #[], #[], 0, b, 0, true⟩, [])
def T1_1 (b : Bool) : SetTable × List Int := (⟨7, #[6], #[], 0, b, 0, true⟩, [-5486347211504344842])
theorem s1_0_true : eqC (Nt.run [-5486347211504344842] (T1_0 true)) (T1_1 true) = true := by kernel_rfl
theorem s1_0_false : eqC (Nt.run [-5486347211504344842] (T1_0 false)) (T1_1 false) = true := by kernel_rfl
theorem s1_0 (b : Bool) : Nt.run [-5486347211504344842] (T1_0 b) = some (T1_1 b) := by cases b; exact eqC_is s1_0_false; exact eqC_is s1_0_true
theorem r1_1 (b : Bool) : Nt.run [] (T1_1 b) = some (T1_1 b) := rfl
theorem r1_0 (b : Bool) : Nt.run [-5486347211504344842] (T1_0 b) = some (T1_1 b) := run_app (s1_0 b) (r1_1 b)
theorem e1 (b : Bool) : Nt.endOk Z1.length (Nt.run Z1 (.fresh 0 0 b, [])) = true := by
  have h : Nt.run Z1 (.fresh 0 0 b, []) = some (T1_1 b) := r1_0 b
  rw [h]
  cases b <;> kernel_rfl
theorem cS_1 : Nt.allNew Z1 = true := and_i (e1 true) (e1 false)
def T2_0 (b : Bool) : SetTable × List Int := (⟨7, #[], #[], 0, b, 0, true⟩, [])
def T2_1 (b : Bool) : SetTable × List Int := (⟨7, #[6, 7], #[], 0, b, 0, true⟩, [9028247024705308198, 4510597632111149919])
theorem s2_0_true : eqC (Nt.run [9028247024705308198, 4510597632111149919] (T2_0 true)) (T2_1 true) = true := by kernel_rfl
theorem s2_0_false : eqC (Nt.run [9028247024705308198, 4510597632111149919] (T2_0 false)) (T2_1 false) = true := by kernel_rfl
theorem s2_0 (b : Bool) : Nt.run [9028247024705308198, 4510597632111149919] (T2_0 b) = some (T2_1 b) := by cases b; exact eqC_is s2_0_false; exact eqC_is s2_0_true
theorem r2_1 (b : Bool) : Nt.run [] (T2_1 b) = some (T2_1 b) := rfl
theorem r2_0 (b : Bool) : Nt.run [9028247024705308198, 4510597632111149919] (T2_0 b) = some (T2_1 b) := run_app (s2_0 b) (r2_1 b)
theorem e2 (b : Bool) : Nt.endOk Z2.length (Nt.run Z2 (.fresh 0 0 b, [])) = true := by
  have h : Nt.run Z2 (.fresh 0 0 b, []) = some (T2_1 b) := r2_0 b
  rw [h]
  cases b <;> kernel_rfl
theorem cS_2 : Nt.allNew Z2 = true := and_i (e2 true) (e2 false)
def T3_0 (b : Bool) : SetTable × List Int := (⟨7, #[], #[], 0, b, 0, true⟩, [])
def T3_1 (b : Bool) : SetTable × List Int := (⟨31, #[3, 15, 16, 24, 31], #[], 0, b, 1, true⟩, [-2010042300121347165, -1807087918374670097, 578447794611251343, -3517168634428989288, -8129927606219974177])
theorem s3_0_true : eqC (Nt.run [-3517168634428989288, 578447794611251343, -1807087918374670097, -8129927606219974177, -2010042300121347165] (T3_0 true)) (T3_1 true) = true := by kernel_rfl
theorem s3_0_false : eqC (Nt.run [-3517168634428989288, 578447794611251343, -1807087918374670097, -8129927606219974177, -2010042300121347165] (T3_0 false)) (T3_1 false) = true := by kernel_rfl
theorem s3_0 (b : Bool) : Nt.run [-3517168634428989288, 578447794611251343, -1807087918374670097, -8129927606219974177, -2010042300121347165] (T3_0 b) = some (T3_1 b) := by cases b; exact eqC_is s3_0_false; exact eqC_is s3_0_true
theorem r3_1 (b : Bool) : Nt.run [] (T3_1 b) = some (T3_1 b) := rfl
theorem r3_0 (b : Bool) : Nt.run [-3517168634428989288, 578447794611251343, -1807087918374670097, -8129927606219974177, -2010042300121347165] (T3_0 b) = some (T3_1 b) := run_app (s3_0 b) (r3_1 b)
theorem e3 (b : Bool) : Nt.endOk Z3.length (Nt.run Z3 (.fresh 0 0 b, [])) = true := by
  have h : Nt.run Z3 (.fresh 0 0 b, []) = some (T3_1 b) := r3_0 b
  rw [h]
  cases b <;> kernel_rfl
theorem cS_3 : Nt.allNew Z3 = true := and_i (e3 true) (e3 false)
def T4_0 (b : Bool) : SetTable × List Int := (⟨7, #[], #[], 0, b, 0, true⟩, [])
def T4_1 (b : Bool) : SetTable × List Int := (⟨31, #[1, 2, 13, 15, 16, 19], #[], 0, b, 1, true⟩, [8492597879184952161, -7568610481538678015, 4664087542628982029, 6384666629989678863, 8203820493126157775, 8106194553103937747])
def T4_2 (b : Bool) : SetTable × List Int := (⟨31, #[1, 2, 3, 11, 12, 13, 15, 16, 17, 19, 24, 29], #[], 0, b, 1, true⟩, [8492597879184952161, -7568610481538678015, 3796176535257080355, -3674758447004149557, -4255453644681420661, 4664087542628982029, 6384666629989678863, 8203820493126157775, -7426779196126117489, 8106194553103937747, 8189856925240824664, -7649420596463976355])
def T4_3 (b : Bool) : SetTable × List Int := (⟨31, #[1, 2, 3, 11, 12, 13, 15, 16, 17, 19, 20, 24, 27, 29], #[], 0, b, 1, true⟩, [8492597879184952161, -7568610481538678015, 3796176535257080355, -3674758447004149557, -4255453644681420661, 4664087542628982029, 6384666629989678863, 8203820493126157775, -7426779196126117489, 8106194553103937747, -4036653320055449708, 8189856925240824664, 5897120461648011547, -7649420596463976355])
theorem s4_0_true : eqC (Nt.run [8203820493126157775, -7568610481538678015, 8492597879184952161, 6384666629989678863, 8106194553103937747, 4664087542628982029] (T4_0 true)) (T4_1 true) = true := by kernel_rfl
theorem s4_0_false : eqC (Nt.run [8203820493126157775, -7568610481538678015, 8492597879184952161, 6384666629989678863, 8106194553103937747, 4664087542628982029] (T4_0 false)) (T4_1 false) = true := by kernel_rfl
theorem s4_0 (b : Bool) : Nt.run [8203820493126157775, -7568610481538678015, 8492597879184952161, 6384666629989678863, 8106194553103937747, 4664087542628982029] (T4_0 b) = some (T4_1 b) := by cases b; exact eqC_is s4_0_false; exact eqC_is s4_0_true
theorem s4_1_true : eqC (Nt.run [8189856925240824664, -7649420596463976355, -7426779196126117489, 3796176535257080355, -3674758447004149557, -4255453644681420661] (T4_1 true)) (T4_2 true) = true := by kernel_rfl
theorem s4_1_false : eqC (Nt.run [8189856925240824664, -7649420596463976355, -7426779196126117489, 3796176535257080355, -3674758447004149557, -4255453644681420661] (T4_1 false)) (T4_2 false) = true := by kernel_rfl
theorem s4_1 (b : Bool) : Nt.run [8189856925240824664, -7649420596463976355, -7426779196126117489, 3796176535257080355, -3674758447004149557, -4255453644681420661] (T4_1 b) = some (T4_2 b) := by cases b; exact eqC_is s4_1_false; exact eqC_is s4_1_true
theorem s4_2_true : eqC (Nt.run [-4036653320055449708, 5897120461648011547] (T4_2 true)) (T4_3 true) = true := by kernel_rfl
theorem s4_2_false : eqC (Nt.run [-4036653320055449708, 5897120461648011547] (T4_2 false)) (T4_3 false) = true := by kernel_rfl
theorem s4_2 (b : Bool) : Nt.run [-4036653320055449708, 5897120461648011547] (T4_2 b) = some (T4_3 b) := by cases b; exact eqC_is s4_2_false; exact eqC_is s4_2_true
theorem r4_3 (b : Bool) : Nt.run [] (T4_3 b) = some (T4_3 b) := rfl
theorem r4_2 (b : Bool) : Nt.run [-4036653320055449708, 5897120461648011547] (T4_2 b) = some (T4_3 b) := run_app (s4_2 b) (r4_3 b)
theorem r4_1 (b : Bool) : Nt.run [8189856925240824664, -7649420596463976355, -7426779196126117489, 3796176535257080355, -3674758447004149557, -4255453644681420661, -4036653320055449708, 5897120461648011547] (T4_1 b) = some (T4_3 b) := run_app (s4_1 b) (r4_2 b)
theorem r4_0 (b : Bool) : Nt.run [8203820493126157775, -7568610481538678015, 8492597879184952161, 6384666629989678863, 8106194553103937747, 4664087542628982029, 8189856925240824664, -7649420596463976355, -7426779196126117489, 3796176535257080355, -3674758447004149557, -4255453644681420661, -4036653320055449708, 5897120461648011547] (T4_0 b) = some (T4_3 b) := run_app (s4_0 b) (r4_1 b)
theorem e4 (b : Bool) : Nt.endOk Z4.length (Nt.run Z4 (.fresh 0 0 b, [])) = true := by
  have h : Nt.run Z4 (.fresh 0 0 b, []) = some (T4_3 b) := r4_0 b
  rw [h]
  cases b <;> kernel_rfl
theorem cS_4 : Nt.allNew Z4 = true := and_i (e4 true) (e4 false)
def T5_0 (b : Bool) : SetTable × List Int := (⟨7, #[], #[], 0, b, 0, true⟩, [])
def T5_1 (b : Bool) : SetTable × List Int := (⟨31, #[1, 5, 17, 24, 29, 30], #[], 0, b, 1, true⟩, [-6160749029144618623, -40863723045991611, 3038625137313051569, -245978736967899080, -789885199242918563, 4135970141718370334])
def T5_2 (b : Bool) : SetTable × List Int := (⟨31, #[1, 5, 10, 11, 15, 17, 19, 20, 24, 26, 29, 30], #[], 0, b, 1, true⟩, [-6160749029144618623, -40863723045991611, 42798649090895306, 7957145165378927275, 2650265201095645903, 3038625137313051569, -4534330685227186349, -1141574193546462412, -245978736967899080, -4312899744991159240, -789885199242918563, 4135970141718370334])
def T5_3 (b : Bool) : SetTable × List Int := (⟨31, #[1, 4, 5, 6, 7, 8, 10, 11, 15, 17, 19, 20, 21, 22, 24, 26, 29, 30], #[], 0, b, 1, true⟩, [-6160749029144618623, -7968803157555348284, -40863723045991611, 4612642529798601668, 5229467384623698525, -4450668313090299432, 42798649090895306, 7957145165378927275, 2650265201095645903, 3038625137313051569, -4534330685227186349, -1141574193546462412, -3316850775265387180, -3785711687465074826, -245978736967899080, -4312899744991159240, -789885199242918563, 4135970141718370334])
def T5_4 (b : Bool) : SetTable × List Int := (⟨127, #[1, 4, 17, 28, 30, 43, 45, 49, 52, 56, 57, 68, 69, 70, 71, 74, 79, 83, 84, 88, 93, 94, 100, 118], #[], 0, b, 2, true⟩, [-6160749029144618623, 1034098451106924292, 6065354386661140753, 1669216993008327580, 4135970141718370334, 7957145165378927275, -7634785264166825299, 3038625137313051569, -1141574193546462412, -245978736967899080, -4312899744991159240, -7968803157555348284, -40863723045991611, 4612642529798601668, 6745881630135886534, 42798649090895306, 2650265201095645903, -4534330685227186349, -3316850775265387180, -4450668313090299432, 5229467384623698525, -789885199242918563, 1188078663157753444, -3785711687465074826])
def T5_5 (b : Bool) : SetTable × List Int := (⟨127, #[1, 4, 14, 17, 20, 28, 30, 43, 45, 49, 52, 53, 56, 57, 58, 65, 68, 69, 70, 71, 74, 79, 83, 84, 88, 93, 94, 100, 118, 126], #[], 0, b, 2, true⟩, [-6160749029144618623, 1034098451106924292, -4242028772486101362, 6065354386661140753, 1769565515322977812, 1669216993008327580, 4135970141718370334, 7957145165378927275, -7634785264166825299, 3038625137313051569, -1141574193546462412, 6322186396611345204, -245978736967899080, -4312899744991159240, 8929652948616095801, 992348049850281665, -7968803157555348284, -40863723045991611, 4612642529798601668, 6745881630135886534, 42798649090895306, 2650265201095645903, -4534330685227186349, -3316850775265387180, -4450668313090299432, 5229467384623698525, -789885199242918563, 1188078663157753444, -3785711687465074826, -7603576017643177218])
def T5_6 (b : Bool) : SetTable × List Int := (⟨127, #[1, 4, 12, 14, 17, 20, 28, 30, 43, 45, 49, 52, 53, 56, 57, 58, 64, 65, 68, 69, 70, 71, 74, 79, 80, 83, 84, 88, 89, 93, 94, 95, 100, 118, 124, 126], #[], 0, b, 2, true⟩, [-6160749029144618623, 1034098451106924292, -1727271575174305268, -4242028772486101362, 6065354386661140753, 1769565515322977812, 1669216993008327580, 4135970141718370334, 7957145165378927275, -7634785264166825299, 3038625137313051569, -1141574193546462412, 6322186396611345204, -245978736967899080, -4312899744991159240, 8929652948616095801, -7633419334760122304, 992348049850281665, -7968803157555348284, -40863723045991611, 4612642529798601668, 6745881630135886534, 42798649090895306, 2650265201095645903, 3272293113811265743, -4534330685227186349, -3316850775265387180, -4450668313090299432, 8135774028599478745, 5229467384623698525, -789885199242918563, -325184957796747170, 1188078663157753444, -3785711687465074826, -6527915657073787012, -7603576017643177218])
def T5_7 (b : Bool) : SetTable × List Int := (⟨127, #[1, 2, 4, 12, 13, 14, 17, 20, 28, 30, 33, 43, 45, 49, 50, 52, 53, 56, 57, 58, 59, 64, 65, 68, 69, 70, 71, 74, 79, 80, 83, 84, 88, 89, 93, 94, 95, 100, 118, 124, 125, 126], #[], 0, b, 2, true⟩, [-6160749029144618623, 7650451737026937986, 1034098451106924292, -1727271575174305268, 3870509441713909004, -4242028772486101362, 6065354386661140753, 1769565515322977812, 1669216993008327580, 4135970141718370334, 2970775157595387041, 7957145165378927275, -7634785264166825299, 3038625137313051569, 1800693471872377265, -1141574193546462412, 6322186396611345204, -245978736967899080, -4312899744991159240, 8929652948616095801, -869347361025822534, -7633419334760122304, 992348049850281665, -7968803157555348284, -40863723045991611, 4612642529798601668, 6745881630135886534, 42798649090895306, 2650265201095645903, 3272293113811265743, -4534330685227186349, -3316850775265387180, -4450668313090299432, 8135774028599478745, 5229467384623698525, -789885199242918563, -325184957796747170, 1188078663157753444, -3785711687465074826, -6527915657073787012, 6916173354922913149, -7603576017643177218])
theorem s5_0_true : eqC (Nt.run [4135970141718370334, -245978736967899080, 3038625137313051569, -6160749029144618623, -40863723045991611, -789885199242918563] (T5_0 true)) (T5_1 true) = true := by kernel_rfl
theorem s5_0_false : eqC (Nt.run [4135970141718370334, -245978736967899080, 3038625137313051569, -6160749029144618623, -40863723045991611, -789885199242918563] (T5_0 false)) (T5_1 false) = true := by kernel_rfl
theorem s5_0 (b : Bool) : Nt.run [4135970141718370334, -245978736967899080, 3038625137313051569, -6160749029144618623, -40863723045991611, -789885199242918563] (T5_0 b) = some (T5_1 b) := by cases b; exact eqC_is s5_0_false; exact eqC_is s5_0_true
theorem s5_1_true : eqC (Nt.run [42798649090895306, 2650265201095645903, -4312899744991159240, -4534330685227186349, 7957145165378927275, -1141574193546462412] (T5_1 true)) (T5_2 true) = true := by kernel_rfl
theorem s5_1_false : eqC (Nt.run [42798649090895306, 2650265201095645903, -4312899744991159240, -4534330685227186349, 7957145165378927275, -1141574193546462412] (T5_1 false)) (T5_2 false) = true := by kernel_rfl
theorem s5_1 (b : Bool) : Nt.run [42798649090895306, 2650265201095645903, -4312899744991159240, -4534330685227186349, 7957145165378927275, -1141574193546462412] (T5_1 b) = some (T5_2 b) := by cases b; exact eqC_is s5_1_false; exact eqC_is s5_1_true
theorem s5_2_true : eqC (Nt.run [-7968803157555348284, 4612642529798601668, -3316850775265387180, -3785711687465074826, 5229467384623698525, -4450668313090299432] (T5_2 true)) (T5_3 true) = true := by kernel_rfl
theorem s5_2_false : eqC (Nt.run [-7968803157555348284, 4612642529798601668, -3316850775265387180, -3785711687465074826, 5229467384623698525, -4450668313090299432] (T5_2 false)) (T5_3 false) = true := by kernel_rfl
theorem s5_2 (b : Bool) : Nt.run [-7968803157555348284, 4612642529798601668, -3316850775265387180, -3785711687465074826, 5229467384623698525, -4450668313090299432] (T5_2 b) = some (T5_3 b) := by cases b; exact eqC_is s5_2_false; exact eqC_is s5_2_true
theorem s5_3_true : eqC (Nt.run [1669216993008327580, 1188078663157753444, 6745881630135886534, 1034098451106924292, 6065354386661140753, -7634785264166825299] (T5_3 true)) (T5_4 true) = true := by kernel_rfl
theorem s5_3_false : eqC (Nt.run [1669216993008327580, 1188078663157753444, 6745881630135886534, 1034098451106924292, 6065354386661140753, -7634785264166825299] (T5_3 false)) (T5_4 false) = true := by kernel_rfl
theorem s5_3 (b : Bool) : Nt.run [1669216993008327580, 1188078663157753444, 6745881630135886534, 1034098451106924292, 6065354386661140753, -7634785264166825299] (T5_3 b) = some (T5_4 b) := by cases b; exact eqC_is s5_3_false; exact eqC_is s5_3_true
theorem s5_4_true : eqC (Nt.run [8929652948616095801, -4242028772486101362, 1769565515322977812, 992348049850281665, -7603576017643177218, 6322186396611345204] (T5_4 true)) (T5_5 true) = true := by kernel_rfl
theorem s5_4_false : eqC (Nt.run [8929652948616095801, -4242028772486101362, 1769565515322977812, 992348049850281665, -7603576017643177218, 6322186396611345204] (T5_4 false)) (T5_5 false) = true := by kernel_rfl
theorem s5_4 (b : Bool) : Nt.run [8929652948616095801, -4242028772486101362, 1769565515322977812, 992348049850281665, -7603576017643177218, 6322186396611345204] (T5_4 b) = some (T5_5 b) := by cases b; exact eqC_is s5_4_false; exact eqC_is s5_4_true
theorem s5_5_true : eqC (Nt.run [-7633419334760122304, -6527915657073787012, 3272293113811265743, 8135774028599478745, -325184957796747170, -1727271575174305268] (T5_5 true)) (T5_6 true) = true := by kernel_rfl
theorem s5_5_false : eqC (Nt.run [-7633419334760122304, -6527915657073787012, 3272293113811265743, 8135774028599478745, -325184957796747170, -1727271575174305268] (T5_5 false)) (T5_6 false) = true := by kernel_rfl
theorem s5_5 (b : Bool) : Nt.run [-7633419334760122304, -6527915657073787012, 3272293113811265743, 8135774028599478745, -325184957796747170, -1727271575174305268] (T5_5 b) = some (T5_6 b) := by cases b; exact eqC_is s5_5_false; exact eqC_is s5_5_true
theorem s5_6_true : eqC (Nt.run [3870509441713909004, 7650451737026937986, 6916173354922913149, 1800693471872377265, 2970775157595387041, -869347361025822534] (T5_6 true)) (T5_7 true) = true := by kernel_rfl
theorem s5_6_false : eqC (Nt.run [3870509441713909004, 7650451737026937986, 6916173354922913149, 1800693471872377265, 2970775157595387041, -869347361025822534] (T5_6 false)) (T5_7 false) = true := by kernel_rfl
theorem s5_6 (b : Bool) : Nt.run [3870509441713909004, 7650451737026937986, 6916173354922913149, 1800693471872377265, 2970775157595387041, -869347361025822534] (T5_6 b) = some (T5_7 b) := by cases b; exact eqC_is s5_6_false; exact eqC_is s5_6_true
theorem r5_7 (b : Bool) : Nt.run [] (T5_7 b) = some (T5_7 b) := rfl
theorem r5_6 (b : Bool) : Nt.run [3870509441713909004, 7650451737026937986, 6916173354922913149, 1800693471872377265, 2970775157595387041, -869347361025822534] (T5_6 b) = some (T5_7 b) := run_app (s5_6 b) (r5_7 b)
theorem r5_5 (b : Bool) : Nt.run [-7633419334760122304, -6527915657073787012, 3272293113811265743, 8135774028599478745, -325184957796747170, -1727271575174305268, 3870509441713909004, 7650451737026937986, 6916173354922913149, 1800693471872377265, 2970775157595387041, -869347361025822534] (T5_5 b) = some (T5_7 b) := run_app (s5_5 b) (r5_6 b)
theorem r5_4 (b : Bool) : Nt.run [8929652948616095801, -4242028772486101362, 1769565515322977812, 992348049850281665, -7603576017643177218, 6322186396611345204, -7633419334760122304, -6527915657073787012, 3272293113811265743, 8135774028599478745, -325184957796747170, -1727271575174305268, 3870509441713909004, 7650451737026937986, 6916173354922913149, 1800693471872377265, 2970775157595387041, -869347361025822534] (T5_4 b) = some (T5_7 b) := run_app (s5_4 b) (r5_5 b)
theorem r5_3 (b : Bool) : Nt.run [1669216993008327580, 1188078663157753444, 6745881630135886534, 1034098451106924292, 6065354386661140753, -7634785264166825299, 8929652948616095801, -4242028772486101362, 1769565515322977812, 992348049850281665, -7603576017643177218, 6322186396611345204, -7633419334760122304, -6527915657073787012, 3272293113811265743, 8135774028599478745, -325184957796747170, -1727271575174305268, 3870509441713909004, 7650451737026937986, 6916173354922913149, 1800693471872377265, 2970775157595387041, -869347361025822534] (T5_3 b) = some (T5_7 b) := run_app (s5_3 b) (r5_4 b)
theorem r5_2 (b : Bool) : Nt.run [-7968803157555348284, 4612642529798601668, -3316850775265387180, -3785711687465074826, 5229467384623698525, -4450668313090299432, 1669216993008327580, 1188078663157753444, 6745881630135886534, 1034098451106924292, 6065354386661140753, -7634785264166825299, 8929652948616095801, -4242028772486101362, 1769565515322977812, 992348049850281665, -7603576017643177218, 6322186396611345204, -7633419334760122304, -6527915657073787012, 3272293113811265743, 8135774028599478745, -325184957796747170, -1727271575174305268, 3870509441713909004, 7650451737026937986, 6916173354922913149, 1800693471872377265, 2970775157595387041, -869347361025822534] (T5_2 b) = some (T5_7 b) := run_app (s5_2 b) (r5_3 b)
theorem r5_1 (b : Bool) : Nt.run [42798649090895306, 2650265201095645903, -4312899744991159240, -4534330685227186349, 7957145165378927275, -1141574193546462412, -7968803157555348284, 4612642529798601668, -3316850775265387180, -3785711687465074826, 5229467384623698525, -4450668313090299432, 1669216993008327580, 1188078663157753444, 6745881630135886534, 1034098451106924292, 6065354386661140753, -7634785264166825299, 8929652948616095801, -4242028772486101362, 1769565515322977812, 992348049850281665, -7603576017643177218, 6322186396611345204, -7633419334760122304, -6527915657073787012, 3272293113811265743, 8135774028599478745, -325184957796747170, -1727271575174305268, 3870509441713909004, 7650451737026937986, 6916173354922913149, 1800693471872377265, 2970775157595387041, -869347361025822534] (T5_1 b) = some (T5_7 b) := run_app (s5_1 b) (r5_2 b)
theorem r5_0 (b : Bool) : Nt.run [4135970141718370334, -245978736967899080, 3038625137313051569, -6160749029144618623, -40863723045991611, -789885199242918563, 42798649090895306, 2650265201095645903, -4312899744991159240, -4534330685227186349, 7957145165378927275, -1141574193546462412, -7968803157555348284, 4612642529798601668, -3316850775265387180, -3785711687465074826, 5229467384623698525, -4450668313090299432, 1669216993008327580, 1188078663157753444, 6745881630135886534, 1034098451106924292, 6065354386661140753, -7634785264166825299, 8929652948616095801, -4242028772486101362, 1769565515322977812, 992348049850281665, -7603576017643177218, 6322186396611345204, -7633419334760122304, -6527915657073787012, 3272293113811265743, 8135774028599478745, -325184957796747170, -1727271575174305268, 3870509441713909004, 7650451737026937986, 6916173354922913149, 1800693471872377265, 2970775157595387041, -869347361025822534] (T5_0 b) = some (T5_7 b) := run_app (s5_0 b) (r5_1 b)
theorem e5 (b : Bool) : Nt.endOk Z5.length (Nt.run Z5 (.fresh 0 0 b, [])) = true := by
  have h : Nt.run Z5 (.fresh 0 0 b, []) = some (T5_7 b) := r5_0 b
  rw [h]
  cases b <;> kernel_rfl
theorem cS_5 : Nt.allNew Z5 = true := and_i (e5 true) (e5 false)
def T6_0 (b : Bool) : SetTable × List Int := (⟨7, #[], #[], 0, b, 0, true⟩, [])
def T6_1 (b : Bool) : SetTable × List Int := (⟨31, #[3, 6, 7, 8, 9, 24], #[], 0, b, 1, true⟩, [235738732889930499, -2543839907889301562, 84528294608681607, -2301007418377239833, -2027804347301077785, 5560240098410528440])
def T6_2 (b : Bool) : SetTable × List Int := (⟨31, #[3, 5, 6, 7, 8, 9, 10, 13, 17, 20, 24, 26], #[], 0, b, 1, true⟩, [235738732889930499, 5765355112332435909, -2543839907889301562, 84528294608681607, -2301007418377239833, -2027804347301077785, 4759754221028791718, 7325225040015936141, -1059243236066393807, -4499184978583299980, 5560240098410528440, -1012816709796637158])
def T6_3 (b : Bool) : SetTable × List Int := (⟨31, #[3, 5, 6, 7, 8, 9, 10, 11, 12, 13, 14, 15, 17, 20, 22, 24, 26, 29], #[], 0, b, 1, true⟩, [235738732889930499, 5765355112332435909, -2543839907889301562, 84528294608681607, -2301007418377239833, -2027804347301077785, 4759754221028791718, -4841327046352607290, -7226862759338528730, 7325225040015936141, 5849017484469322826, -5070805483911770179, -1059243236066393807, -4499184978583299980, 2330882640004273974, 5560240098410528440, -1012816709796637158, 7866299038723367101])
def T6_4 (b : Bool) : SetTable × List Int := (⟨127, #[3, 7, 8, 13, 14, 26, 38, 39, 49, 52, 54, 56, 57, 61, 62, 65, 69, 70, 71, 74, 86, 103, 104, 116], #[], 0, b, 2, true⟩, [235738732889930499, 84528294608681607, 5174246673661628679, 7325225040015936141, -6477841283141601778, -1012816709796637158, 4759754221028791718, -7226862759338528730, -1059243236066393807, 132463304270220980, 2330882640004273974, 5560240098410528440, -1401176646014042824, -5070805483911770179, 7866299038723367101, 2133204549161242177, 5765355112332435909, -2543839907889301562, -4841327046352607290, 5849017484469322826, -4520905813031867050, -2301007418377239833, -2027804347301077785, -4499184978583299980])
def T6_5 (b : Bool) : SetTable × List Int := (⟨127, #[3, 7, 8, 13, 14, 20, 25, 26, 38, 39, 49, 52, 54, 56, 57, 61, 62, 63, 65, 68, 69, 70, 71, 74, 86, 103, 104, 113, 114, 116], #[], 0, b, 2, true⟩, [235738732889930499, 84528294608681607, 5174246673661628679, 7325225040015936141, -6477841283141601778, 3905703318269238548, 6513169870273989145, -1012816709796637158, 4759754221028791718, -7226862759338528730, -1059243236066393807, 132463304270220980, 2330882640004273974, 5560240098410528440, -1401176646014042824, -5070805483911770179, 7866299038723367101, 5874208080739183550, 2133204549161242177, -2162584322176920764, 5765355112332435909, -2543839907889301562, -4841327046352607290, 5849017484469322826, -4520905813031867050, -2301007418377239833, -2027804347301077785, -2939801787649616911, 2292915454888611185, -4499184978583299980])
def T6_6 (b : Bool) : SetTable × List Int := (⟨127, #[3, 7, 8, 13, 14, 15, 20, 25, 26, 37, 38, 39, 49, 52, 53, 54, 56, 57, 61, 62, 63, 65, 68, 69, 70, 71, 74, 75, 76, 86, 103, 104, 113, 114, 116, 120], #[], 0, b, 2, true⟩, [235738732889930499, 84528294608681607, 5174246673661628679, 7325225040015936141, -6477841283141601778, -8655692178281013874, 3905703318269238548, 6513169870273989145, -1012816709796637158, -7812393588923196891, 4759754221028791718, -7226862759338528730, -1059243236066393807, 132463304270220980, -3011749507023715147, 2330882640004273974, 5560240098410528440, -1401176646014042824, -5070805483911770179, 7866299038723367101, 5874208080739183550, 2133204549161242177, -2162584322176920764, 5765355112332435909, -2543839907889301562, -4841327046352607290, 5849017484469322826, 3509086289884908746, -4409641630534818741, -4520905813031867050, -2301007418377239833, -2027804347301077785, -2939801787649616911, 2292915454888611185, -4499184978583299980, 6386172564946223992])
def T6_7 (b : Bool) : SetTable × List Int := (⟨127, #[3, 7, 8, 13, 14, 15, 20, 25, 26, 37, 38, 39, 40, 49, 52, 53, 54, 55, 56, 57, 61, 62, 63, 65, 68, 69, 70, 71, 74, 75, 76, 77, 86, 90, 99, 103, 104, 113, 114, 116, 120, 122], #[], 0, b, 2, true⟩, [235738732889930499, 84528294608681607, 5174246673661628679, 7325225040015936141, -6477841283141601778, -8655692178281013874, 3905703318269238548, 6513169870273989145, -1012816709796637158, -7812393588923196891, 4759754221028791718, -7226862759338528730, 5631695423073503270, -1059243236066393807, 132463304270220980, -3011749507023715147, 2330882640004273974, 6984388892848867253, 5560240098410528440, -1401176646014042824, -5070805483911770179, 7866299038723367101, 5874208080739183550, 2133204549161242177, -2162584322176920764, 5765355112332435909, -2543839907889301562, -4841327046352607290, 5849017484469322826, 3509086289884908746, -4409641630534818741, 6084654608730345290, -4520905813031867050, 4914572923007335514, -2153825292875232413, -2301007418377239833, -2027804347301077785, -2939801787649616911, 2292915454888611185, -4499184978583299980, 6386172564946223992, 6076788485770240122])
def T6_8 (b : Bool) : SetTable × List Int := (⟨127, #[3, 7, 8, 13, 14, 15, 20, 25, 26, 36, 37, 38, 39, 40, 49, 52, 53, 54, 55, 56, 57, 61, 62, 63, 64, 65, 66, 67, 68, 69, 70, 71, 74, 75, 76, 77, 86, 90, 99, 103, 104, 108, 113, 114, 116, 118, 120, 122], #[], 0, b, 2, true⟩, [235738732889930499, 84528294608681607, 5174246673661628679, 7325225040015936141, -6477841283141601778, -8655692178281013874, 3905703318269238548, 6513169870273989145, -1012816709796637158, 1646886449713697444, -7812393588923196891, 4759754221028791718, -7226862759338528730, 5631695423073503270, -1059243236066393807, 132463304270220980, -3011749507023715147, 2330882640004273974, 6984388892848867253, 5560240098410528440, -1401176646014042824, -5070805483911770179, 7866299038723367101, 5874208080739183550, 6680094068350107581, 2133204549161242177, -3303994217607245247, 3977913688162645183, -2162584322176920764, 5765355112332435909, -2543839907889301562, -4841327046352607290, 5849017484469322826, 3509086289884908746, -4409641630534818741, 6084654608730345290, -4520905813031867050, 4914572923007335514, -2153825292875232413, -2301007418377239833, -2027804347301077785, -3646414498081027604, -2939801787649616911, 2292915454888611185, -4499184978583299980, 2020507147913352694, 6386172564946223992, 6076788485770240122])
def T6_9 (b : Bool) : SetTable × List Int := (⟨127, #[3, 7, 8, 9, 13, 14, 15, 20, 25, 26, 28, 36, 37, 38, 39, 40, 49, 50, 52, 53, 54, 55, 56, 57, 61, 62, 63, 64, 65, 66, 67, 68, 69, 70, 71, 72, 74, 75, 76, 77, 78, 86, 90, 99, 103, 104, 108, 113, 114, 116, 118, 120, 122, 125], #[], 0, b, 2, true⟩, [235738732889930499, 84528294608681607, 5174246673661628679, -3747519902996442744, 7325225040015936141, -6477841283141601778, -8655692178281013874, 3905703318269238548, 6513169870273989145, -1012816709796637158, 7475435828386755100, 1646886449713697444, -7812393588923196891, 4759754221028791718, -7226862759338528730, 5631695423073503270, -1059243236066393807, -8038917929080475726, 132463304270220980, -3011749507023715147, 2330882640004273974, 6984388892848867253, 5560240098410528440, -1401176646014042824, -5070805483911770179, 7866299038723367101, 5874208080739183550, 6680094068350107581, 2133204549161242177, -3303994217607245247, 3977913688162645183, -2162584322176920764, 5765355112332435909, -2543839907889301562, -4841327046352607290, 1178025537514009798, 5849017484469322826, 3509086289884908746, -4409641630534818741, 6084654608730345290, 3785492089518760395, -4520905813031867050, 4914572923007335514, -2153825292875232413, -2301007418377239833, -2027804347301077785, -3646414498081027604, -2939801787649616911, 2292915454888611185, -4499184978583299980, 2020507147913352694, 6386172564946223992, 6076788485770240122, 6469834937083110909])
def T6_10 (b : Bool) : SetTable × List Int := (⟨127, #[3, 7, 8, 9, 10, 13, 14, 15, 16, 20, 21, 25, 26, 28, 36, 37, 38, 39, 40, 41, 49, 50, 52, 53, 54, 55, 56, 57, 61, 62, 63, 64, 65, 66, 67, 68, 69, 70, 71, 72, 73, 74, 75, 76, 77, 78, 79, 86, 90, 99, 103, 104, 108, 113, 114, 116, 118, 120, 122, 125], #[], 0, b, 2, true⟩, [235738732889930499, 84528294608681607, 5174246673661628679, -3747519902996442744, -6435786387380814200, 7325225040015936141, -6477841283141601778, -8655692178281013874, -357394026925774963, 3905703318269238548, -8870364318931865324, 6513169870273989145, -1012816709796637158, 7475435828386755100, 1646886449713697444, -7812393588923196891, 4759754221028791718, -7226862759338528730, 5631695423073503270, -5894643608195237562, -1059243236066393807, -8038917929080475726, 132463304270220980, -3011749507023715147, 2330882640004273974, 6984388892848867253, 5560240098410528440, -1401176646014042824, -5070805483911770179, 7866299038723367101, 5874208080739183550, 6680094068350107581, 2133204549161242177, -3303994217607245247, 3977913688162645183, -2162584322176920764, 5765355112332435909, -2543839907889301562, -4841327046352607290, 1178025537514009798, 421240690329015366, 5849017484469322826, 3509086289884908746, -4409641630534818741, 6084654608730345290, 3785492089518760395, -2863363183951935283, -4520905813031867050, 4914572923007335514, -2153825292875232413, -2301007418377239833, -2027804347301077785, -3646414498081027604, -2939801787649616911, 2292915454888611185, -4499184978583299980, 2020507147913352694, 6386172564946223992, 6076788485770240122, 6469834937083110909])
def T6_11 (b : Bool) : SetTable × List Int := (⟨127, #[3, 7, 8, 9, 10, 11, 12, 13, 14, 15, 16, 20, 21, 25, 26, 28, 36, 37, 38, 39, 40, 41, 49, 50, 52, 53, 54, 55, 56, 57, 61, 62, 63, 64, 65, 66, 67, 68, 69, 70, 71, 72, 73, 74, 75, 76, 77, 78, 79, 80, 85, 86, 90, 99, 100, 103, 104, 108, 109, 113, 114, 116, 118, 120, 122, 125], #[], 0, b, 2, true⟩, [235738732889930499, 84528294608681607, 5174246673661628679, -3747519902996442744, -6435786387380814200, -4173115685080978678, -1615458154959455861, 7325225040015936141, -6477841283141601778, -8655692178281013874, -357394026925774963, 3905703318269238548, -8870364318931865324, 6513169870273989145, -1012816709796637158, 7475435828386755100, 1646886449713697444, -7812393588923196891, 4759754221028791718, -7226862759338528730, 5631695423073503270, -5894643608195237562, -1059243236066393807, -8038917929080475726, 132463304270220980, -3011749507023715147, 2330882640004273974, 6984388892848867253, 5560240098410528440, -1401176646014042824, -5070805483911770179, 7866299038723367101, 5874208080739183550, 6680094068350107581, 2133204549161242177, -3303994217607245247, 3977913688162645183, -2162584322176920764, 5765355112332435909, -2543839907889301562, -4841327046352607290, 1178025537514009798, 421240690329015366, 5849017484469322826, 3509086289884908746, -4409641630534818741, 6084654608730345290, 3785492089518760395, -2863363183951935283, 8686792741840686921, -455285545571356331, -4520905813031867050, 4914572923007335514, -2153825292875232413, -8626266151769696285, -2301007418377239833, -2027804347301077785, -3646414498081027604, -3017343396002764435, -2939801787649616911, 2292915454888611185, -4499184978583299980, 2020507147913352694, 6386172564946223992, 6076788485770240122, 6469834937083110909])
def T6_12 (b : Bool) : SetTable × List Int := (⟨127, #[3, 4, 7, 8, 9, 10, 11, 12, 13, 14, 15, 16, 17, 20, 21, 25, 26, 28, 34, 36, 37, 38, 39, 40, 41, 49, 50, 52, 53, 54, 55, 56, 57, 58, 61, 62, 63, 64, 65, 66, 67, 68, 69, 70, 71, 72, 73, 74, 75, 76, 77, 78, 79, 80, 81, 85, 86, 87, 90, 99, 100, 103, 104, 108, 109, 113, 114, 116, 118, 120, 122, 125], #[], 0, b, 2, true⟩, [235738732889930499, 2472713925416834500, 84528294608681607, 5174246673661628679, -3747519902996442744, -6435786387380814200, -4173115685080978678, -1615458154959455861, 7325225040015936141, -6477841283141601778, -8655692178281013874, -357394026925774963, -5625910463062582134, 3905703318269238548, -8870364318931865324, 6513169870273989145, -1012816709796637158, 7475435828386755100, 479853718522038946, 1646886449713697444, -7812393588923196891, 4759754221028791718, -7226862759338528730, 5631695423073503270, -5894643608195237562, -1059243236066393807, -8038917929080475726, 132463304270220980, -3011749507023715147, 2330882640004273974, 6984388892848867253, 5560240098410528440, -1401176646014042824, -7249194089463809738, -5070805483911770179, 7866299038723367101, 5874208080739183550, 6680094068350107581, 2133204549161242177, -3303994217607245247, 3977913688162645183, -2162584322176920764, 5765355112332435909, -2543839907889301562, -4841327046352607290, 1178025537514009798, 421240690329015366, 5849017484469322826, 3509086289884908746, -4409641630534818741, 6084654608730345290, 3785492089518760395, -2863363183951935283, 8686792741840686921, -6040256366589255861, -455285545571356331, -4520905813031867050, 7367159176595145813, 4914572923007335514, -2153825292875232413, -8626266151769696285, -2301007418377239833, -2027804347301077785, -3646414498081027604, -3017343396002764435, -2939801787649616911, 2292915454888611185, -4499184978583299980, 2020507147913352694, 6386172564946223992, 6076788485770240122, 6469834937083110909])
def T6_13 (b : Bool) : SetTable × List Int := (⟨511, #[14, 25, 26, 28, 36, 37, 38, 39, 65, 66, 70, 74, 75, 85, 90, 116, 122, 135, 136, 138, 141, 162, 164, 180, 181, 184, 189, 191, 198, 202, 205, 210, 231, 232, 233, 259, 263, 266, 276, 277, 305, 310, 311, 312, 315, 324, 326, 327, 329, 330, 331, 341, 342, 355, 365, 369, 376, 389, 392, 395, 397, 398, 422, 434, 437, 445, 446, 447, 452, 453, 454, 455, 459, 483, 492, 497, 502, 509], #[], 0, b, 3, true⟩, [-6477841283141601778, 6513169870273989145, -1012816709796637158, 7475435828386755100, 8911663099658056228, -7812393588923196891, -7226862759338528730, 5631695423073503270, 2133204549161242177, -3303994217607245247, 421240690329015366, 5849017484469322826, -4409641630534818741, 7367159176595145813, 4914572923007335514, -4499184978583299980, 6076788485770240122, 84528294608681607, -6435786387380814200, -5625910463062582134, 7325225040015936141, 479853718522038946, 1646886449713697444, 132463304270220980, -3011749507023715147, 5560240098410528440, 7866299038723367101, 3977913688162645183, 1178025537514009798, 3509086289884908746, -2863363183951935283, 3285717986006585042, -2301007418377239833, -2027804347301077785, 6690597316488898792, 235738732889930499, 5174246673661628679, -4173115685080978678, 3905703318269238548, -8870364318931865324, -1059243236066393807, 2330882640004273974, -7249194089463809738, -1401176646014042824, -4231636660467294405, -2162584322176920764, -5894643608195237562, 2293441350510172487, 8686792741840686921, 6084654608730345290, -6040256366589255861, -455285545571356331, -4520905813031867050, -2153825292875232413, -3017343396002764435, 2292915454888611185, 6386172564946223992, 284311063598970757, -3747519902996442744, -1615458154959455861, -357394026925774963, -8655692178281013874, 4759754221028791718, -8038917929080475726, 6984388892848867253, -5070805483911770179, 5874208080739183550, 6680094068350107581, 2472713925416834500, 5765355112332435909, -2543839907889301562, -4841327046352607290, 3785492089518760395, -8626266151769696285, -3646414498081027604, -2939801787649616911, 2020507147913352694, 6469834937083110909])
def T6_14 (b : Bool) : SetTable × List Int := (⟨511, #[14, 25, 26, 28, 36, 37, 38, 39, 65, 66, 70, 74, 75, 85, 90, 116, 122, 135, 136, 138, 141, 162, 164, 178, 180, 181, 184, 189, 191, 198, 202, 205, 210, 231, 232, 233, 259, 263, 266, 276, 277, 289, 298, 305, 310, 311, 312, 315, 324, 326, 327, 329, 330, 331, 341, 342, 345, 355, 365, 369, 376, 389, 392, 395, 397, 398, 422, 429, 434, 436, 437, 445, 446, 447, 452, 453, 454, 455, 459, 483, 492, 497, 502, 509], #[], 0, b, 3, true⟩, [-6477841283141601778, 6513169870273989145, -1012816709796637158, 7475435828386755100, 8911663099658056228, -7812393588923196891, -7226862759338528730, 5631695423073503270, 2133204549161242177, -3303994217607245247, 421240690329015366, 5849017484469322826, -4409641630534818741, 7367159176595145813, 4914572923007335514, -4499184978583299980, 6076788485770240122, 84528294608681607, -6435786387380814200, -5625910463062582134, 7325225040015936141, 479853718522038946, 1646886449713697444, 3364094412900547250, 132463304270220980, -3011749507023715147, 5560240098410528440, 7866299038723367101, 3977913688162645183, 1178025537514009798, 3509086289884908746, -2863363183951935283, 3285717986006585042, -2301007418377239833, -2027804347301077785, 6690597316488898792, 235738732889930499, 5174246673661628679, -4173115685080978678, 3905703318269238548, -8870364318931865324, 8776993992973814561, 3812276110645653290, -1059243236066393807, 2330882640004273974, -7249194089463809738, -1401176646014042824, -4231636660467294405, -2162584322176920764, -5894643608195237562, 2293441350510172487, 8686792741840686921, 6084654608730345290, -6040256366589255861, -455285545571356331, -4520905813031867050, 8877988104280847705, -2153825292875232413, -3017343396002764435, 2292915454888611185, 6386172564946223992, 284311063598970757, -3747519902996442744, -1615458154959455861, -357394026925774963, -8655692178281013874, 4759754221028791718, 5801550829136035757, -8038917929080475726, -6115711431424070220, 6984388892848867253, -5070805483911770179, 5874208080739183550, 6680094068350107581, 2472713925416834500, 5765355112332435909, -2543839907889301562, -4841327046352607290, 3785492089518760395, -8626266151769696285, -3646414498081027604, -2939801787649616911, 2020507147913352694, 6469834937083110909])
def T6_15 (b : Bool) : SetTable × List Int := (⟨511, #[14, 25, 26, 28, 29, 36, 37, 38, 39, 65, 66, 70, 74, 75, 77, 85, 90, 116, 122, 135, 136, 138, 141, 162, 164, 178, 180, 181, 184, 189, 191, 198, 202, 205, 210, 231, 232, 233, 259, 263, 266, 276, 277, 289, 298, 305, 310, 311, 312, 315, 324, 326, 327, 329, 330, 331, 341, 342, 345, 355, 359, 365, 369, 376, 377, 389, 392, 395, 397, 398, 422, 429, 434, 436, 437, 438, 445, 446, 447, 452, 453, 454, 455, 456, 459, 483, 492, 497, 502, 509], #[], 0, b, 3, true⟩, [-6477841283141601778, 6513169870273989145, -1012816709796637158, 7475435828386755100, 3480582342634222108, 8911663099658056228, -7812393588923196891, -7226862759338528730, 5631695423073503270, 2133204549161242177, -3303994217607245247, 421240690329015366, 5849017484469322826, -4409641630534818741, -2799649150276266419, 7367159176595145813, 4914572923007335514, -4499184978583299980, 6076788485770240122, 84528294608681607, -6435786387380814200, -5625910463062582134, 7325225040015936141, 479853718522038946, 1646886449713697444, 3364094412900547250, 132463304270220980, -3011749507023715147, 5560240098410528440, 7866299038723367101, 3977913688162645183, 1178025537514009798, 3509086289884908746, -2863363183951935283, 3285717986006585042, -2301007418377239833, -2027804347301077785, 6690597316488898792, 235738732889930499, 5174246673661628679, -4173115685080978678, 3905703318269238548, -8870364318931865324, 8776993992973814561, 3812276110645653290, -1059243236066393807, 2330882640004273974, -7249194089463809738, -1401176646014042824, -4231636660467294405, -2162584322176920764, -5894643608195237562, 2293441350510172487, 8686792741840686921, 6084654608730345290, -6040256366589255861, -455285545571356331, -4520905813031867050, 8877988104280847705, -2153825292875232413, 2393368825972317543, -3017343396002764435, 2292915454888611185, 6386172564946223992, -4596810918605520008, 284311063598970757, -3747519902996442744, -1615458154959455861, -357394026925774963, -8655692178281013874, 4759754221028791718, 5801550829136035757, -8038917929080475726, -6115711431424070220, 6984388892848867253, -6318338841719778892, -5070805483911770179, 5874208080739183550, 6680094068350107581, 2472713925416834500, 5765355112332435909, -2543839907889301562, -4841327046352607290, 7833112986396103, 3785492089518760395, -8626266151769696285, -3646414498081027604, -2939801787649616911, 2020507147913352694, 6469834937083110909])
def T6_16 (b : Bool) : SetTable × List Int := (⟨511, #[14, 25, 26, 28, 29, 36, 37, 38, 39, 65, 66, 70, 74, 75, 77, 85, 90, 116, 122, 135, 136, 138, 141, 162, 164, 168, 169, 178, 180, 181, 184, 189, 191, 198, 202, 205, 210, 231, 232, 233, 259, 263, 266, 276, 277, 289, 298, 305, 310, 311, 312, 315, 324, 326, 327, 329, 330, 331, 333, 341, 342, 345, 355, 359, 365, 369, 376, 377, 389, 392, 394, 395, 397, 398, 422, 429, 434, 436, 437, 438, 439, 445, 446, 447, 448, 452, 453, 454, 455, 456, 459, 483, 492, 497, 502, 509], #[], 0, b, 3, true⟩, [-6477841283141601778, 6513169870273989145, -1012816709796637158, 7475435828386755100, 3480582342634222108, 8911663099658056228, -7812393588923196891, -7226862759338528730, 5631695423073503270, 2133204549161242177, -3303994217607245247, 421240690329015366, 5849017484469322826, -4409641630534818741, -2799649150276266419, 7367159176595145813, 4914572923007335514, -4499184978583299980, 6076788485770240122, 84528294608681607, -6435786387380814200, -5625910463062582134, 7325225040015936141, 479853718522038946, 1646886449713697444, 8187223789704774824, 2363525508855372457, 3364094412900547250, 132463304270220980, -3011749507023715147, 5560240098410528440, 7866299038723367101, 3977913688162645183, 1178025537514009798, 3509086289884908746, -2863363183951935283, 3285717986006585042, -2301007418377239833, -2027804347301077785, 6690597316488898792, 235738732889930499, 5174246673661628679, -4173115685080978678, 3905703318269238548, -8870364318931865324, 8776993992973814561, 3812276110645653290, -1059243236066393807, 2330882640004273974, -7249194089463809738, -1401176646014042824, -4231636660467294405, -2162584322176920764, -5894643608195237562, 2293441350510172487, 8686792741840686921, 6084654608730345290, -6040256366589255861, 689319326636901197, -455285545571356331, -4520905813031867050, 8877988104280847705, -2153825292875232413, 2393368825972317543, -3017343396002764435, 2292915454888611185, 6386172564946223992, -4596810918605520008, 284311063598970757, -3747519902996442744, -8168872048566147190, -1615458154959455861, -357394026925774963, -8655692178281013874, 4759754221028791718, 5801550829136035757, -8038917929080475726, -6115711431424070220, 6984388892848867253, -6318338841719778892, -5287378050397800012, -5070805483911770179, 5874208080739183550, 6680094068350107581, 999831101418899392, 2472713925416834500, 5765355112332435909, -2543839907889301562, -4841327046352607290, 7833112986396103, 3785492089518760395, -8626266151769696285, -3646414498081027604, -2939801787649616911, 2020507147913352694, 6469834937083110909])
def T6_17 (b : Bool) : SetTable × List Int := (⟨511, #[14, 25, 26, 28, 29, 36, 37, 38, 39, 42, 55, 65, 66, 67, 70, 74, 75, 77, 85, 90, 116, 122, 135, 136, 138, 141, 162, 164, 168, 169, 178, 180, 181, 184, 189, 191, 192, 198, 202, 205, 210, 231, 232, 233, 251, 259, 263, 266, 276, 277, 289, 298, 305, 310, 311, 312, 315, 324, 326, 327, 329, 330, 331, 333, 341, 342, 345, 355, 359, 365, 369, 376, 377, 389, 392, 394, 395, 397, 398, 422, 429, 434, 436, 437, 438, 439, 445, 446, 447, 448, 449, 452, 453, 454, 455, 456, 459, 483, 492, 497, 502, 509], #[], 0, b, 3, true⟩, [-6477841283141601778, 6513169870273989145, -1012816709796637158, 7475435828386755100, 3480582342634222108, 8911663099658056228, -7812393588923196891, -7226862759338528730, 5631695423073503270, -6444910600198553046, 3499595945611353143, 2133204549161242177, -3303994217607245247, -314025201494578110, 421240690329015366, 5849017484469322826, -4409641630534818741, -2799649150276266419, 7367159176595145813, 4914572923007335514, -4499184978583299980, 6076788485770240122, 84528294608681607, -6435786387380814200, -5625910463062582134, 7325225040015936141, 479853718522038946, 1646886449713697444, 8187223789704774824, 2363525508855372457, 3364094412900547250, 132463304270220980, -3011749507023715147, 5560240098410528440, 7866299038723367101, 3977913688162645183, 5644039476861531328, 1178025537514009798, 3509086289884908746, -2863363183951935283, 3285717986006585042, -2301007418377239833, -2027804347301077785, 6690597316488898792, -7872866811925364485, 235738732889930499, 5174246673661628679, -4173115685080978678, 3905703318269238548, -8870364318931865324, 8776993992973814561, 3812276110645653290, -1059243236066393807, 2330882640004273974, -7249194089463809738, -1401176646014042824, -4231636660467294405, -2162584322176920764, -5894643608195237562, 2293441350510172487, 8686792741840686921, 6084654608730345290, -6040256366589255861, 689319326636901197, -455285545571356331, -4520905813031867050, 8877988104280847705, -2153825292875232413, 2393368825972317543, -3017343396002764435, 2292915454888611185, 6386172564946223992, -4596810918605520008, 284311063598970757, -3747519902996442744, -8168872048566147190, -1615458154959455861, -357394026925774963, -8655692178281013874, 4759754221028791718, 5801550829136035757, -8038917929080475726, -6115711431424070220, 6984388892848867253, -6318338841719778892, -5287378050397800012, -5070805483911770179, 5874208080739183550, 6680094068350107581, 999831101418899392, 4177098473490297792, 2472713925416834500, 5765355112332435909, -2543839907889301562, -4841327046352607290, 7833112986396103, 3785492089518760395, -8626266151769696285, -3646414498081027604, -2939801787649616911, 2020507147913352694, 6469834937083110909])
def T6_18 (b : Bool) : SetTable × List Int := (⟨511, #[14, 25, 26, 28, 29, 36, 37, 38, 39, 42, 55, 65, 66, 67, 70, 74, 75, 77, 85, 90, 116, 122, 135, 136, 138, 141, 162, 164, 168, 169, 178, 180, 181, 184, 189, 191, 192, 198, 202, 205, 210, 231, 232, 233, 251, 259, 263, 266, 276, 277, 289, 298, 305, 310, 311, 312, 313, 315, 324, 326, 327, 329, 330, 331, 333, 341, 342, 345, 355, 359, 365, 369, 376, 377, 380, 389, 392, 394, 395, 397, 398, 400, 422, 429, 434, 436, 437, 438, 439, 445, 446, 447, 448, 449, 452, 453, 454, 455, 456, 457, 458, 459, 483, 492, 497, 502, 503, 509], #[], 0, b, 3, true⟩, [-6477841283141601778, 6513169870273989145, -1012816709796637158, 7475435828386755100, 3480582342634222108, 8911663099658056228, -7812393588923196891, -7226862759338528730, 5631695423073503270, -6444910600198553046, 3499595945611353143, 2133204549161242177, -3303994217607245247, -314025201494578110, 421240690329015366, 5849017484469322826, -4409641630534818741, -2799649150276266419, 7367159176595145813, 4914572923007335514, -4499184978583299980, 6076788485770240122, 84528294608681607, -6435786387380814200, -5625910463062582134, 7325225040015936141, 479853718522038946, 1646886449713697444, 8187223789704774824, 2363525508855372457, 3364094412900547250, 132463304270220980, -3011749507023715147, 5560240098410528440, 7866299038723367101, 3977913688162645183, 5644039476861531328, 1178025537514009798, 3509086289884908746, -2863363183951935283, 3285717986006585042, -2301007418377239833, -2027804347301077785, 6690597316488898792, -7872866811925364485, 235738732889930499, 5174246673661628679, -4173115685080978678, 3905703318269238548, -8870364318931865324, 8776993992973814561, 3812276110645653290, -1059243236066393807, 2330882640004273974, -7249194089463809738, -1401176646014042824, -5445057546654120649, -4231636660467294405, -2162584322176920764, -5894643608195237562, 2293441350510172487, 8686792741840686921, 6084654608730345290, -6040256366589255861, 689319326636901197, -455285545571356331, -4520905813031867050, 8877988104280847705, -2153825292875232413, 2393368825972317543, -3017343396002764435, 2292915454888611185, 6386172564946223992, -4596810918605520008, -533191025837454980, 284311063598970757, -3747519902996442744, -8168872048566147190, -1615458154959455861, -357394026925774963, -8655692178281013874, 1014240138921014672, 4759754221028791718, 5801550829136035757, -8038917929080475726, -6115711431424070220, 6984388892848867253, -6318338841719778892, -5287378050397800012, -5070805483911770179, 5874208080739183550, 6680094068350107581, 999831101418899392, 4177098473490297792, 2472713925416834500, 5765355112332435909, -2543839907889301562, -4841327046352607290, 7833112986396103, -2824729285786065464, 3754104405995943876, 3785492089518760395, -8626266151769696285, -3646414498081027604, -2939801787649616911, 2020507147913352694, 3431766336458946038, 6469834937083110909])
def T6_19 (b : Bool) : SetTable × List Int := (⟨511, #[14, 25, 26, 28, 29, 36, 37, 38, 39, 42, 55, 65, 66, 67, 70, 74, 75, 76, 77, 85, 90, 116, 122, 135, 136, 138, 141, 146, 162, 164, 168, 169, 178, 180, 181, 184, 189, 191, 192, 198, 202, 205, 210, 231, 232, 233, 235, 251, 259, 263, 266, 276, 277, 289, 298, 305, 310, 311, 312, 313, 315, 324, 326, 327, 329, 330, 331, 333, 336, 341, 342, 345, 355, 359, 365, 369, 376, 377, 380, 389, 392, 394, 395, 397, 398, 400, 407, 422, 429, 431, 434, 436, 437, 438, 439, 445, 446, 447, 448, 449, 452, 453, 454, 455, 456, 457, 458, 459, 483, 492, 497, 502, 503, 509], #[], 0, b, 3, true⟩, [-6477841283141601778, 6513169870273989145, -1012816709796637158, 7475435828386755100, 3480582342634222108, 8911663099658056228, -7812393588923196891, -7226862759338528730, 5631695423073503270, -6444910600198553046, 3499595945611353143, 2133204549161242177, -3303994217607245247, -314025201494578110, 421240690329015366, 5849017484469322826, -4409641630534818741, 995010717509302858, -2799649150276266419, 7367159176595145813, 4914572923007335514, -4499184978583299980, 6076788485770240122, 84528294608681607, -6435786387380814200, -5625910463062582134, 7325225040015936141, 5342521520645652626, 479853718522038946, 1646886449713697444, 8187223789704774824, 2363525508855372457, 3364094412900547250, 132463304270220980, -3011749507023715147, 5560240098410528440, 7866299038723367101, 3977913688162645183, 5644039476861531328, 1178025537514009798, 3509086289884908746, -2863363183951935283, 3285717986006585042, -2301007418377239833, -2027804347301077785, 6690597316488898792, -799347493067118869, -7872866811925364485, 235738732889930499, 5174246673661628679, -4173115685080978678, 3905703318269238548, -8870364318931865324, 8776993992973814561, 3812276110645653290, -1059243236066393807, 2330882640004273974, -7249194089463809738, -1401176646014042824, -5445057546654120649, -4231636660467294405, -2162584322176920764, -5894643608195237562, 2293441350510172487, 8686792741840686921, 6084654608730345290, -6040256366589255861, 689319326636901197, -7600302031901964976, -455285545571356331, -4520905813031867050, 8877988104280847705, -2153825292875232413, 2393368825972317543, -3017343396002764435, 2292915454888611185, 6386172564946223992, -4596810918605520008, -533191025837454980, 284311063598970757, -3747519902996442744, -8168872048566147190, -1615458154959455861, -357394026925774963, -8655692178281013874, 1014240138921014672, -8984358296977235049, 4759754221028791718, 5801550829136035757, -598518465924646481, -8038917929080475726, -6115711431424070220, 6984388892848867253, -6318338841719778892, -5287378050397800012, -5070805483911770179, 5874208080739183550, 6680094068350107581, 999831101418899392, 4177098473490297792, 2472713925416834500, 5765355112332435909, -2543839907889301562, -4841327046352607290, 7833112986396103, -2824729285786065464, 3754104405995943876, 3785492089518760395, -8626266151769696285, -3646414498081027604, -2939801787649616911, 2020507147913352694, 3431766336458946038, 6469834937083110909])
def T6_20 (b : Bool) : SetTable × List Int := (⟨511, #[14, 25, 26, 28, 29, 30, 36, 37, 38, 39, 42, 53, 55, 65, 66, 67, 68, 70, 74, 75, 76, 77, 85, 90, 102, 116, 122, 135, 136, 138, 141, 146, 162, 164, 168, 169, 178, 180, 181, 184, 189, 191, 192, 198, 202, 205, 210, 231, 232, 233, 235, 251, 259, 263, 266, 276, 277, 289, 298, 305, 310, 311, 312, 313, 315, 319, 324, 326, 327, 329, 330, 331, 333, 336, 341, 342, 345, 355, 359, 365, 369, 376, 377, 380, 389, 392, 394, 395, 397, 398, 400, 407, 422, 429, 431, 434, 436, 437, 438, 439, 445, 446, 447, 448, 449, 450, 452, 453, 454, 455, 456, 457, 458, 459, 483, 492, 497, 502, 503, 509], #[], 0, b, 3, true⟩, [-6477841283141601778, 6513169870273989145, -1012816709796637158, 7475435828386755100, 3480582342634222108, -5132779940573575139, 8911663099658056228, -7812393588923196891, -7226862759338528730, 5631695423073503270, -6444910600198553046, 5121722104527473205, 3499595945611353143, 2133204549161242177, -3303994217607245247, -314025201494578110, 7024814589908968516, 421240690329015366, 5849017484469322826, -4409641630534818741, 995010717509302858, -2799649150276266419, 7367159176595145813, 4914572923007335514, 5773809594761744998, -4499184978583299980, 6076788485770240122, 84528294608681607, -6435786387380814200, -5625910463062582134, 7325225040015936141, 5342521520645652626, 479853718522038946, 1646886449713697444, 8187223789704774824, 2363525508855372457, 3364094412900547250, 132463304270220980, -3011749507023715147, 5560240098410528440, 7866299038723367101, 3977913688162645183, 5644039476861531328, 1178025537514009798, 3509086289884908746, -2863363183951935283, 3285717986006585042, -2301007418377239833, -2027804347301077785, 6690597316488898792, -799347493067118869, -7872866811925364485, 235738732889930499, 5174246673661628679, -4173115685080978678, 3905703318269238548, -8870364318931865324, 8776993992973814561, 3812276110645653290, -1059243236066393807, 2330882640004273974, -7249194089463809738, -1401176646014042824, -5445057546654120649, -4231636660467294405, -5442401751542183617, -2162584322176920764, -5894643608195237562, 2293441350510172487, 8686792741840686921, 6084654608730345290, -6040256366589255861, 689319326636901197, -7600302031901964976, -455285545571356331, -4520905813031867050, 8877988104280847705, -2153825292875232413, 2393368825972317543, -3017343396002764435, 2292915454888611185, 6386172564946223992, -4596810918605520008, -533191025837454980, 284311063598970757, -3747519902996442744, -8168872048566147190, -1615458154959455861, -357394026925774963, -8655692178281013874, 1014240138921014672, -8984358296977235049, 4759754221028791718, 5801550829136035757, -598518465924646481, -8038917929080475726, -6115711431424070220, 6984388892848867253, -6318338841719778892, -5287378050397800012, -5070805483911770179, 5874208080739183550, 6680094068350107581, 999831101418899392, 4177098473490297792, -4002823960293952063, 2472713925416834500, 5765355112332435909, -2543839907889301562, -4841327046352607290, 7833112986396103, -2824729285786065464, 3754104405995943876, 3785492089518760395, -8626266151769696285, -3646414498081027604, -2939801787649616911, 2020507147913352694, 3431766336458946038, 6469834937083110909])
def T6_21 (b : Bool) : SetTable × List Int := (⟨511, #[14, 17, 25, 26, 28, 29, 30, 36, 37, 38, 39, 42, 53, 54, 55, 64, 65, 66, 67, 68, 70, 74, 75, 76, 77, 85, 90, 102, 116, 122, 135, 136, 138, 141, 146, 162, 164, 168, 169, 171, 178, 180, 181, 184, 189, 191, 192, 198, 202, 205, 210, 231, 232, 233, 235, 251, 259, 263, 266, 276, 277, 280, 289, 298, 305, 310, 311, 312, 313, 315, 319, 324, 326, 327, 329, 330, 331, 333, 336, 341, 342, 345, 355, 359, 365, 369, 376, 377, 380, 389, 392, 394, 395, 397, 398, 400, 407, 422, 429, 431, 434, 436, 437, 438, 439, 445, 446, 447, 448, 449, 450, 452, 453, 454, 455, 456, 457, 458, 459, 460, 483, 492, 497, 502, 503, 509], #[], 0, b, 3, true⟩, [-6477841283141601778, 524124497958944785, 6513169870273989145, -1012816709796637158, 7475435828386755100, 3480582342634222108, -5132779940573575139, 8911663099658056228, -7812393588923196891, -7226862759338528730, 5631695423073503270, -6444910600198553046, 5121722104527473205, 7149174503279570998, 3499595945611353143, -3795692665078447040, 2133204549161242177, -3303994217607245247, -314025201494578110, 7024814589908968516, 421240690329015366, 5849017484469322826, -4409641630534818741, 995010717509302858, -2799649150276266419, 7367159176595145813, 4914572923007335514, 5773809594761744998, -4499184978583299980, 6076788485770240122, 84528294608681607, -6435786387380814200, -5625910463062582134, 7325225040015936141, 5342521520645652626, 479853718522038946, 1646886449713697444, 8187223789704774824, 2363525508855372457, -6599362416047294805, 3364094412900547250, 132463304270220980, -3011749507023715147, 5560240098410528440, 7866299038723367101, 3977913688162645183, 5644039476861531328, 1178025537514009798, 3509086289884908746, -2863363183951935283, 3285717986006585042, -2301007418377239833, -2027804347301077785, 6690597316488898792, -799347493067118869, -7872866811925364485, 235738732889930499, 5174246673661628679, -4173115685080978678, 3905703318269238548, -8870364318931865324, -4748238413347093736, 8776993992973814561, 3812276110645653290, -1059243236066393807, 2330882640004273974, -7249194089463809738, -1401176646014042824, -5445057546654120649, -4231636660467294405, -5442401751542183617, -2162584322176920764, -5894643608195237562, 2293441350510172487, 8686792741840686921, 6084654608730345290, -6040256366589255861, 689319326636901197, -7600302031901964976, -455285545571356331, -4520905813031867050, 8877988104280847705, -2153825292875232413, 2393368825972317543, -3017343396002764435, 2292915454888611185, 6386172564946223992, -4596810918605520008, -533191025837454980, 284311063598970757, -3747519902996442744, -8168872048566147190, -1615458154959455861, -357394026925774963, -8655692178281013874, 1014240138921014672, -8984358296977235049, 4759754221028791718, 5801550829136035757, -598518465924646481, -8038917929080475726, -6115711431424070220, 6984388892848867253, -6318338841719778892, -5287378050397800012, -5070805483911770179, 5874208080739183550, 6680094068350107581, 999831101418899392, 4177098473490297792, -4002823960293952063, 2472713925416834500, 5765355112332435909, -2543839907889301562, -4841327046352607290, 7833112986396103, -2824729285786065464, 3754104405995943876, 3785492089518760395, -8005492415624748088, -8626266151769696285, -3646414498081027604, -2939801787649616911, 2020507147913352694, 3431766336458946038, 6469834937083110909])
def T6_22 (b : Bool) : SetTable × List Int := (⟨511, #[7, 14, 17, 25, 26, 28, 29, 30, 36, 37, 38, 39, 40, 42, 53, 54, 55, 64, 65, 66, 67, 68, 70, 74, 75, 76, 77, 78, 85, 90, 102, 116, 122, 135, 136, 138, 141, 146, 162, 164, 168, 169, 171, 178, 180, 181, 184, 189, 191, 192, 198, 202, 203, 205, 210, 211, 231, 232, 233, 235, 251, 259, 263, 266, 270, 276, 277, 280, 289, 298, 305, 310, 311, 312, 313, 315, 319, 324, 326, 327, 329, 330, 331, 333, 336, 341, 342, 345, 355, 359, 365, 369, 376, 377, 380, 389, 392, 394, 395, 397, 398, 400, 407, 422, 429, 431, 434, 436, 437, 438, 439, 445, 446, 447, 448, 449, 450, 452, 453, 454, 455, 456, 457, 458, 459, 460, 483, 492, 497, 502, 503, 509], #[], 0, b, 3, true⟩, [-446549404724807673, -6477841283141601778, 524124497958944785, 6513169870273989145, -1012816709796637158, 7475435828386755100, 3480582342634222108, -5132779940573575139, 8911663099658056228, -7812393588923196891, -7226862759338528730, 5631695423073503270, 527124988929497636, -6444910600198553046, 5121722104527473205, 7149174503279570998, 3499595945611353143, -3795692665078447040, 2133204549161242177, -3303994217607245247, -314025201494578110, 7024814589908968516, 421240690329015366, 5849017484469322826, -4409641630534818741, 995010717509302858, -2799649150276266419, 4902193639059460174, 7367159176595145813, 4914572923007335514, 5773809594761744998, -4499184978583299980, 6076788485770240122, 84528294608681607, -6435786387380814200, -5625910463062582134, 7325225040015936141, 5342521520645652626, 479853718522038946, 1646886449713697444, 8187223789704774824, 2363525508855372457, -6599362416047294805, 3364094412900547250, 132463304270220980, -3011749507023715147, 5560240098410528440, 7866299038723367101, 3977913688162645183, 5644039476861531328, 1178025537514009798, 3509086289884908746, 117629005838913739, -2863363183951935283, 3285717986006585042, -1862571898043339054, -2301007418377239833, -2027804347301077785, 6690597316488898792, -799347493067118869, -7872866811925364485, 235738732889930499, 5174246673661628679, -4173115685080978678, -8763305577815332594, 3905703318269238548, -8870364318931865324, -4748238413347093736, 8776993992973814561, 3812276110645653290, -1059243236066393807, 2330882640004273974, -7249194089463809738, -1401176646014042824, -5445057546654120649, -4231636660467294405, -5442401751542183617, -2162584322176920764, -5894643608195237562, 2293441350510172487, 8686792741840686921, 6084654608730345290, -6040256366589255861, 689319326636901197, -7600302031901964976, -455285545571356331, -4520905813031867050, 8877988104280847705, -2153825292875232413, 2393368825972317543, -3017343396002764435, 2292915454888611185, 6386172564946223992, -4596810918605520008, -533191025837454980, 284311063598970757, -3747519902996442744, -8168872048566147190, -1615458154959455861, -357394026925774963, -8655692178281013874, 1014240138921014672, -8984358296977235049, 4759754221028791718, 5801550829136035757, -598518465924646481, -8038917929080475726, -6115711431424070220, 6984388892848867253, -6318338841719778892, -5287378050397800012, -5070805483911770179, 5874208080739183550, 6680094068350107581, 999831101418899392, 4177098473490297792, -4002823960293952063, 2472713925416834500, 5765355112332435909, -2543839907889301562, -4841327046352607290, 7833112986396103, -2824729285786065464, 3754104405995943876, 3785492089518760395, -8005492415624748088, -8626266151769696285, -3646414498081027604, -2939801787649616911, 2020507147913352694, 3431766336458946038, 6469834937083110909])
theorem s6_0_true : eqC (Nt.run [-2027804347301077785, 84528294608681607, -2301007418377239833, 5560240098410528440, 235738732889930499, -2543839907889301562] (T6_0 true)) (T6_1 true) = true := by kernel_rfl
theorem s6_0_false : eqC (Nt.run [-2027804347301077785, 84528294608681607, -2301007418377239833, 5560240098410528440, 235738732889930499, -2543839907889301562] (T6_0 false)) (T6_1 false) = true := by kernel_rfl
theorem s6_0 (b : Bool) : Nt.run [-2027804347301077785, 84528294608681607, -2301007418377239833, 5560240098410528440, 235738732889930499, -2543839907889301562] (T6_0 b) = some (T6_1 b) := by cases b; exact eqC_is s6_0_false; exact eqC_is s6_0_true
theorem s6_1_true : eqC (Nt.run [-1012816709796637158, 7325225040015936141, -1059243236066393807, 5765355112332435909, -4499184978583299980, 4759754221028791718] (T6_1 true)) (T6_2 true) = true := by kernel_rfl
theorem s6_1_false : eqC (Nt.run [-1012816709796637158, 7325225040015936141, -1059243236066393807, 5765355112332435909, -4499184978583299980, 4759754221028791718] (T6_1 false)) (T6_2 false) = true := by kernel_rfl
theorem s6_1 (b : Bool) : Nt.run [-1012816709796637158, 7325225040015936141, -1059243236066393807, 5765355112332435909, -4499184978583299980, 4759754221028791718] (T6_1 b) = some (T6_2 b) := by cases b; exact eqC_is s6_1_false; exact eqC_is s6_1_true
theorem s6_2_true : eqC (Nt.run [2330882640004273974, 7866299038723367101, -5070805483911770179, -4841327046352607290, -7226862759338528730, 5849017484469322826] (T6_2 true)) (T6_3 true) = true := by kernel_rfl
theorem s6_2_false : eqC (Nt.run [2330882640004273974, 7866299038723367101, -5070805483911770179, -4841327046352607290, -7226862759338528730, 5849017484469322826] (T6_2 false)) (T6_3 false) = true := by kernel_rfl
theorem s6_2 (b : Bool) : Nt.run [2330882640004273974, 7866299038723367101, -5070805483911770179, -4841327046352607290, -7226862759338528730, 5849017484469322826] (T6_2 b) = some (T6_3 b) := by cases b; exact eqC_is s6_2_false; exact eqC_is s6_2_true
theorem s6_3_true : eqC (Nt.run [-6477841283141601778, 132463304270220980, -1401176646014042824, 5174246673661628679, 2133204549161242177, -4520905813031867050] (T6_3 true)) (T6_4 true) = true := by kernel_rfl
theorem s6_3_false : eqC (Nt.run [-6477841283141601778, 132463304270220980, -1401176646014042824, 5174246673661628679, 2133204549161242177, -4520905813031867050] (T6_3 false)) (T6_4 false) = true := by kernel_rfl
theorem s6_3 (b : Bool) : Nt.run [-6477841283141601778, 132463304270220980, -1401176646014042824, 5174246673661628679, 2133204549161242177, -4520905813031867050] (T6_3 b) = some (T6_4 b) := by cases b; exact eqC_is s6_3_false; exact eqC_is s6_3_true
theorem s6_4_true : eqC (Nt.run [6513169870273989145, 5874208080739183550, -2162584322176920764, -2939801787649616911, 2292915454888611185, 3905703318269238548] (T6_4 true)) (T6_5 true) = true := by kernel_rfl
theorem s6_4_false : eqC (Nt.run [6513169870273989145, 5874208080739183550, -2162584322176920764, -2939801787649616911, 2292915454888611185, 3905703318269238548] (T6_4 false)) (T6_5 false) = true := by kernel_rfl
theorem s6_4 (b : Bool) : Nt.run [6513169870273989145, 5874208080739183550, -2162584322176920764, -2939801787649616911, 2292915454888611185, 3905703318269238548] (T6_4 b) = some (T6_5 b) := by cases b; exact eqC_is s6_4_false; exact eqC_is s6_4_true
theorem s6_5_true : eqC (Nt.run [3509086289884908746, -7812393588923196891, 6386172564946223992, -4409641630534818741, -8655692178281013874, -3011749507023715147] (T6_5 true)) (T6_6 true) = true := by kernel_rfl
theorem s6_5_false : eqC (Nt.run [3509086289884908746, -7812393588923196891, 6386172564946223992, -4409641630534818741, -8655692178281013874, -3011749507023715147] (T6_5 false)) (T6_6 false) = true := by kernel_rfl
theorem s6_5 (b : Bool) : Nt.run [3509086289884908746, -7812393588923196891, 6386172564946223992, -4409641630534818741, -8655692178281013874, -3011749507023715147] (T6_5 b) = some (T6_6 b) := by cases b; exact eqC_is s6_5_false; exact eqC_is s6_5_true
theorem s6_6_true : eqC (Nt.run [6984388892848867253, 6076788485770240122, 5631695423073503270, 4914572923007335514, 6084654608730345290, -2153825292875232413] (T6_6 true)) (T6_7 true) = true := by kernel_rfl
theorem s6_6_false : eqC (Nt.run [6984388892848867253, 6076788485770240122, 5631695423073503270, 4914572923007335514, 6084654608730345290, -2153825292875232413] (T6_6 false)) (T6_7 false) = true := by kernel_rfl
theorem s6_6 (b : Bool) : Nt.run [6984388892848867253, 6076788485770240122, 5631695423073503270, 4914572923007335514, 6084654608730345290, -2153825292875232413] (T6_6 b) = some (T6_7 b) := by cases b; exact eqC_is s6_6_false; exact eqC_is s6_6_true
theorem s6_7_true : eqC (Nt.run [-3646414498081027604, 6680094068350107581, 1646886449713697444, 2020507147913352694, -3303994217607245247, 3977913688162645183] (T6_7 true)) (T6_8 true) = true := by kernel_rfl
theorem s6_7_false : eqC (Nt.run [-3646414498081027604, 6680094068350107581, 1646886449713697444, 2020507147913352694, -3303994217607245247, 3977913688162645183] (T6_7 false)) (T6_8 false) = true := by kernel_rfl
theorem s6_7 (b : Bool) : Nt.run [-3646414498081027604, 6680094068350107581, 1646886449713697444, 2020507147913352694, -3303994217607245247, 3977913688162645183] (T6_7 b) = some (T6_8 b) := by cases b; exact eqC_is s6_7_false; exact eqC_is s6_7_true
theorem s6_8_true : eqC (Nt.run [1178025537514009798, 3785492089518760395, -3747519902996442744, 7475435828386755100, -8038917929080475726, 6469834937083110909] (T6_8 true)) (T6_9 true) = true := by kernel_rfl
theorem s6_8_false : eqC (Nt.run [1178025537514009798, 3785492089518760395, -3747519902996442744, 7475435828386755100, -8038917929080475726, 6469834937083110909] (T6_8 false)) (T6_9 false) = true := by kernel_rfl
theorem s6_8 (b : Bool) : Nt.run [1178025537514009798, 3785492089518760395, -3747519902996442744, 7475435828386755100, -8038917929080475726, 6469834937083110909] (T6_8 b) = some (T6_9 b) := by cases b; exact eqC_is s6_8_false; exact eqC_is s6_8_true
theorem s6_9_true : eqC (Nt.run [-357394026925774963, -8870364318931865324, -6435786387380814200, -2863363183951935283, 421240690329015366, -5894643608195237562] (T6_9 true)) (T6_10 true) = true := by kernel_rfl
theorem s6_9_false : eqC (Nt.run [-357394026925774963, -8870364318931865324, -6435786387380814200, -2863363183951935283, 421240690329015366, -5894643608195237562] (T6_9 false)) (T6_10 false) = true := by kernel_rfl
theorem s6_9 (b : Bool) : Nt.run [-357394026925774963, -8870364318931865324, -6435786387380814200, -2863363183951935283, 421240690329015366, -5894643608195237562] (T6_9 b) = some (T6_10 b) := by cases b; exact eqC_is s6_9_false; exact eqC_is s6_9_true
theorem s6_10_true : eqC (Nt.run [-4173115685080978678, -8626266151769696285, -3017343396002764435, -1615458154959455861, 8686792741840686921, -455285545571356331] (T6_10 true)) (T6_11 true) = true := by kernel_rfl
theorem s6_10_false : eqC (Nt.run [-4173115685080978678, -8626266151769696285, -3017343396002764435, -1615458154959455861, 8686792741840686921, -455285545571356331] (T6_10 false)) (T6_11 false) = true := by kernel_rfl
theorem s6_10 (b : Bool) : Nt.run [-4173115685080978678, -8626266151769696285, -3017343396002764435, -1615458154959455861, 8686792741840686921, -455285545571356331] (T6_10 b) = some (T6_11 b) := by cases b; exact eqC_is s6_10_false; exact eqC_is s6_10_true
theorem s6_11_true : eqC (Nt.run [-5625910463062582134, -7249194089463809738, 2472713925416834500, -6040256366589255861, 7367159176595145813, 479853718522038946] (T6_11 true)) (T6_12 true) = true := by kernel_rfl
theorem s6_11_false : eqC (Nt.run [-5625910463062582134, -7249194089463809738, 2472713925416834500, -6040256366589255861, 7367159176595145813, 479853718522038946] (T6_11 false)) (T6_12 false) = true := by kernel_rfl
theorem s6_11 (b : Bool) : Nt.run [-5625910463062582134, -7249194089463809738, 2472713925416834500, -6040256366589255861, 7367159176595145813, 479853718522038946] (T6_11 b) = some (T6_12 b) := by cases b; exact eqC_is s6_11_false; exact eqC_is s6_11_true
theorem s6_12_true : eqC (Nt.run [-4231636660467294405, 8911663099658056228, 3285717986006585042, 2293441350510172487, 6690597316488898792, 284311063598970757] (T6_12 true)) (T6_13 true) = true := by kernel_rfl
theorem s6_12_false : eqC (Nt.run [-4231636660467294405, 8911663099658056228, 3285717986006585042, 2293441350510172487, 6690597316488898792, 284311063598970757] (T6_12 false)) (T6_13 false) = true := by kernel_rfl
theorem s6_12 (b : Bool) : Nt.run [-4231636660467294405, 8911663099658056228, 3285717986006585042, 2293441350510172487, 6690597316488898792, 284311063598970757] (T6_12 b) = some (T6_13 b) := by cases b; exact eqC_is s6_12_false; exact eqC_is s6_12_true
theorem s6_13_true : eqC (Nt.run [3364094412900547250, -6115711431424070220, 5801550829136035757, 3812276110645653290, 8776993992973814561, 8877988104280847705] (T6_13 true)) (T6_14 true) = true := by kernel_rfl
theorem s6_13_false : eqC (Nt.run [3364094412900547250, -6115711431424070220, 5801550829136035757, 3812276110645653290, 8776993992973814561, 8877988104280847705] (T6_13 false)) (T6_14 false) = true := by kernel_rfl
theorem s6_13 (b : Bool) : Nt.run [3364094412900547250, -6115711431424070220, 5801550829136035757, 3812276110645653290, 8776993992973814561, 8877988104280847705] (T6_13 b) = some (T6_14 b) := by cases b; exact eqC_is s6_13_false; exact eqC_is s6_13_true
theorem s6_14_true : eqC (Nt.run [-2799649150276266419, 2393368825972317543, 7833112986396103, -6318338841719778892, -4596810918605520008, 3480582342634222108] (T6_14 true)) (T6_15 true) = true := by kernel_rfl
theorem s6_14_false : eqC (Nt.run [-2799649150276266419, 2393368825972317543, 7833112986396103, -6318338841719778892, -4596810918605520008, 3480582342634222108] (T6_14 false)) (T6_15 false) = true := by kernel_rfl
theorem s6_14 (b : Bool) : Nt.run [-2799649150276266419, 2393368825972317543, 7833112986396103, -6318338841719778892, -4596810918605520008, 3480582342634222108] (T6_14 b) = some (T6_15 b) := by cases b; exact eqC_is s6_14_false; exact eqC_is s6_14_true
theorem s6_15_true : eqC (Nt.run [2363525508855372457, -5287378050397800012, 689319326636901197, 999831101418899392, -8168872048566147190, 8187223789704774824] (T6_15 true)) (T6_16 true) = true := by kernel_rfl
theorem s6_15_false : eqC (Nt.run [2363525508855372457, -5287378050397800012, 689319326636901197, 999831101418899392, -8168872048566147190, 8187223789704774824] (T6_15 false)) (T6_16 false) = true := by kernel_rfl
theorem s6_15 (b : Bool) : Nt.run [2363525508855372457, -5287378050397800012, 689319326636901197, 999831101418899392, -8168872048566147190, 8187223789704774824] (T6_15 b) = some (T6_16 b) := by cases b; exact eqC_is s6_15_false; exact eqC_is s6_15_true
theorem s6_16_true : eqC (Nt.run [5644039476861531328, 4177098473490297792, -7872866811925364485, -314025201494578110, -6444910600198553046, 3499595945611353143] (T6_16 true)) (T6_17 true) = true := by kernel_rfl
theorem s6_16_false : eqC (Nt.run [5644039476861531328, 4177098473490297792, -7872866811925364485, -314025201494578110, -6444910600198553046, 3499595945611353143] (T6_16 false)) (T6_17 false) = true := by kernel_rfl
theorem s6_16 (b : Bool) : Nt.run [5644039476861531328, 4177098473490297792, -7872866811925364485, -314025201494578110, -6444910600198553046, 3499595945611353143] (T6_16 b) = some (T6_17 b) := by cases b; exact eqC_is s6_16_false; exact eqC_is s6_16_true
theorem s6_17_true : eqC (Nt.run [-533191025837454980, 3431766336458946038, -2824729285786065464, 3754104405995943876, -5445057546654120649, 1014240138921014672] (T6_17 true)) (T6_18 true) = true := by kernel_rfl
theorem s6_17_false : eqC (Nt.run [-533191025837454980, 3431766336458946038, -2824729285786065464, 3754104405995943876, -5445057546654120649, 1014240138921014672] (T6_17 false)) (T6_18 false) = true := by kernel_rfl
theorem s6_17 (b : Bool) : Nt.run [-533191025837454980, 3431766336458946038, -2824729285786065464, 3754104405995943876, -5445057546654120649, 1014240138921014672] (T6_17 b) = some (T6_18 b) := by cases b; exact eqC_is s6_17_false; exact eqC_is s6_17_true
theorem s6_18_true : eqC (Nt.run [-7600302031901964976, -598518465924646481, 5342521520645652626, -8984358296977235049, 995010717509302858, -799347493067118869] (T6_18 true)) (T6_19 true) = true := by kernel_rfl
theorem s6_18_false : eqC (Nt.run [-7600302031901964976, -598518465924646481, 5342521520645652626, -8984358296977235049, 995010717509302858, -799347493067118869] (T6_18 false)) (T6_19 false) = true := by kernel_rfl
theorem s6_18 (b : Bool) : Nt.run [-7600302031901964976, -598518465924646481, 5342521520645652626, -8984358296977235049, 995010717509302858, -799347493067118869] (T6_18 b) = some (T6_19 b) := by cases b; exact eqC_is s6_18_false; exact eqC_is s6_18_true
theorem s6_19_true : eqC (Nt.run [-5442401751542183617, 5773809594761744998, -4002823960293952063, 7024814589908968516, 5121722104527473205, -5132779940573575139] (T6_19 true)) (T6_20 true) = true := by kernel_rfl
theorem s6_19_false : eqC (Nt.run [-5442401751542183617, 5773809594761744998, -4002823960293952063, 7024814589908968516, 5121722104527473205, -5132779940573575139] (T6_19 false)) (T6_20 false) = true := by kernel_rfl
theorem s6_19 (b : Bool) : Nt.run [-5442401751542183617, 5773809594761744998, -4002823960293952063, 7024814589908968516, 5121722104527473205, -5132779940573575139] (T6_19 b) = some (T6_20 b) := by cases b; exact eqC_is s6_19_false; exact eqC_is s6_19_true
theorem s6_20_true : eqC (Nt.run [-8005492415624748088, -4748238413347093736, -6599362416047294805, 524124497958944785, 7149174503279570998, -3795692665078447040] (T6_20 true)) (T6_21 true) = true := by kernel_rfl
theorem s6_20_false : eqC (Nt.run [-8005492415624748088, -4748238413347093736, -6599362416047294805, 524124497958944785, 7149174503279570998, -3795692665078447040] (T6_20 false)) (T6_21 false) = true := by kernel_rfl
theorem s6_20 (b : Bool) : Nt.run [-8005492415624748088, -4748238413347093736, -6599362416047294805, 524124497958944785, 7149174503279570998, -3795692665078447040] (T6_20 b) = some (T6_21 b) := by cases b; exact eqC_is s6_20_false; exact eqC_is s6_20_true
theorem s6_21_true : eqC (Nt.run [117629005838913739, 527124988929497636, -8763305577815332594, 4902193639059460174, -1862571898043339054, -446549404724807673] (T6_21 true)) (T6_22 true) = true := by kernel_rfl
theorem s6_21_false : eqC (Nt.run [117629005838913739, 527124988929497636, -8763305577815332594, 4902193639059460174, -1862571898043339054, -446549404724807673] (T6_21 false)) (T6_22 false) = true := by kernel_rfl
theorem s6_21 (b : Bool) : Nt.run [117629005838913739, 527124988929497636, -8763305577815332594, 4902193639059460174, -1862571898043339054, -446549404724807673] (T6_21 b) = some (T6_22 b) := by cases b; exact eqC_is s6_21_false; exact eqC_is s6_21_true
theorem r6_22 (b : Bool) : Nt.run [] (T6_22 b) = some (T6_22 b) := rfl
theorem r6_21 (b : Bool) : Nt.run [117629005838913739, 527124988929497636, -8763305577815332594, 4902193639059460174, -1862571898043339054, -446549404724807673] (T6_21 b) = some (T6_22 b) := run_app (s6_21 b) (r6_22 b)
theorem r6_20 (b : Bool) : Nt.run [-8005492415624748088, -4748238413347093736, -6599362416047294805, 524124497958944785, 7149174503279570998, -3795692665078447040, 117629005838913739, 527124988929497636, -8763305577815332594, 4902193639059460174, -1862571898043339054, -446549404724807673] (T6_20 b) = some (T6_22 b) := run_app (s6_20 b) (r6_21 b)
theorem r6_19 (b : Bool) : Nt.run [-5442401751542183617, 5773809594761744998, -4002823960293952063, 7024814589908968516, 5121722104527473205, -5132779940573575139, -8005492415624748088, -4748238413347093736, -6599362416047294805, 524124497958944785, 7149174503279570998, -3795692665078447040, 117629005838913739, 527124988929497636, -8763305577815332594, 4902193639059460174, -1862571898043339054, -446549404724807673] (T6_19 b) = some (T6_22 b) := run_app (s6_19 b) (r6_20 b)
theorem r6_18 (b : Bool) : Nt.run [-7600302031901964976, -598518465924646481, 5342521520645652626, -8984358296977235049, 995010717509302858, -799347493067118869, -5442401751542183617, 5773809594761744998, -4002823960293952063, 7024814589908968516, 5121722104527473205, -5132779940573575139, -8005492415624748088, -4748238413347093736, -6599362416047294805, 524124497958944785, 7149174503279570998, -3795692665078447040, 117629005838913739, 527124988929497636, -8763305577815332594, 4902193639059460174, -1862571898043339054, -446549404724807673] (T6_18 b) = some (T6_22 b) := run_app (s6_18 b) (r6_19 b)
theorem r6_17 (b : Bool) : Nt.run [-533191025837454980, 3431766336458946038, -2824729285786065464, 3754104405995943876, -5445057546654120649, 1014240138921014672, -7600302031901964976, -598518465924646481, 5342521520645652626, -8984358296977235049, 995010717509302858, -799347493067118869, -5442401751542183617, 5773809594761744998, -4002823960293952063, 7024814589908968516, 5121722104527473205, -5132779940573575139, -8005492415624748088, -4748238413347093736, -6599362416047294805, 524124497958944785, 7149174503279570998, -3795692665078447040, 117629005838913739, 527124988929497636, -8763305577815332594, 4902193639059460174, -1862571898043339054, -446549404724807673] (T6_17 b) = some (T6_22 b) := run_app (s6_17 b) (r6_18 b)
theorem r6_16 (b : Bool) : Nt.run [5644039476861531328, 4177098473490297792, -7872866811925364485, -314025201494578110, -6444910600198553046, 3499595945611353143, -533191025837454980, 3431766336458946038, -2824729285786065464, 3754104405995943876, -5445057546654120649, 1014240138921014672, -7600302031901964976, -598518465924646481, 5342521520645652626, -8984358296977235049, 995010717509302858, -799347493067118869, -5442401751542183617, 5773809594761744998, -4002823960293952063, 7024814589908968516, 5121722104527473205, -5132779940573575139, -8005492415624748088, -4748238413347093736, -6599362416047294805, 524124497958944785, 7149174503279570998, -3795692665078447040, 117629005838913739, 527124988929497636, -8763305577815332594, 4902193639059460174, -1862571898043339054, -446549404724807673] (T6_16 b) = some (T6_22 b) := run_app (s6_16 b) (r6_17 b)
theorem r6_15 (b : Bool) : Nt.run [2363525508855372457, -5287378050397800012, 689319326636901197, 999831101418899392, -8168872048566147190, 8187223789704774824, 5644039476861531328, 4177098473490297792, -7872866811925364485, -314025201494578110, -6444910600198553046, 3499595945611353143, -533191025837454980, 3431766336458946038, -2824729285786065464, 3754104405995943876, -5445057546654120649, 1014240138921014672, -7600302031901964976, -598518465924646481, 5342521520645652626, -8984358296977235049, 995010717509302858, -799347493067118869, -5442401751542183617, 5773809594761744998, -4002823960293952063, 7024814589908968516, 5121722104527473205, -5132779940573575139, -8005492415624748088, -4748238413347093736, -6599362416047294805, 524124497958944785, 7149174503279570998, -3795692665078447040, 117629005838913739, 527124988929497636, -8763305577815332594, 4902193639059460174, -1862571898043339054, -446549404724807673] (T6_15 b) = some (T6_22 b) := run_app (s6_15 b) (r6_16 b)
theorem r6_14 (b : Bool) : Nt.run [-2799649150276266419, 2393368825972317543, 7833112986396103, -6318338841719778892, -4596810918605520008, 3480582342634222108, 2363525508855372457, -5287378050397800012, 689319326636901197, 999831101418899392, -8168872048566147190, 8187223789704774824, 5644039476861531328, 4177098473490297792, -7872866811925364485, -314025201494578110, -6444910600198553046, 3499595945611353143, -533191025837454980, 3431766336458946038, -2824729285786065464, 3754104405995943876, -5445057546654120649, 1014240138921014672, -7600302031901964976, -598518465924646481, 5342521520645652626, -8984358296977235049, 995010717509302858, -799347493067118869, -5442401751542183617, 5773809594761744998, -4002823960293952063, 7024814589908968516, 5121722104527473205, -5132779940573575139, -8005492415624748088, -4748238413347093736, -6599362416047294805, 524124497958944785, 7149174503279570998, -3795692665078447040, 117629005838913739, 527124988929497636, -8763305577815332594, 4902193639059460174, -1862571898043339054, -446549404724807673] (T6_14 b) = some (T6_22 b) := run_app (s6_14 b) (r6_15 b)
theorem r6_13 (b : Bool) : Nt.run [3364094412900547250, -6115711431424070220, 5801550829136035757, 3812276110645653290, 8776993992973814561, 8877988104280847705, -2799649150276266419, 2393368825972317543, 7833112986396103, -6318338841719778892, -4596810918605520008, 3480582342634222108, 2363525508855372457, -5287378050397800012, 689319326636901197, 999831101418899392, -8168872048566147190, 8187223789704774824, 5644039476861531328, 4177098473490297792, -7872866811925364485, -314025201494578110, -6444910600198553046, 3499595945611353143, -533191025837454980, 3431766336458946038, -2824729285786065464, 3754104405995943876, -5445057546654120649, 1014240138921014672, -7600302031901964976, -598518465924646481, 5342521520645652626, -8984358296977235049, 995010717509302858, -799347493067118869, -5442401751542183617, 5773809594761744998, -4002823960293952063, 7024814589908968516, 5121722104527473205, -5132779940573575139, -8005492415624748088, -4748238413347093736, -6599362416047294805, 524124497958944785, 7149174503279570998, -3795692665078447040, 117629005838913739, 527124988929497636, -8763305577815332594, 4902193639059460174, -1862571898043339054, -446549404724807673] (T6_13 b) = some (T6_22 b) := run_app (s6_13 b) (r6_14 b)
theorem r6_12 (b : Bool) : Nt.run [-4231636660467294405, 8911663099658056228, 3285717986006585042, 2293441350510172487, 6690597316488898792, 284311063598970757, 3364094412900547250, -6115711431424070220, 5801550829136035757, 3812276110645653290, 8776993992973814561, 8877988104280847705, -2799649150276266419, 2393368825972317543, 7833112986396103, -6318338841719778892, -4596810918605520008, 3480582342634222108, 2363525508855372457, -5287378050397800012, 689319326636901197, 999831101418899392, -8168872048566147190, 8187223789704774824, 5644039476861531328, 4177098473490297792, -7872866811925364485, -314025201494578110, -6444910600198553046, 3499595945611353143, -533191025837454980, 3431766336458946038, -2824729285786065464, 3754104405995943876, -5445057546654120649, 1014240138921014672, -7600302031901964976, -598518465924646481, 5342521520645652626, -8984358296977235049, 995010717509302858, -799347493067118869, -5442401751542183617, 5773809594761744998, -4002823960293952063, 7024814589908968516, 5121722104527473205, -5132779940573575139, -8005492415624748088, -4748238413347093736, -6599362416047294805, 524124497958944785, 7149174503279570998, -3795692665078447040, 117629005838913739, 527124988929497636, -8763305577815332594, 4902193639059460174, -1862571898043339054, -446549404724807673] (T6_12 b) = some (T6_22 b) := run_app (s6_12 b) (r6_13 b)
theorem r6_11 (b : Bool) : Nt.run [-5625910463062582134, -7249194089463809738, 2472713925416834500, -6040256366589255861, 7367159176595145813, 479853718522038946, -4231636660467294405, 8911663099658056228, 3285717986006585042, 2293441350510172487, 6690597316488898792, 284311063598970757, 3364094412900547250, -6115711431424070220, 5801550829136035757, 3812276110645653290, 8776993992973814561, 8877988104280847705, -2799649150276266419, 2393368825972317543, 7833112986396103, -6318338841719778892, -4596810918605520008, 3480582342634222108, 2363525508855372457, -5287378050397800012, 689319326636901197, 999831101418899392, -8168872048566147190, 8187223789704774824, 5644039476861531328, 4177098473490297792, -7872866811925364485, -314025201494578110, -6444910600198553046, 3499595945611353143, -533191025837454980, 3431766336458946038, -2824729285786065464, 3754104405995943876, -5445057546654120649, 1014240138921014672, -7600302031901964976, -598518465924646481, 5342521520645652626, -8984358296977235049, 995010717509302858, -799347493067118869, -5442401751542183617, 5773809594761744998, -4002823960293952063, 7024814589908968516, 5121722104527473205, -5132779940573575139, -8005492415624748088, -4748238413347093736, -6599362416047294805, 524124497958944785, 7149174503279570998, -3795692665078447040, 117629005838913739, 527124988929497636, -8763305577815332594, 4902193639059460174, -1862571898043339054, -446549404724807673] (T6_11 b) = some (T6_22 b) := run_app (s6_11 b) (r6_12 b)
theorem r6_10 (b : Bool) : Nt.run [-4173115685080978678, -8626266151769696285, -3017343396002764435, -1615458154959455861, 8686792741840686921, -455285545571356331, -5625910463062582134, -7249194089463809738, 2472713925416834500, -6040256366589255861, 7367159176595145813, 479853718522038946, -4231636660467294405, 8911663099658056228, 3285717986006585042, 2293441350510172487, 6690597316488898792, 284311063598970757, 3364094412900547250, -6115711431424070220, 5801550829136035757, 3812276110645653290, 8776993992973814561, 8877988104280847705, -2799649150276266419, 2393368825972317543, 7833112986396103, -6318338841719778892, -4596810918605520008, 3480582342634222108, 2363525508855372457, -5287378050397800012, 689319326636901197, 999831101418899392, -8168872048566147190, 8187223789704774824, 5644039476861531328, 4177098473490297792, -7872866811925364485, -314025201494578110, -6444910600198553046, 3499595945611353143, -533191025837454980, 3431766336458946038, -2824729285786065464, 3754104405995943876, -5445057546654120649, 1014240138921014672, -7600302031901964976, -598518465924646481, 5342521520645652626, -8984358296977235049, 995010717509302858, -799347493067118869, -5442401751542183617, 5773809594761744998, -4002823960293952063, 7024814589908968516, 5121722104527473205, -5132779940573575139, -8005492415624748088, -4748238413347093736, -6599362416047294805, 524124497958944785, 7149174503279570998, -3795692665078447040, 117629005838913739, 527124988929497636, -8763305577815332594, 4902193639059460174, -1862571898043339054, -446549404724807673] (T6_10 b) = some (T6_22 b) := run_app (s6_10 b) (r6_11 b)
theorem r6_9 (b : Bool) : Nt.run [-357394026925774963, -8870364318931865324, -6435786387380814200, -2863363183951935283, 421240690329015366, -5894643608195237562, -4173115685080978678, -8626266151769696285, -3017343396002764435, -1615458154959455861, 8686792741840686921, -455285545571356331, -5625910463062582134, -7249194089463809738, 2472713925416834500, -6040256366589255861, 7367159176595145813, 479853718522038946, -4231636660467294405, 8911663099658056228, 3285717986006585042, 2293441350510172487, 6690597316488898792, 284311063598970757, 3364094412900547250, -6115711431424070220, 5801550829136035757, 3812276110645653290, 8776993992973814561, 8877988104280847705, -2799649150276266419, 2393368825972317543, 7833112986396103, -6318338841719778892, -4596810918605520008, 3480582342634222108, 2363525508855372457, -5287378050397800012, 689319326636901197, 999831101418899392, -8168872048566147190, 8187223789704774824, 5644039476861531328, 4177098473490297792, -7872866811925364485, -314025201494578110, -6444910600198553046, 3499595945611353143, -533191025837454980, 3431766336458946038, -2824729285786065464, 3754104405995943876, -5445057546654120649, 1014240138921014672, -7600302031901964976, -598518465924646481, 5342521520645652626, -8984358296977235049, 995010717509302858, -799347493067118869, -5442401751542183617, 5773809594761744998, -4002823960293952063, 7024814589908968516, 5121722104527473205, -5132779940573575139, -8005492415624748088, -4748238413347093736, -6599362416047294805, 524124497958944785, 7149174503279570998, -3795692665078447040, 117629005838913739, 527124988929497636, -8763305577815332594, 4902193639059460174, -1862571898043339054, -446549404724807673] (T6_9 b) = some (T6_22 b) := run_app (s6_9 b) (r6_10 b)
theorem r6_8 (b : Bool) : Nt.run [1178025537514009798, 3785492089518760395, -3747519902996442744, 7475435828386755100, -8038917929080475726, 6469834937083110909, -357394026925774963, -8870364318931865324, -6435786387380814200, -2863363183951935283, 421240690329015366, -5894643608195237562, -4173115685080978678, -8626266151769696285, -3017343396002764435, -1615458154959455861, 8686792741840686921, -455285545571356331, -5625910463062582134, -7249194089463809738, 2472713925416834500, -6040256366589255861, 7367159176595145813, 479853718522038946, -4231636660467294405, 8911663099658056228, 3285717986006585042, 2293441350510172487, 6690597316488898792, 284311063598970757, 3364094412900547250, -6115711431424070220, 5801550829136035757, 3812276110645653290, 8776993992973814561, 8877988104280847705, -2799649150276266419, 2393368825972317543, 7833112986396103, -6318338841719778892, -4596810918605520008, 3480582342634222108, 2363525508855372457, -5287378050397800012, 689319326636901197, 999831101418899392, -8168872048566147190, 8187223789704774824, 5644039476861531328, 4177098473490297792, -7872866811925364485, -314025201494578110, -6444910600198553046, 3499595945611353143, -533191025837454980, 3431766336458946038, -2824729285786065464, 3754104405995943876, -5445057546654120649, 1014240138921014672, -7600302031901964976, -598518465924646481, 5342521520645652626, -8984358296977235049, 995010717509302858, -799347493067118869, -5442401751542183617, 5773809594761744998, -4002823960293952063, 7024814589908968516, 5121722104527473205, -5132779940573575139, -8005492415624748088, -4748238413347093736, -6599362416047294805, 524124497958944785, 7149174503279570998, -3795692665078447040, 117629005838913739, 527124988929497636, -8763305577815332594, 4902193639059460174, -1862571898043339054, -446549404724807673] (T6_8 b) = some (T6_22 b) := run_app (s6_8 b) (r6_9 b)
theorem r6_7 (b : Bool) : Nt.run [-3646414498081027604, 6680094068350107581, 1646886449713697444, 2020507147913352694, -3303994217607245247, 3977913688162645183, 1178025537514009798, 3785492089518760395, -3747519902996442744, 7475435828386755100, -8038917929080475726, 6469834937083110909, -357394026925774963, -8870364318931865324, -6435786387380814200, -2863363183951935283, 421240690329015366, -5894643608195237562, -4173115685080978678, -8626266151769696285, -3017343396002764435, -1615458154959455861, 8686792741840686921, -455285545571356331, -5625910463062582134, -7249194089463809738, 2472713925416834500, -6040256366589255861, 7367159176595145813, 479853718522038946, -4231636660467294405, 8911663099658056228, 3285717986006585042, 2293441350510172487, 6690597316488898792, 284311063598970757, 3364094412900547250, -6115711431424070220, 5801550829136035757, 3812276110645653290, 8776993992973814561, 8877988104280847705, -2799649150276266419, 2393368825972317543, 7833112986396103, -6318338841719778892, -4596810918605520008, 3480582342634222108, 2363525508855372457, -5287378050397800012, 689319326636901197, 999831101418899392, -8168872048566147190, 8187223789704774824, 5644039476861531328, 4177098473490297792, -7872866811925364485, -314025201494578110, -6444910600198553046, 3499595945611353143, -533191025837454980, 3431766336458946038, -2824729285786065464, 3754104405995943876, -5445057546654120649, 1014240138921014672, -7600302031901964976, -598518465924646481, 5342521520645652626, -8984358296977235049, 995010717509302858, -799347493067118869, -5442401751542183617, 5773809594761744998, -4002823960293952063, 7024814589908968516, 5121722104527473205, -5132779940573575139, -8005492415624748088, -4748238413347093736, -6599362416047294805, 524124497958944785, 7149174503279570998, -3795692665078447040, 117629005838913739, 527124988929497636, -8763305577815332594, 4902193639059460174, -1862571898043339054, -446549404724807673] (T6_7 b) = some (T6_22 b) := run_app (s6_7 b) (r6_8 b)
theorem r6_6 (b : Bool) : Nt.run [6984388892848867253, 6076788485770240122, 5631695423073503270, 4914572923007335514, 6084654608730345290, -2153825292875232413, -3646414498081027604, 6680094068350107581, 1646886449713697444, 2020507147913352694, -3303994217607245247, 3977913688162645183, 1178025537514009798, 3785492089518760395, -3747519902996442744, 7475435828386755100, -8038917929080475726, 6469834937083110909, -357394026925774963, -8870364318931865324, -6435786387380814200, -2863363183951935283, 421240690329015366, -5894643608195237562, -4173115685080978678, -8626266151769696285, -3017343396002764435, -1615458154959455861, 8686792741840686921, -455285545571356331, -5625910463062582134, -7249194089463809738, 2472713925416834500, -6040256366589255861, 7367159176595145813, 479853718522038946, -4231636660467294405, 8911663099658056228, 3285717986006585042, 2293441350510172487, 6690597316488898792, 284311063598970757, 3364094412900547250, -6115711431424070220, 5801550829136035757, 3812276110645653290, 8776993992973814561, 8877988104280847705, -2799649150276266419, 2393368825972317543, 7833112986396103, -6318338841719778892, -4596810918605520008, 3480582342634222108, 2363525508855372457, -5287378050397800012, 689319326636901197, 999831101418899392, -8168872048566147190, 8187223789704774824, 5644039476861531328, 4177098473490297792, -7872866811925364485, -314025201494578110, -6444910600198553046, 3499595945611353143, -533191025837454980, 3431766336458946038, -2824729285786065464, 3754104405995943876, -5445057546654120649, 1014240138921014672, -7600302031901964976, -598518465924646481, 5342521520645652626, -8984358296977235049, 995010717509302858, -799347493067118869, -5442401751542183617, 5773809594761744998, -4002823960293952063, 7024814589908968516, 5121722104527473205, -5132779940573575139, -8005492415624748088, -4748238413347093736, -6599362416047294805, 524124497958944785, 7149174503279570998, -3795692665078447040, 117629005838913739, 527124988929497636, -8763305577815332594, 4902193639059460174, -1862571898043339054, -446549404724807673] (T6_6 b) = some (T6_22 b) := run_app (s6_6 b) (r6_7 b)
theorem r6_5 (b : Bool) : Nt.run [3509086289884908746, -7812393588923196891, 6386172564946223992, -4409641630534818741, -8655692178281013874, -3011749507023715147, 6984388892848867253, 6076788485770240122, 5631695423073503270, 4914572923007335514, 6084654608730345290, -2153825292875232413, -3646414498081027604, 6680094068350107581, 1646886449713697444, 2020507147913352694, -3303994217607245247, 3977913688162645183, 1178025537514009798, 3785492089518760395, -3747519902996442744, 7475435828386755100, -8038917929080475726, 6469834937083110909, -357394026925774963, -8870364318931865324, -6435786387380814200, -2863363183951935283, 421240690329015366, -5894643608195237562, -4173115685080978678, -8626266151769696285, -3017343396002764435, -1615458154959455861, 8686792741840686921, -455285545571356331, -5625910463062582134, -7249194089463809738, 2472713925416834500, -6040256366589255861, 7367159176595145813, 479853718522038946, -4231636660467294405, 8911663099658056228, 3285717986006585042, 2293441350510172487, 6690597316488898792, 284311063598970757, 3364094412900547250, -6115711431424070220, 5801550829136035757, 3812276110645653290, 8776993992973814561, 8877988104280847705, -2799649150276266419, 2393368825972317543, 7833112986396103, -6318338841719778892, -4596810918605520008, 3480582342634222108, 2363525508855372457, -5287378050397800012, 689319326636901197, 999831101418899392, -8168872048566147190, 8187223789704774824, 5644039476861531328, 4177098473490297792, -7872866811925364485, -314025201494578110, -6444910600198553046, 3499595945611353143, -533191025837454980, 3431766336458946038, -2824729285786065464, 3754104405995943876, -5445057546654120649, 1014240138921014672, -7600302031901964976, -598518465924646481, 5342521520645652626, -8984358296977235049, 995010717509302858, -799347493067118869, -5442401751542183617, 5773809594761744998, -4002823960293952063, 7024814589908968516, 5121722104527473205, -5132779940573575139, -8005492415624748088, -4748238413347093736, -6599362416047294805, 524124497958944785, 7149174503279570998, -3795692665078447040, 117629005838913739, 527124988929497636, -8763305577815332594, 4902193639059460174, -1862571898043339054, -446549404724807673] (T6_5 b) = some (T6_22 b) := run_app (s6_5 b) (r6_6 b)
theorem r6_4 (b : Bool) : Nt.run [6513169870273989145, 5874208080739183550, -2162584322176920764, -2939801787649616911, 2292915454888611185, 3905703318269238548, 3509086289884908746, -7812393588923196891, 6386172564946223992, -4409641630534818741, -8655692178281013874, -3011749507023715147, 6984388892848867253, 6076788485770240122, 5631695423073503270, 4914572923007335514, 6084654608730345290, -2153825292875232413, -3646414498081027604, 6680094068350107581, 1646886449713697444, 2020507147913352694, -3303994217607245247, 3977913688162645183, 1178025537514009798, 3785492089518760395, -3747519902996442744, 7475435828386755100, -8038917929080475726, 6469834937083110909, -357394026925774963, -8870364318931865324, -6435786387380814200, -2863363183951935283, 421240690329015366, -5894643608195237562, -4173115685080978678, -8626266151769696285, -3017343396002764435, -1615458154959455861, 8686792741840686921, -455285545571356331, -5625910463062582134, -7249194089463809738, 2472713925416834500, -6040256366589255861, 7367159176595145813, 479853718522038946, -4231636660467294405, 8911663099658056228, 3285717986006585042, 2293441350510172487, 6690597316488898792, 284311063598970757, 3364094412900547250, -6115711431424070220, 5801550829136035757, 3812276110645653290, 8776993992973814561, 8877988104280847705, -2799649150276266419, 2393368825972317543, 7833112986396103, -6318338841719778892, -4596810918605520008, 3480582342634222108, 2363525508855372457, -5287378050397800012, 689319326636901197, 999831101418899392, -8168872048566147190, 8187223789704774824, 5644039476861531328, 4177098473490297792, -7872866811925364485, -314025201494578110, -6444910600198553046, 3499595945611353143, -533191025837454980, 3431766336458946038, -2824729285786065464, 3754104405995943876, -5445057546654120649, 1014240138921014672, -7600302031901964976, -598518465924646481, 5342521520645652626, -8984358296977235049, 995010717509302858, -799347493067118869, -5442401751542183617, 5773809594761744998, -4002823960293952063, 7024814589908968516, 5121722104527473205, -5132779940573575139, -8005492415624748088, -4748238413347093736, -6599362416047294805, 524124497958944785, 7149174503279570998, -3795692665078447040, 117629005838913739, 527124988929497636, -8763305577815332594, 4902193639059460174, -1862571898043339054, -446549404724807673] (T6_4 b) = some (T6_22 b) := run_app (s6_4 b) (r6_5 b)
theorem r6_3 (b : Bool) : Nt.run [-6477841283141601778, 132463304270220980, -1401176646014042824, 5174246673661628679, 2133204549161242177, -4520905813031867050, 6513169870273989145, 5874208080739183550, -2162584322176920764, -2939801787649616911, 2292915454888611185, 3905703318269238548, 3509086289884908746, -7812393588923196891, 6386172564946223992, -4409641630534818741, -8655692178281013874, -3011749507023715147, 6984388892848867253, 6076788485770240122, 5631695423073503270, 4914572923007335514, 6084654608730345290, -2153825292875232413, -3646414498081027604, 6680094068350107581, 1646886449713697444, 2020507147913352694, -3303994217607245247, 3977913688162645183, 1178025537514009798, 3785492089518760395, -3747519902996442744, 7475435828386755100, -8038917929080475726, 6469834937083110909, -357394026925774963, -8870364318931865324, -6435786387380814200, -2863363183951935283, 421240690329015366, -5894643608195237562, -4173115685080978678, -8626266151769696285, -3017343396002764435, -1615458154959455861, 8686792741840686921, -455285545571356331, -5625910463062582134, -7249194089463809738, 2472713925416834500, -6040256366589255861, 7367159176595145813, 479853718522038946, -4231636660467294405, 8911663099658056228, 3285717986006585042, 2293441350510172487, 6690597316488898792, 284311063598970757, 3364094412900547250, -6115711431424070220, 5801550829136035757, 3812276110645653290, 8776993992973814561, 8877988104280847705, -2799649150276266419, 2393368825972317543, 7833112986396103, -6318338841719778892, -4596810918605520008, 3480582342634222108, 2363525508855372457, -5287378050397800012, 689319326636901197, 999831101418899392, -8168872048566147190, 8187223789704774824, 5644039476861531328, 4177098473490297792, -7872866811925364485, -314025201494578110, -6444910600198553046, 3499595945611353143, -533191025837454980, 3431766336458946038, -2824729285786065464, 3754104405995943876, -5445057546654120649, 1014240138921014672, -7600302031901964976, -598518465924646481, 5342521520645652626, -8984358296977235049, 995010717509302858, -799347493067118869, -5442401751542183617, 5773809594761744998, -4002823960293952063, 7024814589908968516, 5121722104527473205, -5132779940573575139, -8005492415624748088, -4748238413347093736, -6599362416047294805, 524124497958944785, 7149174503279570998, -3795692665078447040, 117629005838913739, 527124988929497636, -8763305577815332594, 4902193639059460174, -1862571898043339054, -446549404724807673] (T6_3 b) = some (T6_22 b) := run_app (s6_3 b) (r6_4 b)
theorem r6_2 (b : Bool) : Nt.run [2330882640004273974, 7866299038723367101, -5070805483911770179, -4841327046352607290, -7226862759338528730, 5849017484469322826, -6477841283141601778, 132463304270220980, -1401176646014042824, 5174246673661628679, 2133204549161242177, -4520905813031867050, 6513169870273989145, 5874208080739183550, -2162584322176920764, -2939801787649616911, 2292915454888611185, 3905703318269238548, 3509086289884908746, -7812393588923196891, 6386172564946223992, -4409641630534818741, -8655692178281013874, -3011749507023715147, 6984388892848867253, 6076788485770240122, 5631695423073503270, 4914572923007335514, 6084654608730345290, -2153825292875232413, -3646414498081027604, 6680094068350107581, 1646886449713697444, 2020507147913352694, -3303994217607245247, 3977913688162645183, 1178025537514009798, 3785492089518760395, -3747519902996442744, 7475435828386755100, -8038917929080475726, 6469834937083110909, -357394026925774963, -8870364318931865324, -6435786387380814200, -2863363183951935283, 421240690329015366, -5894643608195237562, -4173115685080978678, -8626266151769696285, -3017343396002764435, -1615458154959455861, 8686792741840686921, -455285545571356331, -5625910463062582134, -7249194089463809738, 2472713925416834500, -6040256366589255861, 7367159176595145813, 479853718522038946, -4231636660467294405, 8911663099658056228, 3285717986006585042, 2293441350510172487, 6690597316488898792, 284311063598970757, 3364094412900547250, -6115711431424070220, 5801550829136035757, 3812276110645653290, 8776993992973814561, 8877988104280847705, -2799649150276266419, 2393368825972317543, 7833112986396103, -6318338841719778892, -4596810918605520008, 3480582342634222108, 2363525508855372457, -5287378050397800012, 689319326636901197, 999831101418899392, -8168872048566147190, 8187223789704774824, 5644039476861531328, 4177098473490297792, -7872866811925364485, -314025201494578110, -6444910600198553046, 3499595945611353143, -533191025837454980, 3431766336458946038, -2824729285786065464, 3754104405995943876, -5445057546654120649, 1014240138921014672, -7600302031901964976, -598518465924646481, 5342521520645652626, -8984358296977235049, 995010717509302858, -799347493067118869, -5442401751542183617, 5773809594761744998, -4002823960293952063, 7024814589908968516, 5121722104527473205, -5132779940573575139, -8005492415624748088, -4748238413347093736, -6599362416047294805, 524124497958944785, 7149174503279570998, -3795692665078447040, 117629005838913739, 527124988929497636, -8763305577815332594, 4902193639059460174, -1862571898043339054, -446549404724807673] (T6_2 b) = some (T6_22 b) := run_app (s6_2 b) (r6_3 b)
theorem r6_1 (b : Bool) : Nt.run [-1012816709796637158, 7325225040015936141, -1059243236066393807, 5765355112332435909, -4499184978583299980, 4759754221028791718, 2330882640004273974, 7866299038723367101, -5070805483911770179, -4841327046352607290, -7226862759338528730, 5849017484469322826, -6477841283141601778, 132463304270220980, -1401176646014042824, 5174246673661628679, 2133204549161242177, -4520905813031867050, 6513169870273989145, 5874208080739183550, -2162584322176920764, -2939801787649616911, 2292915454888611185, 3905703318269238548, 3509086289884908746, -7812393588923196891, 6386172564946223992, -4409641630534818741, -8655692178281013874, -3011749507023715147, 6984388892848867253, 6076788485770240122, 5631695423073503270, 4914572923007335514, 6084654608730345290, -2153825292875232413, -3646414498081027604, 6680094068350107581, 1646886449713697444, 2020507147913352694, -3303994217607245247, 3977913688162645183, 1178025537514009798, 3785492089518760395, -3747519902996442744, 7475435828386755100, -8038917929080475726, 6469834937083110909, -357394026925774963, -8870364318931865324, -6435786387380814200, -2863363183951935283, 421240690329015366, -5894643608195237562, -4173115685080978678, -8626266151769696285, -3017343396002764435, -1615458154959455861, 8686792741840686921, -455285545571356331, -5625910463062582134, -7249194089463809738, 2472713925416834500, -6040256366589255861, 7367159176595145813, 479853718522038946, -4231636660467294405, 8911663099658056228, 3285717986006585042, 2293441350510172487, 6690597316488898792, 284311063598970757, 3364094412900547250, -6115711431424070220, 5801550829136035757, 3812276110645653290, 8776993992973814561, 8877988104280847705, -2799649150276266419, 2393368825972317543, 7833112986396103, -6318338841719778892, -4596810918605520008, 3480582342634222108, 2363525508855372457, -5287378050397800012, 689319326636901197, 999831101418899392, -8168872048566147190, 8187223789704774824, 5644039476861531328, 4177098473490297792, -7872866811925364485, -314025201494578110, -6444910600198553046, 3499595945611353143, -533191025837454980, 3431766336458946038, -2824729285786065464, 3754104405995943876, -5445057546654120649, 1014240138921014672, -7600302031901964976, -598518465924646481, 5342521520645652626, -8984358296977235049, 995010717509302858, -799347493067118869, -5442401751542183617, 5773809594761744998, -4002823960293952063, 7024814589908968516, 5121722104527473205, -5132779940573575139, -8005492415624748088, -4748238413347093736, -6599362416047294805, 524124497958944785, 7149174503279570998, -3795692665078447040, 117629005838913739, 527124988929497636, -8763305577815332594, 4902193639059460174, -1862571898043339054, -446549404724807673] (T6_1 b) = some (T6_22 b) := run_app (s6_1 b) (r6_2 b)
theorem r6_0 (b : Bool) : Nt.run [-2027804347301077785, 84528294608681607, -2301007418377239833, 5560240098410528440, 235738732889930499, -2543839907889301562, -1012816709796637158, 7325225040015936141, -1059243236066393807, 5765355112332435909, -4499184978583299980, 4759754221028791718, 2330882640004273974, 7866299038723367101, -5070805483911770179, -4841327046352607290, -7226862759338528730, 5849017484469322826, -6477841283141601778, 132463304270220980, -1401176646014042824, 5174246673661628679, 2133204549161242177, -4520905813031867050, 6513169870273989145, 5874208080739183550, -2162584322176920764, -2939801787649616911, 2292915454888611185, 3905703318269238548, 3509086289884908746, -7812393588923196891, 6386172564946223992, -4409641630534818741, -8655692178281013874, -3011749507023715147, 6984388892848867253, 6076788485770240122, 5631695423073503270, 4914572923007335514, 6084654608730345290, -2153825292875232413, -3646414498081027604, 6680094068350107581, 1646886449713697444, 2020507147913352694, -3303994217607245247, 3977913688162645183, 1178025537514009798, 3785492089518760395, -3747519902996442744, 7475435828386755100, -8038917929080475726, 6469834937083110909, -357394026925774963, -8870364318931865324, -6435786387380814200, -2863363183951935283, 421240690329015366, -5894643608195237562, -4173115685080978678, -8626266151769696285, -3017343396002764435, -1615458154959455861, 8686792741840686921, -455285545571356331, -5625910463062582134, -7249194089463809738, 2472713925416834500, -6040256366589255861, 7367159176595145813, 479853718522038946, -4231636660467294405, 8911663099658056228, 3285717986006585042, 2293441350510172487, 6690597316488898792, 284311063598970757, 3364094412900547250, -6115711431424070220, 5801550829136035757, 3812276110645653290, 8776993992973814561, 8877988104280847705, -2799649150276266419, 2393368825972317543, 7833112986396103, -6318338841719778892, -4596810918605520008, 3480582342634222108, 2363525508855372457, -5287378050397800012, 689319326636901197, 999831101418899392, -8168872048566147190, 8187223789704774824, 5644039476861531328, 4177098473490297792, -7872866811925364485, -314025201494578110, -6444910600198553046, 3499595945611353143, -533191025837454980, 3431766336458946038, -2824729285786065464, 3754104405995943876, -5445057546654120649, 1014240138921014672, -7600302031901964976, -598518465924646481, 5342521520645652626, -8984358296977235049, 995010717509302858, -799347493067118869, -5442401751542183617, 5773809594761744998, -4002823960293952063, 7024814589908968516, 5121722104527473205, -5132779940573575139, -8005492415624748088, -4748238413347093736, -6599362416047294805, 524124497958944785, 7149174503279570998, -3795692665078447040, 117629005838913739, 527124988929497636, -8763305577815332594, 4902193639059460174, -1862571898043339054, -446549404724807673] (T6_0 b) = some (T6_22 b) := run_app (s6_0 b) (r6_1 b)
theorem e6 (b : Bool) : Nt.endOk Z6.length (Nt.run Z6 (.fresh 0 0 b, [])) = true := by
  have h : Nt.run Z6 (.fresh 0 0 b, []) = some (T6_22 b) := r6_0 b
  rw [h]
  cases b <;> kernel_rfl
theorem cS_6 : Nt.allNew Z6 = true := and_i (e6 true) (e6 false)
end Lw

namespace Lw
open PySem PySem.Spec L2 Av
set_option autoImplicit false
set_option synthInstance.maxHeartbeats 0
set_option synthInstance.maxSize 100000
instance : NoG q_law_2 := by unfold q_law_2; infer_instance
instance : NoG q_law_3 := by unfold q_law_3; infer_instance
instance : NoG q_law_4 := by unfold q_law_4; infer_instance
instance : NoG q_law_5 := by unfold q_law_5; infer_instance
instance : NoG q_law_6 := by unfold q_law_6; infer_instance
instance : NoG q_law_7 := by unfold q_law_7; infer_instance
instance : NoG q_law_8 := by unfold q_law_8; infer_instance
instance : NoG q_law_11 := by unfold q_law_11; infer_instance

theorem all_2 (n : Nat) (hn : n ≤ 6) (g : G) : isL (HL n) (F_all_up [.val (.int ((n : Nat) : Int)), .val (.int ((n : Nat) : Int))] g) = true := by
  match n, hn with
  | 0, _ => exact c2_0 g
  | 1, _ => exact c2_1 g
  | 2, _ => exact c2_2 g
  | 3, _ => exact c2_3 g
  | 4, _ => exact c2_4 g
  | 5, _ => exact c2_5 g
  | 6, _ => exact c2_6 g
  | n + 7, hn => omega
theorem all_A (n : Nat) (hn : n ≤ 6) (g : G) : isF (tA (st3 n) g) = true := by
  match n, hn with
  | 0, _ => exact cA_0 g
  | 1, _ => exact cA_1 g
  | 2, _ => exact cA_2 g
  | 3, _ => exact cA_3 g
  | 4, _ => exact cA_4 g
  | 5, _ => exact cA_5 g
  | 6, _ => exact cA_6 g
  | n + 7, hn => omega
theorem all_B (n : Nat) (hn : n ≤ 6) (g : G) : isF (tB (st3 n) g) = true := by
  match n, hn with
  | 0, _ => exact cB_0 g
  | 1, _ => exact cB_1 g
  | 2, _ => exact cB_2 g
  | 3, _ => exact cB_3 g
  | 4, _ => exact cB_4 g
  | 5, _ => exact cB_5 g
  | 6, _ => exact cB_6 g
  | n + 7, hn => omega
theorem all_T (n : Nat) (hn : n ≤ 6) (g : G) : isZ (Z n) (eT (st3 n) g) = true := by
  match n, hn with
  | 0, _ => exact cT_0 g
  | 1, _ => exact cT_1 g
  | 2, _ => exact cT_2 g
  | 3, _ => exact cT_3 g
  | 4, _ => exact cT_4 g
  | 5, _ => exact cT_5 g
  | 6, _ => exact cT_6 g
  | n + 7, hn => omega
theorem all_N (n : Nat) (hn : n ≤ 6) : Nat.beq (Z n).length (HL n).length = true := by
  match n, hn with
  | 0, _ => exact cN_0
  | 1, _ => exact cN_1
  | 2, _ => exact cN_2
  | 3, _ => exact cN_3
  | 4, _ => exact cN_4
  | 5, _ => exact cN_5
  | 6, _ => exact cN_6
  | n + 7, hn => omega
theorem all_S (n : Nat) (hn : n ≤ 6) : Nt.allNew (Z n) = true := by
  match n, hn with
  | 0, _ => exact cS_0
  | 1, _ => exact cS_1
  | 2, _ => exact cS_2
  | 3, _ => exact cS_3
  | 4, _ => exact cS_4
  | 5, _ => exact cS_5
  | 6, _ => exact cS_6
  | n + 7, hn => omega
theorem all_4 (n : Nat) (hn : n ≤ 6) (g : G) : is3 n (blkB (st3 n) g) = true := by
  match n, hn with
  | 0, _ => exact c4_0 g
  | 1, _ => exact c4_1 g
  | 2, _ => exact c4_2 g
  | 3, _ => exact c4_3 g
  | 4, _ => exact c4_4 g
  | 5, _ => exact c4_5 g
  | 6, _ => exact c4_6 g
  | n + 7, hn => omega
theorem all_7 (n : Nat) (hn : n ≤ 6) (g : G) (x : Nat → Sl) : is7 n (blkC (sh3 n x) g) = true := by
  match n, hn with
  | 0, _ => exact c7_0 g x
  | 1, _ => exact c7_1 g x
  | 2, _ => exact c7_2 g x
  | 3, _ => exact c7_3 g x
  | 4, _ => exact c7_4 g x
  | 5, _ => exact c7_5 g x
  | 6, _ => exact c7_6 g x
  | n + 7, hn => omega
theorem all_8 (n : Nat) (hn : n ≤ 6) : ((HL n).all (hlB n) && !(HL n).isEmpty) = true := by
  match n, hn with
  | 0, _ => exact c8_0
  | 1, _ => exact c8_1
  | 2, _ => exact c8_2
  | 3, _ => exact c8_3
  | 4, _ => exact c8_4
  | 5, _ => exact c8_5
  | 6, _ => exact c8_6
  | n + 7, hn => omega
theorem all_11 (n : Nat) (hn : n ≤ 6) (g : G) (x : Nat → Sl) : okR (q_law_11 (shW n (low n) x) g) = true := by
  match n, hn with
  | 0, _ => exact c11_0 g x
  | 1, _ => exact c11_1 g x
  | 2, _ => exact c11_2 g x
  | 3, _ => exact c11_3 g x
  | 4, _ => exact c11_4 g x
  | 5, _ => exact c11_5 g x
  | 6, _ => exact c11_6 g x
  | n + 7, hn => omega
theorem all_l (n : Nat) (hn : n ≤ 6) (g : G) (x : Nat → Sl) : allH (ckL n g x) (2 * n) 0 [] = true := by
  match n, hn with
  | 0, _ => exact l0 g x
  | 1, _ => exact l1 g x
  | 2, _ => exact l2 g x
  | 3, _ => exact l3 g x
  | 4, _ => exact l4 g x
  | 5, _ => exact l5 g x
  | 6, _ => exact l6 g x
  | n + 7, hn => omega
theorem isL_is {l : List (List Int)} : ∀ {r : Res PD}, isL l r = true → ∃ g', r = .ok (.list (l.map tupI)) g'
  | .ok (.list ds) g', h => ⟨g', by rw [eqDL_is h]⟩
  | .ok .none _, h => by cases h
  | .ok (.bool _) _, h => by cases h
  | .ok (.int _) _, h => by cases h
  | .ok (.str _) _, h => by cases h
  | .ok (.tuple _) _, h => by cases h
  | .ok (.dict _) _, h => by cases h
  | .exc _ _, h => by cases h
  | .bad, h => by cases h

/-- a hill of 2 * n steps -/
structure Hl (n : Nat) (p : List Int) : Prop where
  ok : okP p = true
  len : p.length = 2 * n
  hill : hillB p = true

theorem bnd_ok {α β : Type} {x : Mo α} {f : α → Mo β} {g g' : G} {b : β} (h : bnd x f g = .ok b g') : ∃ a g1, x g = .ok a g1 ∧ f a g1 = .ok b g' := by
  unfold bnd at h
  cases e : x g with
  | ok a g1 => rw [e] at h; exact ⟨a, g1, rfl, h⟩
  | exc c g1 => rw [e] at h; cases h
  | bad => rw [e] at h; cases h
theorem lift_ok {α : Type} {o : Option α} {g g' : G} {a : α} (h : lift o g = .ok a g') : o = some a ∧ g' = g := by
  unfold lift at h
  cases o with
  | none => cases h
  | some b => cases h; exact ⟨rfl, rfl⟩
theorem eCall1 {h : List PD → Option PD} {f : List Sl → Mo PD} {Γ : List Sl} {g g' : G} {d z : PD} (e : f Γ g = .ok d g') (k : h [d] = some z) : eCall h (aCons f aNil) Γ g = .ok z g' := by
  unfold eCall aCons bnd
  rw [e]
  show lift (h [d]) g' = _
  rw [k]
  rfl
theorem lay_tups : ∀ l : List (List Int), PyData.canLayAll0 (l.map tupI) = true ∧ PyData.depthAll (l.map tupI) ≤ 1
  | [] => by simp [PyData.canLayAll0, PyData.depthAll]
  | x :: r => by
    obtain ⟨h1, h2⟩ := lay_tups r
    simp [tupI, PyData.canLayAll0, PyData.canLay0, PyData.depthAll, PyData.depth, lay_ints, depth_ints]
    exact ⟨h1, by omega⟩
theorem shaped_tups (l : List (List Int)) : SeqAt.shaped (.list (l.map tupI)) = true := by
  obtain ⟨h1, h2⟩ := lay_tups l
  show (PyData.canLay0 (.list (l.map tupI)) && decide (PyData.depth (.list (l.map tupI)) ≤ 64)) = true
  simp [PyData.canLay0, PyData.depth, h1]
  omega

theorem okN_is : ∀ {r : Res Fl}, okN r = true → ∃ Γ g', r = .ok (.next Γ) g'
  | .ok (.next Γ) g', _ => ⟨Γ, g', rfl⟩
theorem if_same {t : List Sl → Mo Bool} {e : List Sl → Mo PD} {Γ Γ' : List Sl} {g g' : G} (h : sIf t (sRet e) sNext Γ g = .ok (.next Γ') g') : Γ' = Γ := by
  obtain ⟨b, g1, h1, h⟩ := bnd_ok h
  cases b with
  | true =>
    have h : sRet e Γ g1 = .ok (Fl.next Γ') g' := h
    obtain ⟨d, g2, _, h⟩ := bnd_ok h
    cases h
  | false => cases h; rfl

theorem hlB_is {n : Nat} {p : List Int} (h : hlB n p = true) : Hl n p := by
  obtain ⟨h1, h2⟩ := and_e (show ((okP p && hillB p) && Nat.beq p.length (2 * n)) = true from h)
  obtain ⟨h3, h4⟩ := and_e h1
  exact ⟨h3, Nat.eq_of_beq_eq_true h2, h4⟩
def ar (p : List Int) : Nat := arN (htsN 0 p)
structure Way (n : Nat) (p : List Int) : Prop where
  ev : ∀ g x, e9 (shW n p x) g = .ok (.list ((lows 0 p).map tupI)) g
  few : ar p ≤ 40
  mem : ∀ q ∈ lows 0 p, Hl n q ∧ ar q < ar p
  some : p ≠ low n → lows 0 p ≠ []
theorem way_of {n : Nat} (hn : n ≤ 6) {p : List Int} (h : Hl n p) : Way n p := by
  have k := fun g x => and_e (show ((isL (lows 0 p) (e9 (shW n p x) g) && Nat.ble (arN (htsN 0 p)) 40) && ((lows 0 p).all (fun q => hlB n q && Nat.blt (arN (htsN 0 q)) (arN (htsN 0 p))) && (eqI p (low n) || !(lows 0 p).isEmpty))) = true from allH_hills (all_l n hn g x) h.ok h.len h.hill)
  have k0 := k ⟨[], 0, []⟩ (fun _ => .dead)
  obtain ⟨m1, m2⟩ := and_e k0.2
  refine ⟨fun g x => ?_, Nat.le_of_ble_eq_true (and_e k0.1).2, fun q hq => ?_, fun hne e => ?_⟩
  · obtain ⟨g', e⟩ := isL_is (and_e (k g x).1).1
    have : NoG e9 := by unfold e9; infer_instance
    cases this.ok e
    exact e
  · obtain ⟨h1, h2⟩ := and_e (List.all_eq_true.mp m1 q hq)
    exact ⟨hlB_is h1, Nat.lt_of_succ_le (Nat.le_of_ble_eq_true h2)⟩
  · rw [e] at m2
    cases e2 : eqI p (low n) with
    | true => exact hne (eqI_is e2)
    | false => rw [e2] at m2; cases m2
theorem t_pick (l : List (List Int)) (hl : l ≠ []) (g : G) (f : Few g 1) : ∃ x g', x ∈ l ∧ Gk g g' 1 ∧ F__law_pick [.obj 1, .obj 0, .val (.list (l.map tupI))] g = .ok (tupI x) g' := by
  have h0 : 0 < l.length := List.length_pos_iff.mpr hl
  obtain ⟨v, g', v0, v1, k, h⟩ := draw g ((l.length : Nat) : Int) f (by omega)
  obtain ⟨i, rfl⟩ := Int.eq_ofNat_of_zero_le v0
  have hi : i < l.length := by omega
  refine ⟨l[i], g', List.getElem_mem hi, k, ?_⟩
  have hx : ixD (.list (l.map tupI)) (.int (i : Int)) = some (tupI l[i]) := by
    show atI (l.map tupI) (i : Int) = _
    exact atI_nat (by rw [List.getElem?_map, List.getElem?_eq_getElem hi]; rfl)
  have h' : F__law_draw [.obj 1, .obj 0, .val (.int ((l.length : Nat) : Int))] g = .ok (.int ((i : Nat) : Int)) g' := h
  simp [runB, sSeq, sAsg, sRet, sIf, sDrop, sNext, sAug, sRaise, sFor, sApp, sOwn, sPar, sParOV, sParVO, sParOO, sPar3, sFrz, sExt, eBor, eC, eVar, getV, getO, getOw, eBin, eTest, eChain, bAnd, bOr, bNot, eAnd, eOr, eNot, eIf, aNil, aCons, sNil, sCons, sObj, eTup, eLst, eCall, eCallF, eUn, eUnD, eIsi, eSl, oNo, Av.oAt, fLst, fList, iSeq, iVia, tYesM, bnd, lift, Res.bind, Av.ret, frz, small, Nat.ble, Av.plain, le_i, gt_i, ge_i, lt_i, sub_i, add_i, ipAdd_i, ipSub_i, neg_i, is_b, isNot_b, asB_b, asI_i, isi_ii, isi_bi, isi_bb, isi_ib, isi_ti, isi_tt, isi_tl, isi_tn, isi_ts, isi_in, isi_is, isi_it, isi_il, F__law_pick, m__law_pick, lenD, h', hx]
/-! the way down -/
def wTest : List Sl → Mo Bool := eTest (eBin neD (eVar 4) (eVar 7))
def wBody : List Sl → Mo Fl := sSeq (sAsg 9 e9) (sSeq (sIf (eTest (eBin eqD (eVar 9) (eLst aNil))) (sRet (eC (.bool false))) sNext) (sAsg 4 (eCallF F__law_pick (sObj 0 (sObj 1 (sCons (eVar 9) sNil))))))
theorem w_test (n : Nat) (p : List Int) (x : Nat → Sl) (g : G) : wTest (shW n p x) g = .ok (!decide (p = low n)) g := by
  have h := neD_tup p (low n)
  simp [runB, sSeq, sAsg, sRet, sIf, sDrop, sNext, sAug, sRaise, sFor, sApp, sOwn, sPar, sParOV, sParVO, sParOO, sPar3, sFrz, sExt, eBor, eC, eVar, getV, getO, getOw, eBin, eTest, eChain, bAnd, bOr, bNot, eAnd, eOr, eNot, eIf, aNil, aCons, sNil, sCons, sObj, eTup, eLst, eCall, eCallF, eUn, eUnD, eIsi, eSl, oNo, Av.oAt, fLst, fList, iSeq, iVia, tYesM, bnd, lift, Res.bind, Av.ret, frz, small, Nat.ble, Av.plain, le_i, gt_i, ge_i, lt_i, sub_i, add_i, ipAdd_i, ipSub_i, neg_i, is_b, isNot_b, asB_b, asI_i, isi_ii, isi_bi, isi_bb, isi_ib, isi_ti, isi_tt, isi_tl, isi_tn, isi_ts, isi_in, isi_is, isi_it, isi_il, wTest, shW, h]
theorem eq_nil_tups {l : List (List Int)} (hl : l ≠ []) : eqD (.list (l.map tupI)) (.list []) = some (.bool false) := by
  have h1 : SeqAt.shaped (.list (l.map tupI)) = true := shaped_tups l
  have h2 : SeqAt.shaped (.list []) = true := shaped_tups []
  unfold eqD
  rw [h1, h2]
  cases l with
  | nil => exact absurd rfl hl
  | cons x r => simp [PyData.eqv, PyData.eqvAll]
theorem w_body {n : Nat} (hn : n ≤ 6) {p : List Int} (hp : Hl n p) (hne : p ≠ low n) (x : Nat → Sl) (g : G) (f : Few g 1) : ∃ q g' x', Hl n q ∧ ar q < ar p ∧ Gk g g' 1 ∧ wBody (shW n p x) g = .ok (.next (shW n q x')) g' := by
  have w := way_of hn hp
  have hs := w.some hne
  obtain ⟨q, g', hq, k, h⟩ := t_pick (lows 0 p) hs g f
  obtain ⟨h1, h2⟩ := w.mem q hq
  refine ⟨q, g', fun i => match i with | 9 => .val (.list ((lows 0 p).map tupI)) | _ => x i, h1, h2, k, ?_⟩
  have e := w.ev g x
  have hz := eq_nil_tups hs
  unfold wBody
  rw [sSeq_next (Γ' := [.obj 1, .obj 0, .val (.int ((n : Nat) : Int)), x 3, .val (tupI p), x 5, x 6, .val (tupI (low n)), x 8, .val (.list ((lows 0 p).map tupI)), x 10]) (g' := g) (by unfold sAsg bnd; rw [e]; rfl)]
  rw [sSeq_next (Γ' := [.obj 1, .obj 0, .val (.int ((n : Nat) : Int)), x 3, .val (tupI p), x 5, x 6, .val (tupI (low n)), x 8, .val (.list ((lows 0 p).map tupI)), x 10]) (g' := g) (by simp [runB, sSeq, sAsg, sRet, sIf, sDrop, sNext, sAug, sRaise, sFor, sApp, sOwn, sPar, sParOV, sParVO, sParOO, sPar3, sFrz, sExt, eBor, eC, eVar, getV, getO, getOw, eBin, eTest, eChain, bAnd, bOr, bNot, eAnd, eOr, eNot, eIf, aNil, aCons, sNil, sCons, sObj, eTup, eLst, eCall, eCallF, eUn, eUnD, eIsi, eSl, oNo, Av.oAt, fLst, fList, iSeq, iVia, tYesM, bnd, lift, Res.bind, Av.ret, frz, small, Nat.ble, Av.plain, le_i, gt_i, ge_i, lt_i, sub_i, add_i, ipAdd_i, ipSub_i, neg_i, is_b, isNot_b, asB_b, asI_i, isi_ii, isi_bi, isi_bb, isi_ib, isi_ti, isi_tt, isi_tl, isi_tn, isi_ts, isi_in, isi_is, isi_it, isi_il, hz])]
  simp [runB, sSeq, sAsg, sRet, sIf, sDrop, sNext, sAug, sRaise, sFor, sApp, sOwn, sPar, sParOV, sParVO, sParOO, sPar3, sFrz, sExt, eBor, eC, eVar, getV, getO, getOw, eBin, eTest, eChain, bAnd, bOr, bNot, eAnd, eOr, eNot, eIf, aNil, aCons, sNil, sCons, sObj, eTup, eLst, eCall, eCallF, eUn, eUnD, eIsi, eSl, oNo, Av.oAt, fLst, fList, iSeq, iVia, tYesM, bnd, lift, Res.bind, Av.ret, frz, small, Nat.ble, Av.plain, le_i, gt_i, ge_i, lt_i, sub_i, add_i, ipAdd_i, ipSub_i, neg_i, is_b, isNot_b, asB_b, asI_i, isi_ii, isi_bi, isi_bb, isi_ib, isi_ti, isi_tt, isi_tl, isi_tn, isi_ts, isi_in, isi_is, isi_it, isi_il, h, shW]
theorem w_loop {n : Nat} (hn : n ≤ 6) : ∀ (k : Nat) (p : List Int) (x : Nat → Sl) (fuel : Nat) (g : G), Hl n p → ar p ≤ k → k < fuel → Few g (k + 1) → ∃ (x' : Nat → Sl) (g' : G), Gk g g' k ∧ sWhile wTest wBody fuel (shW n p x) g = .ok (.next (shW n (low n) x')) g' := by
  intro k
  induction k with
  | zero =>
    intro p x fuel g hp ha hf f
    obtain ⟨m, rfl⟩ : ∃ m, fuel = m + 1 := ⟨fuel - 1, by omega⟩
    by_cases e : p = low n
    · subst e
      refine ⟨x, g, Gk.refl g, ?_⟩
      show (bnd (wTest _) _) g = _
      unfold bnd
      rw [w_test]
      simp [Res.bind, Av.ret]
    · obtain ⟨q, _, _, _, h2, _⟩ := w_body hn hp e x g (f.mono (by omega))
      omega
  | succ k ih =>
    intro p x fuel g hp ha hf f
    obtain ⟨m, rfl⟩ : ∃ m, fuel = m + 1 := ⟨fuel - 1, by omega⟩
    by_cases e : p = low n
    · subst e
      refine ⟨x, g, (Gk.refl g).up (by omega), ?_⟩
      show (bnd (wTest _) _) g = _
      unfold bnd
      rw [w_test]
      simp [Res.bind, Av.ret]
    · obtain ⟨q, g1, x1, h1, h2, k1, hb⟩ := w_body hn hp e x g (f.mono (by omega))
      obtain ⟨x', g', k2, hw⟩ := ih q x1 m g1 h1 (by omega) (by omega) (f.step k1 (by omega))
      refine ⟨x', g', (k1.trans k2).up (by omega), ?_⟩
      show (bnd (wTest _) _) g = _
      unfold bnd
      rw [w_test]
      show (if (!decide (p = low n)) = true then bnd (wBody _) _ else _) g = _
      rw [if_pos (by simpa using e)]
      unfold bnd
      rw [hb]
      exact hw
theorem law_true (ns : List Int) (hl : ns.length ≤ 63) : ∃ g', m_law (Γ0 11 1) ⟨ns, 0, []⟩ = .ok (.ret (.bool true)) g' := by
  have f0 : Few ⟨ns, 0, []⟩ 100 := ⟨hl, by show 0 + 100 ≤ 99999; decide⟩
  obtain ⟨v, g1, v0, v1, k1, h1⟩ := draw ⟨ns, 0, []⟩ 7 (f0.mono (by decide)) (by decide)
  have f1 := f0.step k1 (by decide)
  obtain ⟨n, rfl⟩ := Int.eq_ofNat_of_zero_le v0
  have hn : n ≤ 6 := by omega
  have e1 : q_law_1 (Γ0 11 1) ⟨ns, 0, []⟩ = .ok (.next [.obj 1, .obj 0, .val (.int (n : Int)), .dead, .dead, .dead, .dead, .dead, .dead, .dead, .dead]) g1 := by
    have h1' : F__law_draw [.obj 1, .obj 0, .val (.int 7)] ⟨ns, 0, []⟩ = .ok (.int ((n : Nat) : Int)) g1 := h1
    simp [runB, sSeq, sAsg, sRet, sIf, sDrop, sNext, sAug, sRaise, sFor, sApp, sOwn, sPar, sParOV, sParVO, sParOO, sPar3, sFrz, sExt, eBor, eC, eVar, getV, getO, getOw, eBin, eTest, eChain, bAnd, bOr, bNot, eAnd, eOr, eNot, eIf, aNil, aCons, sNil, sCons, sObj, eTup, eLst, eCall, eCallF, eUn, eUnD, eIsi, eSl, oNo, Av.oAt, fLst, fList, iSeq, iVia, tYesM, bnd, lift, Res.bind, Av.ret, frz, small, Nat.ble, Av.plain, le_i, gt_i, ge_i, lt_i, sub_i, add_i, ipAdd_i, ipSub_i, neg_i, is_b, isNot_b, asB_b, asI_i, isi_ii, isi_bi, isi_bb, isi_ib, isi_ti, isi_tt, isi_tl, isi_tn, isi_ts, isi_in, isi_is, isi_it, isi_il, q_law_1, Γ0, h1']
  have e2 : q_law_2 [.obj 1, .obj 0, .val (.int (n : Int)), .dead, .dead, .dead, .dead, .dead, .dead, .dead, .dead] g1 = .ok (.next (st3 n)) g1 := by
    obtain ⟨g', e⟩ := isL_is (all_2 n hn g1)
    have : NoG F_all_up := inferInstance
    cases this.ok e
    simp [runB, sSeq, sAsg, sRet, sIf, sDrop, sNext, sAug, sRaise, sFor, sApp, sOwn, sPar, sParOV, sParVO, sParOO, sPar3, sFrz, sExt, eBor, eC, eVar, getV, getO, getOw, eBin, eTest, eChain, bAnd, bOr, bNot, eAnd, eOr, eNot, eIf, aNil, aCons, sNil, sCons, sObj, eTup, eLst, eCall, eCallF, eUn, eUnD, eIsi, eSl, oNo, Av.oAt, fLst, fList, iSeq, iVia, tYesM, bnd, lift, Res.bind, Av.ret, frz, small, Nat.ble, Av.plain, le_i, gt_i, ge_i, lt_i, sub_i, add_i, ipAdd_i, ipSub_i, neg_i, is_b, isNot_b, asB_b, asI_i, isi_ii, isi_bi, isi_bb, isi_ib, isi_ti, isi_tt, isi_tl, isi_tn, isi_ts, isi_in, isi_is, isi_it, isi_il, q_law_2, st3, e]
  have e3 : q_law_3 (st3 n) g1 = .ok (.next (st3 n)) g1 := by
    obtain ⟨_, ea⟩ := isF_is (all_A n hn g1)
    have nA : NoG tA := by unfold tA; infer_instance
    cases nA.ok ea
    obtain ⟨_, eb⟩ := isF_is (all_B n hn g1)
    have nB : NoG tB := by unfold tB; infer_instance
    cases nB.ok eb
    obtain ⟨ds, _, et, em⟩ := isZ_is (all_T n hn g1)
    have nT : NoG eT := by unfold eT; infer_instance
    cases nT.ok et
    have eS : lenSetN (.list ds) = some (.int ((HL n).length : Nat)) := by
      show (match mapO (hOf 8) ds with | some zs => if Nt.allNew zs = true then some (PyData.int (zs.length : Nat)) else none | none => none) = _
      rw [em]
      show (if Nt.allNew (Z n) = true then some (PyData.int ((Z n).length : Nat)) else none) = _
      rw [if_pos (all_S n hn), Nat.eq_of_beq_eq_true (all_N n hn)]
    have q3 : q_law_3 = sIf (bOr tA (bOr tB (eTest (eBin neD (eUnD lenSetN eT) (eCall lenD (aCons (eVar 3) aNil)))))) (sRet (eC (.bool false))) sNext := rfl
    have ll : lenD [.list ((HL n).map tupI)] = some (.int ((HL n).length : Nat)) := by
      show some (PyData.int (((HL n).map tupI).length : Nat)) = _
      rw [List.length_map]
    have ev : eCall lenD (aCons (eVar 3) aNil) (st3 n) g1 = .ok (.int ((HL n).length : Nat)) g1 := eCall1 (d := .list ((HL n).map tupI)) (g' := g1) rfl ll
    have eu : eUnD lenSetN eT (st3 n) g1 = .ok (.int ((HL n).length : Nat)) g1 := by
      unfold eUnD bnd
      rw [et]
      show lift (lenSetN (.list ds)) g1 = _
      rw [eS]
      rfl
    have hz : neD (.int ((HL n).length : Nat)) (.int ((HL n).length : Nat)) = some (.bool false) := by rw [neD_int]; simp
    have ec : eTest (eBin neD (eUnD lenSetN eT) (eCall lenD (aCons (eVar 3) aNil))) (st3 n) g1 = .ok false g1 := by
      have := eBin_ok (h := neD) eu ev hz
      unfold eTest bnd
      rw [this]
      rfl
    rw [q3]
    simp [sIf, bOr, bnd, Res.bind, ea, eb, ec, sNext, Av.ret]
  obtain ⟨x4, g4, h4⟩ := is3_is (all_4 n hn g1)
  have n4 : NoG blkB := by unfold blkB; infer_instance
  cases n4.ok h4
  obtain ⟨x7, g7, h7⟩ := is7_is (all_7 n hn g1 x4)
  have n7 : NoG blkC := by unfold blkC; infer_instance
  cases n7.ok h7
  obtain ⟨a1, a2⟩ := and_e (all_8 n hn)
  have hne : HL n ≠ [] := fun e => by rw [e] at a2; cases a2
  obtain ⟨p, g9, hp, k9, h9⟩ := t_pick (HL n) hne g1 (f1.mono (by decide))
  have f9 := f1.step k9 (by decide)
  have hP : Hl n p := hlB_is (List.all_eq_true.mp a1 p hp)
  have e9 : q_law_9 (sh7 n x7) g1 = .ok (.next (shW n p fun i => match i with | 3 => .val (.list ((HL n).map tupI)) | _ => x7 i)) g9 := by
    simp [runB, sSeq, sAsg, sRet, sIf, sDrop, sNext, sAug, sRaise, sFor, sApp, sOwn, sPar, sParOV, sParVO, sParOO, sPar3, sFrz, sExt, eBor, eC, eVar, getV, getO, getOw, eBin, eTest, eChain, bAnd, bOr, bNot, eAnd, eOr, eNot, eIf, aNil, aCons, sNil, sCons, sObj, eTup, eLst, eCall, eCallF, eUn, eUnD, eIsi, eSl, oNo, Av.oAt, fLst, fList, iSeq, iVia, tYesM, bnd, lift, Res.bind, Av.ret, frz, small, Nat.ble, Av.plain, le_i, gt_i, ge_i, lt_i, sub_i, add_i, ipAdd_i, ipSub_i, neg_i, is_b, isNot_b, asB_b, asI_i, isi_ii, isi_bi, isi_bb, isi_ib, isi_ti, isi_tt, isi_tl, isi_tn, isi_ts, isi_in, isi_is, isi_it, isi_il, q_law_9, sh7, shW, h9]
  obtain ⟨x10, g10, k10, h10⟩ := w_loop hn 40 p (fun i => match i with | 3 => .val (.list ((HL n).map tupI)) | _ => x7 i) 64 g9 hP (way_of hn hP).few (by decide) (f9.mono (by decide))
  obtain ⟨g', h11⟩ := okR_is (all_11 n hn g10 x10)
  refine ⟨g', ?_⟩
  have as : m_law = sSeq q_law_1 (sSeq q_law_2 (sSeq q_law_3 (sSeq blkB (sSeq blkC (sSeq q_law_9 (sSeq q_law_10 q_law_11)))))) := by
    unfold m_law blkB blkC
    simp only [seq_assoc]
  rw [as, sSeq_next e1, sSeq_next e2, sSeq_next e3, sSeq_next h4, sSeq_next h7, sSeq_next e9]
  have h10' : q_law_10 (shW n p fun i => match i with | 3 => .val (.list ((HL n).map tupI)) | _ => x7 i) g9 = .ok (.next (shW n (low n) x10)) g10 := h10
  rw [sSeq_next h10']
  exact h11

end Lw

open PySem PySem.W PyProof.Rows
set_option maxRecDepth 100000 in
set_option maxHeartbeats 0 in
theorem PySem.Challenge.cw_abovepaths_k19_whole_averages_holds : PySem.Challenge.rw_abovepaths_k19_whole_averages.Holds := by
  w_on; o_law; k_head; (case hw => w_witness2)
  k_fill
  refine Av.walk_law (k := 7) (l := PySem.Challenge.rw_abovepaths_k19_whole_averages) rfl rfl (by decide) (by decide) (fun w h Y => PySem.W.kIn_of Y) ?F
  case F =>
    intro w mg fa h KX G hmg
    refine' Lw.all_mk KX G hmg (Av.xc_mk KX G ?xa7 ?xb7 ?xc7 ?xd7 ?xe7) (Av.xc_mk KX G ?xa2 ?xb2 ?xc2 ?xd2 ?xe2) (Av.xc_mk KX G ?xa0 ?xb0 ?xc0 ?xd0 ?xe0) (Av.xc_mk KX G ?xa5 ?xb5 ?xc5 ?xd5 ?xe5) (Av.gi_mk KX G ?g_MOST) (PySem.W.mg_none_of KX G ?n_all) (PySem.W.mg_none_of KX G ?n_bool) (PySem.W.mg_none_of KX G ?n_int) (PySem.W.mg_none_of KX G ?n_isinstance) (PySem.W.mg_none_of KX G ?n_len) (PySem.W.mg_none_of KX G ?n_min) (PySem.W.mg_none_of KX G ?n_range) (PySem.W.mg_none_of KX G ?n_set) (PySem.W.mg_none_of KX G ?n_sorted) (PySem.W.mg_none_of KX G ?n_sum) (PySem.W.mg_none_of KX G ?n_tuple) (PySem.W.mg_none_of KX G ?n_zip) (Av.fat_mk KX G ?a_is_integer ?l_is_integer ?c_is_integer ?k_is_integer) (Av.fat_mk KX G ?a_is_path ?l_is_path ?c_is_path ?k_is_path) (Av.fat_mk KX G ?a_check_path ?l_check_path ?c_check_path ?k_check_path) (Av.fat_mk KX G ?a_heights_of ?l_heights_of ?c_heights_of ?k_heights_of) (Av.fat_mk KX G ?a_is_up ?l_is_up ?c_is_up ?k_is_up) (Av.fat_mk KX G ?a_closes ?l_closes ?c_closes ?k_closes) (Av.fat_mk KX G ?a_check_hill ?l_check_hill ?c_check_hill ?k_check_hill) (Av.fat_mk KX G ?a_tree ?l_tree ?c_tree ?k_tree) (Av.fat_mk KX G ?a_check_hills ?l_check_hills ?c_check_hills ?k_check_hills) (Av.fat_mk KX G ?a_is_below ?l_is_below ?c_is_below ?k_is_below) (Av.fat_mk KX G ?a_area ?l_area ?c_area ?k_area) (Av.fat_mk KX G ?a_change_list ?l_change_list ?c_change_list ?k_change_list) (Av.fat_mk KX G ?a_changes ?l_changes ?c_changes ?k_changes) (Av.fat_mk KX G ?a_choose ?l_choose ?c_choose ?k_choose) (Av.fat_mk KX G ?a_check_steps ?l_check_steps ?c_check_steps ?k_check_steps) (Av.fat_mk KX G ?a_up_count ?l_up_count ?c_up_count ?k_up_count) (Av.fat_mk KX G ?a_count_up ?l_count_up ?c_count_up ?k_count_up) (Av.fat_mk KX G ?a_all_up ?l_all_up ?c_all_up ?k_all_up) (Av.fat_mk KX G ?a_touches ?l_touches ?c_touches ?k_touches) (Av.fat_mk KX G ?a__law_cell_at ?l__law_cell_at ?c__law_cell_at ?k__law_cell_at) (Av.fat_mk KX G ?a__law_mixed ?l__law_mixed ?c__law_mixed ?k__law_mixed) (Av.fat_mk KX G ?a__law_draw ?l__law_draw ?c__law_draw ?k__law_draw) (Av.fat_mk KX G ?a__law_pick ?l__law_pick ?c__law_pick ?k__law_pick) (Av.fat_mk KX G ?a__law_all_hills ?l__law_all_hills ?c__law_all_hills ?k__law_all_hills) (Av.fat_mk KX G ?a__law_chosen ?l__law_chosen ?c__law_chosen ?k__law_chosen) (Av.fat_mk KX G ?a_law ?l_law ?c_law ?k_law) Lw.law_true
    (case xa7 => k_is); (case xb7 => k_exc); (case xc7 => k_is); (case xd7 => k_is); (case xe7 => k_is)
    (case xa2 => k_is); (case xb2 => k_exc); (case xc2 => k_is); (case xd2 => k_is); (case xe2 => k_is)
    (case xa0 => k_is); (case xb0 => k_exc); (case xc0 => k_is); (case xd0 => k_is); (case xe0 => k_is)
    (case xa5 => k_is); (case xb5 => k_exc); (case xc5 => k_is); (case xd5 => k_is); (case xe5 => k_is)
    (case g_MOST => k_is)
    (case n_all => k_is)
    (case n_bool => k_is)
    (case n_int => k_is)
    (case n_isinstance => k_is)
    (case n_len => k_is)
    (case n_min => k_is)
    (case n_range => k_is)
    (case n_set => k_is)
    (case n_sorted => k_is)
    (case n_sum => k_is)
    (case n_tuple => k_is)
    (case n_zip => k_is)
    (case a_is_integer => k_is); (case l_is_integer => k_is); (case c_is_integer => k_is); (case k_is_integer => k_is)
    (case a_is_path => k_is); (case l_is_path => k_is); (case c_is_path => k_is); (case k_is_path => k_is)
    (case a_check_path => k_is); (case l_check_path => k_is); (case c_check_path => k_is); (case k_check_path => k_is)
    (case a_heights_of => k_is); (case l_heights_of => k_is); (case c_heights_of => k_is); (case k_heights_of => k_is)
    (case a_is_up => k_is); (case l_is_up => k_is); (case c_is_up => k_is); (case k_is_up => k_is)
    (case a_closes => k_is); (case l_closes => k_is); (case c_closes => k_is); (case k_closes => k_is)
    (case a_check_hill => k_is); (case l_check_hill => k_is); (case c_check_hill => k_is); (case k_check_hill => k_is)
    (case a_tree => k_is); (case l_tree => k_is); (case c_tree => k_is); (case k_tree => k_is)
    (case a_check_hills => k_is); (case l_check_hills => k_is); (case c_check_hills => k_is); (case k_check_hills => k_is)
    (case a_is_below => k_is); (case l_is_below => k_is); (case c_is_below => k_is); (case k_is_below => k_is)
    (case a_area => k_is); (case l_area => k_is); (case c_area => k_is); (case k_area => k_is)
    (case a_change_list => k_is); (case l_change_list => k_is); (case c_change_list => k_is); (case k_change_list => k_is)
    (case a_changes => k_is); (case l_changes => k_is); (case c_changes => k_is); (case k_changes => k_is)
    (case a_choose => k_is); (case l_choose => k_is); (case c_choose => k_is); (case k_choose => k_is)
    (case a_check_steps => k_is); (case l_check_steps => k_is); (case c_check_steps => k_is); (case k_check_steps => k_is)
    (case a_up_count => k_is); (case l_up_count => k_is); (case c_up_count => k_is); (case k_up_count => k_is)
    (case a_count_up => k_is); (case l_count_up => k_is); (case c_count_up => k_is); (case k_count_up => k_is)
    (case a_all_up => k_is); (case l_all_up => k_is); (case c_all_up => k_is); (case k_all_up => k_is)
    (case a_touches => k_is); (case l_touches => k_is); (case c_touches => k_is); (case k_touches => k_is)
    (case a__law_cell_at => k_is); (case l__law_cell_at => k_is); (case c__law_cell_at => k_is); (case k__law_cell_at => k_is)
    (case a__law_mixed => k_is); (case l__law_mixed => k_is); (case c__law_mixed => k_is); (case k__law_mixed => k_is)
    (case a__law_draw => k_is); (case l__law_draw => k_is); (case c__law_draw => k_is); (case k__law_draw => k_is)
    (case a__law_pick => k_is); (case l__law_pick => k_is); (case c__law_pick => k_is); (case k__law_pick => k_is)
    (case a__law_all_hills => k_is); (case l__law_all_hills => k_is); (case c__law_all_hills => k_is); (case k__law_all_hills => k_is)
    (case a__law_chosen => k_is); (case l__law_chosen => k_is); (case c__law_chosen => k_is); (case k__law_chosen => k_is)
    (case a_law => k_is); (case l_law => k_is); (case c_law => k_is); (case k_law => k_is)

