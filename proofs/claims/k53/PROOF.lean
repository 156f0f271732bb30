import PyProof.Rows.All
import Wide.All
import OpenK.AllK
import Wide.FinOn
import KE.GoesEnum
import HandS.ForMost
import HandS.ForExc
import HandS.TupMul
import HandS.New0
import HandS.New
import HandS.Style
import HandS.Rev
import HandS.Walk
import HandS.More
import HandS.Wide
import HandS.Gcd
import HandS.IsInst
import HandS.TupAny
import HandS.Zip
import HandS.SortInts
import HandS.Flow
import HandS.Small
import Flt.Len
import HandS.Words
import PySem.Challenge.RW_roundfractions_k53_judge_together_and_ap

section
set_option maxHeartbeats 0
set_option maxHeartbeats 0
set_option Elab.async false
set_option linter.all false
set_option maxRecDepth 100000
/-! Co0: a few more rules over the layer: tuple * int of any int, tuple[::-1], enumerate(tuple), an instance of a class without __init__, is of things of unlike kinds. -/
namespace L2
open PySem PySem.Spec PyProof.Rows
theorem tuple_mulS (l : Addr) (items : Array Value) (n : Nat) (dd : Option Addr) (sl : Array (Option Value)) (x : Int) (u : Tok) (c0 : (decide (x < -(2 ^ 63)) || decide (x ≥ 2 ^ 63)) = false) (c1 : (items.isEmpty || x == 1) = true) :
    Meets (Builtin.«tuple.__mul__» ⟨[.ref l, .int x u], []⟩) (fun _ R s => s.heap.get? l = some { cls := .type "tuple", dict := dd, data := .seq items n, slots := sl } ∧ R (.ok (.ret (Value.ref l))) s) :=
  .of_wp fun prog w A R s h => by
    obtain ⟨hp, g, d, tk, os⟩ := s
    obtain ⟨hl, h⟩ := h
    have f1 := AutoSeq1.idx_int
    wp_walk using wpAny_loadPart' hl
    repeat (first
      | (refine wpAny_ite_false (decide_eq_false (by rw [c0]; exact Bool.false_ne_true)) ?_; wp_walk using wpAny_loadPart' hl)
      | (refine wpAny_ite_true (decide_eq_true c1) ?_; wp_walk using wpAny_loadPart' hl))
    exact ⟨_, rfl, h⟩
theorem tuple_mulE (l : Addr) (items : Array Value) (n : Nat) (dd : Option Addr) (sl : Array (Option Value)) (x : Int) (u : Tok) (c0 : (decide (x < -(2 ^ 63)) || decide (x ≥ 2 ^ 63)) = false) (c1 : (items.isEmpty || x == 1) = false) (c2 : (decide (x ≤ 0) || items.isEmpty) = true) :
    Meets (Builtin.«tuple.__mul__» ⟨[.ref l, .int x u], []⟩) (fun _ R s => s.heap.get? l = some { cls := .type "tuple", dict := dd, data := .seq items n, slots := sl } ∧
      R (.ok (.ret (Value.ref s.heap.objs.size))) { s with heap := s.heap.push { cls := Value.type "tuple", data := Data.seq #[] }, toks := s.toks }) :=
  .of_wp fun prog w A R s h => by
    obtain ⟨hp, g, d, tk, os⟩ := s
    obtain ⟨hl, h⟩ := h
    have f1 := AutoSeq1.idx_int
    wp_walk using wpAny_loadPart' hl
    repeat (first
      | (refine wpAny_ite_false (decide_eq_false (by rw [c0]; exact Bool.false_ne_true)) ?_; wp_walk using wpAny_loadPart' hl)
      | (refine wpAny_ite_false (decide_eq_false (by rw [c1]; exact Bool.false_ne_true)) ?_; wp_walk using wpAny_loadPart' hl)
      | (refine wpAny_ite_true (decide_eq_true c2) ?_; wp_walk using wpAny_loadPart' hl))
    exact ⟨_, rfl, h⟩
/-- t * k, k up to a thousand -/
def rRepTA (K : PySem.W.Frag) : R2 := fun x y H Q => ∃ l k xs, x = .ref l ∧ y = .int k ∧ SqT K H l xs ∧ (-(2 ^ 63) ≤ k ∧ k ≤ 1000) ∧ xs.length ≤ 1000 ∧
  ((xs = [] ∨ k = 1) → Q (.ref l) H) ∧ (xs ≠ [] → k ≠ 1 → ∀ p, H p = none → Q (.ref p) (upd H p (.tup (List.replicate k.toNat xs).flatten)))
section
variable {X : Cx}
theorem op_repTA : OpR X (binaryOp .Mult) (rRepTA X.K) := by
  intro pins s σ H x y v u Q I rx ry h
  obtain ⟨l, k, xs, rfl, rfl, hT, ⟨h1, h2⟩, hz, q1, q2⟩ := h
  by_cases hs : xs = [] ∨ k = 1
  · cases rx
    obtain ⟨t, rfl⟩ := ry
    obtain ⟨its, r, ⟨⟨cls, dd, data, sl⟩, ho, hc, n, hd⟩, hs'⟩ := I.tuple hT
    simp only at hc hd
    subst hc hd
    have c0 : (decide (k < -(2 ^ 63)) || decide (k ≥ 2 ^ 63)) = false := by
      rw [decide_eq_false (by omega), decide_eq_false (by omega)] <;> rfl
    have c1 : (its.toArray.isEmpty || k == 1) = true := by
      rcases hs with e | e
      · subst e; cases r; rfl
      · subst e; simp
    refine wpAny_binaryOp_repeat_ref (T := "tuple") (U := "int") (by decide) ⟨_, ho, rfl⟩ (fun s' => typeIs_int s' k t) noFill_tuple_mul F.fills_int_mul F.slot_int_rmul repeat_tuple F.slot_int_index.lookup
      (call_meets F.slot_int_rmul (typeIs_int s k t) F.entry_int_rmul (F.args_int_rmul_2 _ _) (int_rmul_tuple k t l its.toArray n dd sl)
        ⟨ho, rfl, ⟨_, ho, rfl⟩, call_meets F.slot_tuple_mul ⟨_, ho, rfl⟩ F.entry_tuple_mul (F.args_tuple_mul_2 _ _) (tuple_mulS l its.toArray n dd sl k t c0 c1) ⟨ho, ?_⟩⟩)
    exact ⟨.ref l, H, I, rfl, q1 hs⟩
  · have hne : xs ≠ [] := fun e => hs (.inl e)
    have hk : k ≠ 1 := fun e => hs (.inr e)
    by_cases hp : 2 ≤ k
    · exact op_repT pins s σ H _ _ v u Q I rx ry ⟨l, k, xs, rfl, rfl, hT, hne, hp, h2, hz, q2 hne hk⟩
    · cases rx
      obtain ⟨t, rfl⟩ := ry
      obtain ⟨its, r, ⟨⟨cls, dd, data, sl⟩, ho, hc, n, hd⟩, hs'⟩ := I.tuple hT
      simp only at hc hd
      subst hc hd
      have hn : its ≠ [] := fun e => hne (by subst e; cases r; rfl)
      have hi : its.toArray.isEmpty = false := by
        cases its with
        | nil => exact absurd rfl hn
        | cons a b => rfl
      have c0 : (decide (k < -(2 ^ 63)) || decide (k ≥ 2 ^ 63)) = false := by
        rw [decide_eq_false (by omega), decide_eq_false (by omega)] <;> rfl
      have c1 : (its.toArray.isEmpty || k == 1) = false := by
        rw [hi, Bool.false_or]; exact beq_eq_false_iff_ne.mpr hk
      have c2 : (decide (k ≤ 0) || its.toArray.isEmpty) = true := by
        rw [decide_eq_true (by omega)]; rfl
      refine wpAny_binaryOp_repeat_ref (T := "tuple") (U := "int") (by decide) ⟨_, ho, rfl⟩ (fun s' => typeIs_int s' k t) noFill_tuple_mul F.fills_int_mul F.slot_int_rmul repeat_tuple F.slot_int_index.lookup
        (call_meets F.slot_int_rmul (typeIs_int s k t) F.entry_int_rmul (F.args_int_rmul_2 _ _) (int_rmul_tuple k t l its.toArray n dd sl)
          ⟨ho, rfl, ⟨_, ho, rfl⟩, call_meets F.slot_tuple_mul ⟨_, ho, rfl⟩ F.entry_tuple_mul (F.args_tuple_mul_2 _ _) (tuple_mulE l its.toArray n dd sl k t c0 c1 c2) ⟨ho, ?_⟩⟩)
      have e0 : k.toNat = 0 := by omega
      have q := q2 hne hk _ (I.hok.fresh (Nat.le_refl _))
      rw [e0] at q
      refine ⟨.ref s.heap.objs.size, _, I.laid (t' := s.toks) (o := .tup []) (fun b ob q => Heap.get?_push_of_some _ q) (Nat.le_refl _) ?_, rfl, q⟩
      exact ⟨Nat.zero_le _, [], .nil, IsTup.new _ _⟩

/-! ### t[::-1] -/
theorem filterMap_congr' {α β : Type} {f g : α → Option β} : ∀ {l : List α}, (∀ k ∈ l, f k = g k) → l.filterMap f = l.filterMap g
  | [], _ => rfl
  | a :: l, h => by
    rw [List.filterMap_cons, List.filterMap_cons, h a (by simp), filterMap_congr' fun k hk => h k (by simp [hk])]
theorem rev_pick (items : Array Value) : ((List.range items.size).filterMap fun (k : Nat) => items[(((items.size : Int) - 1) + (k : Int) * (-1)).toNat]?).toArray = items.toList.reverse.toArray := by
  congr 1
  have e : ∀ (l : List Value), ((List.range l.length).filterMap fun (k : Nat) => l[(((l.length : Int) - 1) + (k : Int) * (-1)).toNat]?) = l.reverse := by
    intro l
    have e1 : ((List.range l.length).filterMap fun (k : Nat) => l[(((l.length : Int) - 1) + (k : Int) * (-1)).toNat]?) = ((List.range l.length).map (fun k => l.length - 1 - k)).filterMap (l[·]?) := by
      rw [List.filterMap_map]
      refine filterMap_congr' fun k hk => ?_
      have hk' : k < l.length := List.mem_range.mp hk
      show l[(((l.length : Int) - 1) + (k : Int) * (-1)).toNat]? = l[l.length - 1 - k]?
      congr 1
      omega
    rw [e1, PySem.W.krv_range, List.filterMap_reverse]
    congr 1
    have := PySem.W.krv_all l.toArray
    simpa using this
  have := e items.toList
  simpa using this
theorem getItem_tuple_rev {prog : Program} {w : World} {A : Around} {E : Value → Shared → Prop} {s : Shared} {t sl : Addr} {items : Array Value} {vl vu vk : Value} {Q : Value → Shared → Prop} (ht : IsTup s.heap t items) (hs : s.heap.IsSliceOf sl vl vu vk) (pl : IsPart vl none) (pu : IsPart vu none) (pk : IsPart vk (some (-1)))
    (h : Q (.ref s.heap.objs.size) { s with heap := s.heap.push { cls := .type "tuple", data := .seq (items.toList.reverse).toArray } })
    (hsz : items.size ≤ sizeLine) : wpAny (model prog w) A (getItem (.ref t) (.ref sl)) Q E s := by
  have hrev : sizeOk (.seq (items.toList.reverse).toArray) := by
    show (items.toList.reverse).toArray.size ≤ sizeLine
    rw [List.size_toArray, List.length_reverse, Array.length_toList]; exact hsz
  obtain ⟨os, hos, hcs, hds⟩ := id hs
  have hTs : s.TypeIs (.ref sl) "slice" := ⟨os, hos, hcs⟩
  unfold getItem
  try with_reducible refine wpAny_holding ?_
  first | refine wpAny_bind (wpAny_pure ?_) | skip
  refine wpAny_bind (wpAny_sequenceKey ht.typeIs (by decide) ?_)
  refine wpAny_bind (wpAny_callSpecial?_slot (name := Str.ofString "__getitem__") ht.typeIs PyProof.Rows.slot_tuple_getitem
    (wpAny_call_entry PyProof.Rows.slot_tuple_getitem ht.typeIs entry_tuple_getitem ?_ (args_tuple_getitem _ _)))
  show wpAny _ _ (Builtin.Tuple.tupleItemsOf (.ref t) >>= _) _ _ s
  refine wpAny_bind (tupleItemsOf_ ht ?_)
  refine wpAny_bind (wpAny_typeOf hTs ?_)
  rw [if_pos (by decide)]
  have app : ∀ {Q : Int × Int × Nat → Shared → Prop}, Q ((items.size : Int) - 1, -1, items.size) s → wpAny (model prog w) A.in1 (Builtin.Slice.sliceApplied (.ref sl) (pure (items.size : Int))) Q E s := by
    intro Q hq
    unfold Builtin.Slice.sliceApplied Builtin.Slice.sliceFields
    refine wpAny_bind (wpAny_bind (wpAny_field hos hds (x := vl) rfl (wpAny_bind (wpAny_field hos hds (x := vu) rfl (wpAny_bind (wpAny_field hos hds (x := vk) rfl (wpAny_pure ?_)))))))
    refine wpAny_bind (HT.slicePart_ pk ?_)
    show wpAny _ _ (if ((-1 : Int) == 0) = true then _ else _) _ _ s
    rw [if_neg (by decide)]
    refine wpAny_bind (HT.slicePart_ pl (wpAny_bind (HT.slicePart_ pu (wpAny_bind (wpAny_pure ?_)))))
    show wpAny _ _ (match Builtin.Slice.sliceAdjust none none (-1) (items.size : Int) with | (lo, hi) => pure (lo, (-1 : Int), Builtin.Slice.slicePlaces lo hi (-1))) _ _ s
    have e1 : Builtin.Slice.sliceAdjust none none (-1) (items.size : Int) = ((items.size : Int) - 1, -1) := rfl
    rw [e1]
    have e2 : Builtin.Slice.slicePlaces ((items.size : Int) - 1) (-1) (-1) = items.size := by
      unfold Builtin.Slice.slicePlaces
      rw [if_neg (by decide)]
      split
      · rw [show (- -1 : Int) = 1 from rfl, Int.ediv_one]; omega
      · omega
    show wpAny _ _ (pure ((items.size : Int) - 1, (-1 : Int), Builtin.Slice.slicePlaces ((items.size : Int) - 1) (-1) (-1))) _ _ s
    rw [e2]
    exact wpAny_pure hq
  refine wpAny_bind (app ?_)
  have hno : ¬ (((((items.size : Int) - 1 : Int)) == 0 && (-1 : Int) == 1 && items.size == items.size) = true) := by
    intro q
    rw [Bool.and_eq_true, Bool.and_eq_true] at q
    exact absurd (eq_of_beq q.1.2) (by decide)
  show wpAny _ _ (if ((((items.size : Int) - 1 : Int)) == 0 && (-1 : Int) == 1 && items.size == items.size) = true then _ else _) _ _ s
  rw [if_neg hno, rev_pick]
  first
    | exact wpAny_bind (m := Builtin.Tuple.tupleExact _) (wpAny_newObj_type (wpAny_pure ⟨_, rfl, wpAny_pure h⟩) hrev)
    | exact wpAny_bind (m := Builtin.Tuple.tupleExact _) (wpAny_newObj_type (wpAny_bind (wpAny_pure (wpAny_pure ⟨_, rfl, wpAny_pure h⟩))) hrev)
    | exact wpAny_bind (wpAny_bind (m := Builtin.Tuple.tupleExact _) (wpAny_newObj_type (wpAny_pure (wpAny_pure ⟨_, rfl, wpAny_pure h⟩)) hrev))
    | exact wpAny_bind (wpAny_bind (m := Builtin.Tuple.tupleExact _) (wpAny_newObj_type (wpAny_pure ⟨_, rfl, wpAny_pure h⟩) hrev))
def tRevA (K : PySem.W.Frag) (te : TE) : TE := fun σ H Q => te σ H fun x H1 => ∃ a xs, x = .ref a ∧
  ((SqL K H1 a xs ∧ ∀ p, H1 p = none → Q (.ref p) (upd H1 p (.lst xs.reverse))) ∨ (SqT K H1 a xs ∧ ∀ p, H1 p = none → Q (.ref p) (upd H1 p (.tup xs.reverse))))
theorem pe_revA {e : Expr} {te : TE} {k : Nat} {p1 p2 p3 pos : Pos} (he : PE X e te) : PE X (.Subscript e (.Slice none none (some (.UnaryOp .USub (.Constant (.int 1) k p1) p2)) p3) pos) (tRevA X.K te) := by
  refine ⟨fun pins s σ H Q I h => ?_⟩
  refine Subscript_ (thn (he.run pins s σ H _ I h) fun v s1 ⟨x, H1, I1, r1, q1⟩ => ?_)
  obtain ⟨a, xs, ex, q1⟩ := q1
  subst ex
  cases r1
  have hst : PO X (some (.UnaryOp .USub (.Constant (.int 1) k p1) p2)) (tPart (tUn (rU fun i => .int (-i)) (tC (.int 1)))) := po_some (pe_un un_neg pe_int)
  refine wpAny_Slice (thn (po_none.run pins s1 σ H1 (fun o H2 => o = none ∧ H2 = H1) I1 ⟨rfl, rfl⟩) fun vl s2 ⟨l, H2, I2, pl, el, e2⟩ => ?_)
  subst el e2
  refine thn (po_none.run pins s2 σ H2 (fun o H3 => o = none ∧ H3 = H2) I2 ⟨rfl, rfl⟩) fun vu s3 ⟨u, H3, I3, pu, eu, e3⟩ => ?_
  subst eu e3
  refine thn (hst.run pins s3 σ H3 (fun o H4 => o = some (-1) ∧ H4 = H3) I3 ⟨1, rfl, -1, rfl, rfl, rfl⟩) fun vs s4 ⟨o, H4, I4, ps, eo, e4⟩ => ?_
  subst eo e4
  have I5 : Inv X pins σ H4 { s4 with heap := s4.heap.push { cls := .type "slice", data := .fields #[vl, vu, vs] } } := I4.kept (t' := s4.toks) fun b ob q => Heap.get?_push_of_some _ q
  show wpAny (model X.prog X.w) X.A (subscriptTail e (.Slice none none (some (.UnaryOp .USub (.Constant (.int 1) k p1) p2)) p3) (.ref a) (.ref s4.heap.objs.size)) (EP X pins σ Q) X.xe { s4 with heap := s4.heap.push { cls := .type "slice", data := .fields #[vl, vu, vs] } }
  rcases q1 with ⟨hx, q⟩ | ⟨hx, q⟩
  · obtain ⟨its, r, ht, hz⟩ := I5.list hx
    have hlen := r.length
    refine tail_any (ops := [.ref a, .ref s4.heap.objs.size]) ht.isList.typeIs (PySem.slot_list_getitem.lookup) ?_ (by with_unfolding_all rfl)
    refine wpAny_getItem_list_slice ht.isList (Heap.IsSliceOf.new _ vl vu vs) pl pu ps (by decide) ?_ (by rw [List.size_toArray]; omega)
    rw [PySem.W.krv_pick]
    refine ⟨.ref _, _, I5.laid (t' := s4.toks) (o := .lst xs.reverse) (fun b ob q => Heap.get?_push_of_some _ q) (Nat.le_refl _) ?_, rfl, q _ (I5.hok.fresh (Nat.le_refl _))⟩
    exact ⟨by rw [List.length_reverse]; exact hz, _, 0, r.reverse, Heap.get?_push_size _ rfl⟩
  · obtain ⟨its, r, ht, hz⟩ := I5.tuple hx
    have hlen := r.length
    refine tail_any (ops := [.ref a, .ref s4.heap.objs.size]) ht.typeIs (PyProof.Rows.slot_tuple_getitem.lookup) ?_ (by with_unfolding_all rfl)
    refine getItem_tuple_rev ht (Heap.IsSliceOf.new _ vl vu vs) pl pu ps ?_ (by rw [List.size_toArray]; omega)
    refine ⟨.ref _, _, I5.laid (t' := s4.toks) (o := .tup xs.reverse) (fun b ob q => Heap.get?_push_of_some _ q) (Nat.le_refl _) ?_, rfl, q _ (I5.hok.fresh (Nat.le_refl _))⟩
    exact ⟨by rw [List.length_reverse]; exact hz, _, r.reverse, IsTup.new _ _⟩

/-! ### enumerate(tuple) -/
def IteT (K : PySem.W.Frag) (a : Addr) : It :=
  ⟨fun i H => ∃ (xs : List V) (x : V), SqT K H a xs ∧ xs[i]? = some x, fun i H v H' => ∃ T x, v = .ref T ∧ H T = none ∧ H' = upd H T (.tup [.int (i : Nat), x]) ∧ ∀ xs, SqT K H a xs → xs[i]? = some x, fun i H => ∃ xs : List V, SqT K H a xs ∧ xs.length = i⟩
theorem tup_of {h : Heap} {a : Addr} {its : Array Value} (p : IsTup h a its) : h.IsTuple a its := by
  first | exact p | exact p.isTuple | (obtain ⟨o, e, c, n, d⟩ := p; exact ⟨o, e, c, n, d⟩)
theorem turn_enumT {P : Program} {w : World} {K : PySem.W.Frag} {elts : List Expr} {kk : Nat} {tpos : Pos} (a e it : Addr) :
    Turn P w K (.Tuple elts kk tpos) (IteT K a) [e, it] e (fun i h => (∃ old, IsEnum h e it ((i : Nat) : Int) old) ∧ h.IsTupleIter it a i ∧ e ≠ it ∧ a ≠ it ∧ e ≠ a) where
  mem := by simp
  obj := fun i h st b hb => by
    obtain ⟨⟨old, he⟩, ⟨o, ho, hc, hd⟩, _⟩ := st
    have e' : b = e ∨ b = it := by simpa using hb
    rcases e' with z | z
    · rw [z]; exact ⟨_, he, fun v q => nomatch q⟩
    · rw [z]; exact ⟨o, ho, fun v q => by rw [hd] at q; cases q⟩
  keep := fun i h h' st k => let ⟨⟨old, he⟩, hi, hne⟩ := st; ⟨⟨old, k e (by simp) _ he⟩, hi.at fun o q => k it (by simp) o q, hne⟩
  item := by
    intro X hP hw hK hc i pins s σ H E I hf st hg
    subst hP hw hK
    obtain ⟨⟨old, he⟩, hit, hne, hat, hea⟩ := st
    obtain ⟨xs, x, hq, hx⟩ := hg
    obtain ⟨its, rv, p, hz⟩ := I.tuple hq
    obtain ⟨u, hu, ru⟩ := rv.get hx
    have hel : e < s.heap.objs.size := Heap.lt_size he
    have hil : it < s.heap.objs.size := by obtain ⟨_, q, _⟩ := hit; exact Heap.lt_size q
    have hi : i < its.toArray.size := by rw [List.size_toArray]; exact (List.getElem?_eq_some_iff.mp hu).1
    refine wpAny_pyNext_enum_itemD (Draws.tuple (show X.A.in1.handled = none from I.ok.hd hc) it a hat its.toArray) he ⟨hit, tup_of p⟩ hi hne (by simp; exact ⟨hne, hea⟩) fun u2 h' tk hu2 ho hst hT hsz hk => ?_
    have eu : u2 = u := by
      have q : its[i]? = some u2 := by simpa using hu2
      rw [hu] at q; exact (Option.some.inj q).symm
    subst eu
    refine ⟨_, rfl, wpAny_letOwnedTupleGo_enum (s := { s with heap := h', toks := tk + 1 }) ho fun h'' he' sb => ?_⟩
    have hT2 : h''.get? s.heap.objs.size = some { cls := .type "tuple", data := .seq #[.int i tk, u2] } := (sb.2 _ (Nat.ne_of_gt hel)).trans hT
    have new : ObjOk X.prog X.w (upd H s.heap.objs.size (.tup [.int (i : Nat), x])) h'' s.heap.objs.size (.tup [.int (i : Nat), x]) :=
      ⟨by show 2 ≤ sizeLine; decide, [.int i tk, u2], .cons ⟨_, rfl⟩ (.cons ru .nil), ⟨_, hT2, rfl, _, rfl⟩⟩
    have I1 : Inv X pins σ (upd H s.heap.objs.size (.tup [.int (i : Nat), x])) { s with heap := h'', toks := tk + 1 } :=
      I.turnedNew (ch := [e, it]) (fun b ob hb q => (sb.2 b (fun z => hb (by simp [z]))).trans (hk b ob (fun z => hb (by simp [z])) (fun z => hb (by simp [z])) q)) hf (Nat.le_refl _) new
    refine ⟨.ref s.heap.objs.size, _, I1, rfl, ⟨_, x, rfl, I.hok.fresh (Nat.le_refl _), rfl, fun ys hy => by rw [I.tuple_inj hy hq]; exact hx⟩, ⟨⟨u2, ?_⟩, hst.1.at fun o q => (sb.2 it (Ne.symm hne)).trans q, hne, hat, hea⟩, fun b hb => ?_⟩
    · have e1 : ((i + 1 : Nat) : Int) = (i : Int) + 1 := by omega
      rw [e1]; exact he'
    · have hb' : b < s.heap.objs.size := by
        have e' : b = e ∨ b = it := by simpa using hb
        rcases e' with z | z
        · rw [z]; exact hel
        · rw [z]; exact hil
      rw [upd_ne (Nat.ne_of_lt hb')]
      exact (hf b hb).1
  done := by
    intro X hP hw hK hc i pins s σ H E I hf st hg
    subst hP hw hK
    obtain ⟨⟨old, he⟩, hit, hne, hat, hea⟩ := st
    obtain ⟨xs, hq, hx⟩ := hg
    obtain ⟨its, rv, p, hz⟩ := I.tuple hq
    obtain ⟨f0, f1, f2, f3, f4, f5⟩ := hf it (by simp)
    have hl := rv.length
    have ei : i = its.toArray.size := by rw [List.size_toArray]; omega
    subst ei
    exact wpAny_pyNext_enum_endD (Draws.tuple (show X.A.in1.handled = none from I.ok.hd hc) it a hat its.toArray) he ⟨hit, tup_of p⟩ fun h' eb => ⟨rfl, I.turned (t' := s.toks) (fun b o hb q => eb b o hb q) f0 f1 f3 f4 f5⟩
  self := fun A i s Q E st h => let ⟨⟨_, he⟩, _⟩ := st; wpAny_pyIter_enum he h
theorem meets_enumerate_newB1 {v : Value} {o : Obj} {H : Heap → Prop} (B : Begins v o H) :
    Meets (Builtin.«enumerate.__new__» ⟨[.type "enumerate", v], []⟩) (fun _ R s => H s.heap ∧
      R (.ok (.ret (.ref (s.heap.push o).objs.size))) { s with heap := (s.heap.push o).push { cls := .type "enumerate", data := .fields #[.none, .bool false, .ref s.heap.objs.size, rawInt 0, .none, .none] } }) :=
  .of_wp fun prog w A R s h => by
    obtain ⟨hp, g, d, tk, os⟩ := s; obtain ⟨h1, h⟩ := h
    have hsub := sub_enumerate
    have q1 : ∀ {A' : Around} {E : Value → Shared → Prop} {Q : Value → Shared → Prop}, Q (.ref hp.objs.size) ⟨hp.push o, g, d, tk, os⟩ → wpAny (model prog w) A' (pyIter v) Q E ⟨hp, g, d, tk, os⟩ :=
      fun q => B.iter prog w _ _ ⟨hp, g, d, tk, os⟩ _ h1 q
    wp_walk using q1
    refine wpAny_stack_any fun st => wpAny_pure ?_
    split
    · rename_i c _ _ _ _ _
      cases (c == Value.type "enumerate")
      · wp_walk using q1
        exact ⟨_, rfl, h⟩
      · wp_walk using q1
        exact ⟨_, rfl, h⟩
    · wp_walk using q1
      exact ⟨_, rfl, h⟩
theorem call_enumerate_tup {M : Model} {A : Around} {E : Value → Shared → Prop} {s : Shared} {prog : Program} {w : World} {t : Addr} {items : Array Value} {Q : Value → Shared → Prop} (hT : s.heap.IsTuple t items)
    (h : ∀ h', IsEnum h' (s.heap.objs.size + 1) s.heap.objs.size 0 .none → h'.IsTupleIter s.heap.objs.size t 0 → h'.objs.size = s.heap.objs.size + 2 →
      (∀ b o, s.heap.get? b = some o → h'.get? b = some o) → Q (.ref (s.heap.objs.size + 1)) { s with heap := h' }) :
    wpAny (model prog w) A (call (.type "enumerate") [.ref t]) Q E s := by
  refine callType_new F.called_enumerate (by decide) (F.typeCall_enumerate_1 _) (F.newCall_enumerate_1 _) (fun obj => F.args_object_init_2 obj _) F.entry_enumerate_new
    (meets_enumerate_newB1 (begins_tuple t items)) ⟨hT, ?_⟩
  have hz : (s.heap.push { cls := .type "tuple_iterator", data := .fields #[.ref t, .int 0 0] }).objs.size = s.heap.objs.size + 1 := Heap.size_push ..
  show _ ∧ _
  rw [hz]
  have he : IsEnum ((s.heap.push { cls := .type "tuple_iterator", data := .fields #[.ref t, .int 0 0] }).push
      { cls := .type "enumerate", data := .fields #[.none, .bool false, .ref s.heap.objs.size, rawInt 0, .none, .none] }) (s.heap.objs.size + 1) s.heap.objs.size 0 .none := by
    have := Heap.get?_push_size (s.heap.push { cls := .type "tuple_iterator", data := .fields #[.ref t, .int 0 0] })
      (o := { cls := .type "enumerate", data := .fields #[.none, .bool false, .ref s.heap.objs.size, rawInt 0, .none, .none] }) rfl
    rw [hz] at this; exact this
  refine ⟨⟨_, he, rfl⟩, h _ he ⟨_, Heap.get?_push_of_some _ (Heap.get?_push_size _ rfl), rfl, rfl⟩ (by rw [Heap.size_push, hz]) fun b o x => Heap.get?_push_of_some _ (Heap.get?_push_of_some _ x)⟩
def iEnumA (K : PySem.W.Frag) (ta : TA) : TI := fun σ H R => ta σ H fun vs H1 => ∃ a xs, vs = [.ref a] ∧ ((SqL K H1 a xs ∧ R (Ite K a) H1) ∨ (SqT K H1 a xs ∧ R (IteT K a) H1))
theorem pi_enumA {X : Cx} {e : Expr} {ta : TA} {p pos tpos : Pos} {elts : List Expr} {kk : Nat} (hg : Gl X "enumerate") (hm : X.mg "enumerate" = none) (ha : PA X [e] ta) (hs : starEach [e] X.env = [(false, eval e X.env)] := by rfl) :
    PI X (.Tuple elts kk tpos) (.Call (.Name "enumerate" p) [e] [] pos) (iEnumA X.K ta) := by
  refine ⟨fun pins s σ H R I h => ?_⟩
  refine Call_ (ld_blt I hg hm boot_enumerate (PyProof.Rows.callWith_type1 (thn (ha.run pos pins s σ H _ I h) fun us s1 ⟨vs, H1, I1, r1, q1⟩ => ?_) hs rfl))
  obtain ⟨a, xs, ex, q1⟩ := q1
  subst ex
  cases r1 with
  | cons r rr =>
    cases rr
    cases r
    have far : ∀ b, (b = s1.heap.objs.size + 1 ∨ b = s1.heap.objs.size) → s1.heap.objs.size ≤ b := fun b e' => by
      rcases e' with z | z
      · rw [z]; exact Nat.le_add_right _ _
      · rw [z]; exact Nat.le_refl _
    rcases q1 with ⟨hq, q⟩ | ⟨hq, q⟩
    · obtain ⟨its, rv, p', hz⟩ := I1.list hq
      refine call_enumerate_list p'.isList fun h' he hit hsz hk => wpAny_pyIter_enum he ?_
      have I2 : Inv X pins σ H1 { s1 with heap := h' } := I1.kept (t' := s1.toks) hk
      refine ⟨s1.heap.objs.size + 1, [s1.heap.objs.size + 1, s1.heap.objs.size], _, _, H1, rfl, I2, turn_enum a (s1.heap.objs.size + 1) s1.heap.objs.size, ⟨⟨.none, he⟩, hit, Nat.succ_ne_self _⟩, fun b hb => ?_, q⟩
      have hle := far b (by simpa using hb)
      exact I1.fpOk hle (I1.hok.fresh hle)
    · obtain ⟨its, rv, p', hz⟩ := I1.tuple hq
      have hal : a < s1.heap.objs.size := p'.lt
      refine call_enumerate_tup (M := model X.prog X.w) (A := X.A) (tup_of p') fun h' he hit hsz hk => wpAny_pyIter_enum he ?_
      have I2 : Inv X pins σ H1 { s1 with heap := h' } := I1.kept (t' := s1.toks) hk
      refine ⟨s1.heap.objs.size + 1, [s1.heap.objs.size + 1, s1.heap.objs.size], _, _, H1, rfl, I2, turn_enumT a (s1.heap.objs.size + 1) s1.heap.objs.size, ⟨⟨.none, he⟩, hit, Nat.succ_ne_self _, Nat.ne_of_lt hal, Nat.ne_of_gt (Nat.lt_succ_of_lt hal)⟩, fun b hb => ?_, q⟩
      have hle := far b (by simpa using hb)
      exact I1.fpOk hle (I1.hok.fresh hle)
theorem walk_enumT {K : PySem.W.Frag} {a : Addr} {xs : List V} : Walk (IteT K a) xs.length (fun H => SqT K H a xs) (YPair (fun i => some (.int (i : Nat))) (fun i => xs[i]?)) := by
  refine ⟨fun i _ hi q => ⟨xs, xs[i], q, by simp [hi]⟩, fun _ q => ⟨xs, q, rfl⟩, fun i H v H' _ q y => ?_⟩
  obtain ⟨T, x, h1, h2, h3, h4⟩ := y
  exact ⟨T, .int (i : Nat), x, h1, h2, h3, rfl, h4 xs q⟩

/-! ### C(), no __init__ -/
theorem pe_makeN {X : Cx} {C : Addr} {x : Str} {p pos : Pos} (hmk : PySem.W.makesIn X.K C = true) (hi : PySem.W.findIn X.K (.ref C) "__init__" = some (some (.builtin "object.__init__"))) (hk : PySem.W.keepIn X.K (.ref C) = true)
    (top : PySem.W.mroIn X.K C (.type "object") = some true) (hg : Gl X x) (hm : X.mg x = some (.ref C)) (hdb : (x == ("__debug__" : Str)) = false := by decide) :
    PE X (.Call (.Name x p) [] [] pos) (fun σ H Q => ∀ a dx, H a = none → H dx = none → dx ≠ a → Q (.ref a) (upd (upd H dx (.own a)) a (.ins C dx []))) := by
  refine ⟨fun pins s σ H Q I h => ?_⟩
  refine wpAny_Call_Name_kw (ld_glob I hg hm ?_ hdb)
  refine PySem.W.callWith_K0 I.kIn hk ?_
  have hq := h (s.heap.objs.size + 1) s.heap.objs.size (I.hok.fresh (Nat.le_succ _)) (I.hok.fresh (Nat.le_refl _)) (Nat.ne_of_lt (Nat.lt_succ_self _))
  have I2 := Inv.made (C := C) I
  have e2 : ((s.heap.push PySem.W.emptyDict).push (PySem.W.instObj C s.heap.objs.size)).get? (s.heap.objs.size + 1) = some (PySem.W.instObj C s.heap.objs.size) := by
    have := Heap.get?_push_size (s.heap.push PySem.W.emptyDict) (o := PySem.W.instObj C s.heap.objs.size) rfl
    rwa [Heap.size_push] at this
  refine wpAny_call (make_map0 I.kIn hmk hi (fun self => PySem.W.Looks.of_pure (PySem.W.oi_bind _)) ?_)
  have t1 : PySem.W.Looks (model X.prog X.w) ((s.heap.push PySem.W.emptyDict).push (PySem.W.instObj C s.heap.objs.size)) (typeOf (.ref (s.heap.objs.size + 1))) (.ref C) := NwA.type_at e2 rfl
  have t2 : PySem.W.Looks (model X.prog X.w) ((s.heap.push PySem.W.emptyDict).push (PySem.W.instObj C s.heap.objs.size)) (isInstance (.ref (s.heap.objs.size + 1)) (.type "object")) true := t1.andThen (PySem.W.looks_mroIn I2.kIn top)
  refine codeAny_call_builtin PySem.W.oi_plain PySem.W.entry_oi (@PySem.W.check_slot (model X.prog X.w) _ _ _ "object.__init__" "object" "__init__" (.ref (s.heap.objs.size + 1)) [] [] _ PySem.W.oi_kind PySem.W.oi_split t2 (NwA.oi_args_any (.ref (s.heap.objs.size + 1)) [] []) ?_)
  rw [PySem.W.oi_run]
  exact wpAny_pure (And.intro rfl ⟨V.ref (s.heap.objs.size + 1), _, I2, rfl, hq⟩)

/-! ### is, of things of unlike kinds -/
def rIsX : R2 := fun x y H Q => ((y = .non ∧ Q (.bl (decide (x = .non))) H) ∨ (∃ b, y = .bl b ∧ (∀ i, x ≠ .byt i) ∧ (∀ n, x ≠ .ty n) ∧ Q (.bl (decide (x = .bl b))) H))
theorem op_isX {X : Cx} : OpR X (compareOp .Is) rIsX := by
  intro pins s σ H x y v u Q I rx ry h
  rcases h with ⟨rfl, q⟩ | ⟨b, rfl, hb, ht, q⟩
  · exact op_isN pins s σ H _ _ v u Q I rx ry ⟨rfl, q⟩
  · cases x with
    | bl a => exact op_isBl pins s σ H _ _ v u Q I rx ry ⟨a, b, rfl, rfl, by simpa using q⟩
    | non => cases rx; cases ry; exact wpAny_is_other rfl (fun z => nomatch z) ⟨.bl false, H, I, rfl, by simpa using q⟩
    | int i => obtain ⟨t, rfl⟩ := rx; cases ry; exact wpAny_is_other rfl (fun z => nomatch z) ⟨.bl false, H, I, rfl, by simpa using q⟩
    | str i => obtain ⟨t, rfl⟩ := rx; cases ry; exact wpAny_is_other rfl (fun z => nomatch z) ⟨.bl false, H, I, rfl, by simpa using q⟩
    | flt i => obtain ⟨t, rfl⟩ := rx; cases ry; exact wpAny_is_other rfl (fun z => nomatch z) ⟨.bl false, H, I, rfl, by simpa using q⟩
    | ref a => cases rx; cases ry; exact wpAny_is_other rfl (fun z => nomatch z) ⟨.bl false, H, I, rfl, by simpa using q⟩
    | byt i => exact absurd rfl (hb i)
    | ty n => exact absurd rfl (ht n)
def rNotX : R2 := fun x y H Q => ((y = .non ∧ Q (.bl (!decide (x = .non))) H) ∨ (∃ b, y = .bl b ∧ (∀ i, x ≠ .byt i) ∧ (∀ n, x ≠ .ty n) ∧ Q (.bl (!decide (x = .bl b))) H))
theorem op_notX {X : Cx} : OpR X (compareOp .IsNot) rNotX := by
  intro pins s σ H x y v u Q I rx ry h
  rcases h with ⟨rfl, q⟩ | ⟨b, rfl, hb, ht, q⟩
  · exact op_notN pins s σ H _ _ v u Q I rx ry ⟨rfl, q⟩
  · cases x with
    | bl a => exact op_notBl pins s σ H _ _ v u Q I rx ry ⟨a, b, rfl, rfl, by simpa using q⟩
    | non => cases rx; cases ry; exact wpAny_isNot_other rfl (fun z => nomatch z) ⟨.bl true, H, I, rfl, by simpa using q⟩
    | int i => obtain ⟨t, rfl⟩ := rx; cases ry; exact wpAny_isNot_other rfl (fun z => nomatch z) ⟨.bl true, H, I, rfl, by simpa using q⟩
    | str i => obtain ⟨t, rfl⟩ := rx; cases ry; exact wpAny_isNot_other rfl (fun z => nomatch z) ⟨.bl true, H, I, rfl, by simpa using q⟩
    | flt i => obtain ⟨t, rfl⟩ := rx; cases ry; exact wpAny_isNot_other rfl (fun z => nomatch z) ⟨.bl true, H, I, rfl, by simpa using q⟩
    | ref a => cases rx; cases ry; exact wpAny_isNot_other rfl (fun z => nomatch z) ⟨.bl true, H, I, rfl, by simpa using q⟩
    | byt i => exact absurd rfl (hb i)
    | ty n => exact absurd rfl (ht n)
end

/-! ### x != y of two instances of one class that keeps object's __eq__ and __ne__ -/
section
open HN
variable {M : Model} {prog : Program} {w : World} {A : Around} {E : Value → Shared → Prop} {s : Shared} {K : PySem.W.Frag} {x y C : Addr} {ox oy : Obj} {od od' : Option Obj}
theorem ifBound_objNe {args : List Value} {Q : Option Value → Shared → Prop} (X : K.In s.heap) (I : PySem.W.InstAt s.heap x ox C od) (hs : PySem.W.findIn K (.ref C) "__ne__" = some (some (.builtin "object.__ne__")))
    (h : wpAny M A (call (.builtin "object.__ne__") (.ref x :: args)) (fun v => Q (some v)) E s) : wpAny M A (callSpecialIfBound? (.ref x) "__ne__" args) Q E s := by
  simp only [callSpecialIfBound?, bindSpecialIfBound?]
  refine wpAny_holding (wpAny_bind (wpAny_bind (wpAny_bind (I.type.here ((PySem.W.looks_findIn X hs).here ?_)))))
  refine wpAny_bind (wpAny_askSetting (wpAny_ite ?_))
  have fin : wpAny M A (call (.builtin "object.__ne__") ([.ref x] ++ args) >>= fun v => pure (some v)) Q E s := wpAny_bind (wpAny_mono h (fun v s' h' => wpAny_pure h') fun _ _ h' => h')
  split
  · exact wpAny_bind (wpAny_of_eq (PySem.F.cmp_object.ne.bind _) (wpAny_pure (by exact fin)))
  · exact wpAny_tryCatch (wpAny_bind (wpAny_of_eq (PySem.F.cmp_object.ne.bind _) (wpAny_pure (by exact fin))))
theorem call_objEq2 {Q : Value → Shared → Prop} (X : K.In s.heap) (I : PySem.W.InstAt s.heap x ox C od) (hm : PySem.W.mroIn K C (.type "object") = some true) (hx : s.heap.get? x = some ox) (hy : s.heap.get? y = some oy) (hxy : x ≠ y) (hnt : ox.cls ≠ .type "tuple") (hq : Q .notImplemented s) :
    wpAny (model prog w) A (call (.builtin "object.__eq__") [.ref x, .ref y]) Q E s :=
  wpAny_call (codeAny_call_builtin PySem.F.cmp_object.eq.plain PySem.F.cmpEntry_eq (PySem.W.check_slot PySem.F.cmpKind_eq PySem.F.cmpSplit_eq (I.type.andThen (PySem.W.looks_mroIn X hm)) (PySem.F.cmpArgs_eq _ _) (objEq_entry_other hxy hx hy hnt hq)))
theorem tryNe {Q : Option Value → Shared → Prop} (X : K.In s.heap) (I : PySem.W.InstAt s.heap x ox C od) (hm : PySem.W.mroIn K C (.type "object") = some true) (he : PySem.W.findIn K (.ref C) "__eq__" = some (some (.builtin "object.__eq__"))) (hn : PySem.W.findIn K (.ref C) "__ne__" = some (some (.builtin "object.__ne__")))
    (hx : s.heap.get? x = some ox) (hy : s.heap.get? y = some oy) (hxy : x ≠ y) (hnt : ox.cls ≠ .type "tuple") (hu : A.units + 1 < cLine) (hq : Q none s) : wpAny (model prog w) A (tryCompare (.ref x) "__ne__" (.ref y)) Q E s := by
  simp only [tryCompare]
  refine wpAny_bind (ifBound_objNe X I hn (wpAny_call (codeAny_call_builtin PySem.F.cmp_object.ne.plain PySem.F.cmpEntry_ne (PySem.W.check_slot PySem.F.cmpKind_ne PySem.F.cmpSplit_ne (I.type.andThen (PySem.W.looks_mroIn X hm)) (PySem.F.cmpArgs_ne _ _) ?_))))
  unfold Builtin.«object.__ne__»
  have hu1 : A.in1.units < cLine := by show A.units + 1 < cLine; exact hu
  have sp : ∀ {R : Option Value → Shared → Prop} {A' : Around} {E' : Value → Shared → Prop}, R (some .notImplemented) s → wpAny (model prog w) A' (callSpecialIfBound? (.ref x) "__eq__" [.ref y]) R E' s := fun q => ifBound_objEq X I he (call_objEq2 X I hm hx hy hxy hnt q)
  repeat (first | with_reducible refine wpAny_cRoomFor hu1 ?_ | with_reducible refine sp ?_ | wp_step)
  first | exact hq | exact wpAny_pure hq
theorem cmp_neIns {Q : Value → Shared → Prop} (X : K.In s.heap) (I : PySem.W.InstAt s.heap x ox C od) (J : PySem.W.InstAt s.heap y oy C od') (hm : PySem.W.mroIn K C (.type "object") = some true) (he : PySem.W.findIn K (.ref C) "__eq__" = some (some (.builtin "object.__eq__"))) (hn : PySem.W.findIn K (.ref C) "__ne__" = some (some (.builtin "object.__ne__")))
    (hx : s.heap.get? x = some ox) (hy : s.heap.get? y = some oy) (hxy : x ≠ y) (hcx : ox.cls = .ref C) (hcy : oy.cls = .ref C) (hu : A.units + 1 < cLine) (hq : Q (.bool true) s) : wpAny (model prog w) A (compareOp .NotEq (.ref x) (.ref y)) Q E s := by
  have hntx : ox.cls ≠ .type "tuple" := by rw [hcx]; exact fun z => nomatch z
  have hnty : oy.cls ≠ .type "tuple" := by rw [hcy]; exact fun z => nomatch z
  show wpAny (model prog w) A (richCompare .NotEq (.ref x) (.ref y)) Q E s
  simp only [richCompare, cmpInfo_NotEq, oneThing_ref]
  refine wpAny_holding (wpAny_bind (wpAny_cRoomFor (Nat.lt_of_succ_lt hu) ?_))
  refine wpAny_bind (I.type.here (wpAny_bind (J.type.here ?_)))
  rw [show (Value.ref C != Value.ref C) = false by simp]
  simp only [Bool.false_eq_true, if_false]
  refine wpAny_bind (wpAny_pure ?_)
  simp only [Bool.false_eq_true, if_false, Bool.not_false, if_true]
  refine wpAny_bind (tryNe X I hm he hn hx hy hxy hntx hu ?_)
  refine wpAny_bind (tryNe X J hm he hn hy hx hxy.symm hnty hu ?_)
  repeat (first | with_reducible refine wpAny_isSame_ref_other hxy hx hy hntx ?_ | wp_step)
  exact hq
def rNeIns (K : PySem.W.Frag) : R2 := fun x y H Q => ∃ a b C dx fs dy gs, x = .ref a ∧ y = .ref b ∧ a ≠ b ∧ H a = some (.ins C dx fs) ∧ H b = some (.ins C dy gs) ∧ PySem.W.mroIn K C (.type "object") = some true ∧
  PySem.W.findIn K (.ref C) "__eq__" = some (some (.builtin "object.__eq__")) ∧ PySem.W.findIn K (.ref C) "__ne__" = some (some (.builtin "object.__ne__")) ∧ Q (.bl true) H
theorem op_neIns {X : Cx} (hu : X.A.units + 1 < cLine) : OpR X (compareOp .NotEq) (rNeIns X.K) := by
  intro pins s σ H x y v u Q I rx ry h
  obtain ⟨a, b, C, dx, fs, dy, gs, rfl, rfl, hab, ha, hb, hm, he, hn, q⟩ := h
  cases rx
  cases ry
  obtain ⟨mA, O, _⟩ := ins_get I.hok ha
  obtain ⟨od, J, _⟩ := O.look
  obtain ⟨mB, O2, _⟩ := ins_get I.hok hb
  obtain ⟨od2, J2, _⟩ := O2.look
  exact cmp_neIns I.kIn J J2 hm he hn J.at_ J2.at_ hab rfl rfl hu ⟨.bl true, H, I, rfl, q⟩
end
end L2
end

section
set_option maxHeartbeats 0
set_option Elab.async false
set_option linter.all false
set_option maxRecDepth 100000
/-! Co1: a small language of pure data, its evaluator. Terms are made from the program's text (Co2), each answer is shown to be the machine's (Co3). -/
namespace Co
open PySem L2

/-- data: what a value tells. obj i: the i-th object of the store; scr: a list that is only read (the script) -/
inductive D where
  | non | bl (b : Bool) | int (i : Int) | str (x : Str) | tup (xs : List D) | lst (xs : List D) | scr (xs : List D) | obj (i : Nat)

/-- an object of the store: a dict with int and text keys; an instance of the c-th class -/
inductive Ob where
  | dk (kvs : List (Key × D)) | ins (c : Nat) (fs : List (Str × D))
abbrev Store := List Ob
/-- a slot: empty; a value that stands still; a list of its own that nobody else knows -/
inductive Slot where
  | non | val (d : D) | own (ds : List D)
abbrev Env := List Slot
/-- what an expression gives: a value that stands still; a new list; a list that may be read now -/
inductive Rv where
  | fz (d : D) | fr (ds : List D) | rd (ds : List D)

inductive Bop where
  | add | sub | mul | fdiv | mod | pow
inductive Cop where
  | eq | ne | lt | le | gt | ge | is | isnot | mem | nomem
inductive Ty where
  | int | bool | str | tuple | list | own (c : Nat)
inductive Bi where
  | len | abs | int | list | tuple | all | any | sum | max | min | sorted
inductive Bi2 where
  | max | min | gcd

inductive Pat where
  | nm (i : Nat) | tnil | tcons (p : Pat) (r : Pat)

mutual
inductive CE where
  | const (d : D)
  | var (i : Nat)
  | glob (i : Nat)
  | bin (op : Bop) (a b : CE)
  | neg (a : CE)
  | cmp (op : Cop) (a b : CE)
  | chain (op op' : Cop) (a b c : CE)
  | andV (a b : CE)
  | orV (a b : CE)
  | notV (a : CE)
  | ite (t : CT) (a b : CE)
  | tup (as : CA)
  | lst (as : CA)
  | idx (a b : CE)
  | sl2 (a lo hi : CE)
  | slL (a lo : CE)
  | slH (a hi : CE)
  | rev (a : CE)
  | bi (f : Bi) (a : CE)
  | bi2 (f : Bi2) (a b : CE)
  | isi (a : CE) (ts : List Ty)
  | call (f : Nat) (as : CA)
  | mk (c : Nat) (as : CA)
  | attr (a : CE) (f : Str)
  | lc (p : Pat) (vs : List Nat) (it : CI) (t : CT) (elt : CE)
  | dct (ks : List Key) (as : CA)
inductive CT where
  | tr (e : CE)
  | and (t u : CT)
  | or (t u : CT)
  | not (t : CT)
  | yes
inductive CA where
  | nil
  | cons (e : CE) (as : CA)
inductive CI where
  | seq (e : CE)
  | rng1 (a : CE)
  | rng2 (a b : CE)
  | enum (e : CE)
  | zip (a b : CE)
end

mutual
inductive CS where
  | set (i : Nat) (e : CE)
  | setP (p : Pat) (e : CE)
  | par (is : List Nat) (as : CA)
  | put (i : Nat) (a e : CE)
  | fset (o : CE) (f : Str) (e : CE)
  | aug (i : Nat) (op : Bop) (e : CE)
  | drop (e : CE)
  | app (i : Nat) (e : CE)
  | ext (i : Nat) (e : CE)
  | pop (p : Pat) (i : Nat)
  | ifs (t : CT) (a b : CB)
  | whl (t : CT) (b : CB)
  | for (p : Pat) (it : CI) (b : CB)
  | ret (e : CE)
  | retN
  | pass
  | brk
  | cont
  | never
inductive CB where
  | nil
  | cons (fz : List Nat) (s : CS) (r : CB)
end

/-! ### on data -/
def Rv.d : Rv → Option D
  | .fz d => some d
  | .fr ds => some (.lst ds)
  | .rd _ => none
/-- its items: of a list, a tuple -/
def Rv.seq : Rv → Option (List D)
  | .fz (.tup ds) => some ds
  | .fz (.lst ds) => some ds
  | .fz (.scr ds) => some ds
  | .fr ds => some ds
  | .rd ds => some ds
  | _ => none
/-- .. that nobody changes meanwhile (b), or as it stands now -/
def Rv.seqB (b : Bool) : Rv → Option (List D)
  | .rd ds => if b = true then none else some ds
  | x => x.seq
def Rv.isT : Rv → Bool
  | .fz (.tup _) => true
  | _ => false
def Rv.tseq : Rv → Option (List D)
  | .fz (.lst ds) => some ds
  | .fr ds => some ds
  | .rd ds => some ds
  | _ => none
def Rv.lseq : Rv → Option (List D)
  | .fz (.lst ds) => some ds
  | .fz (.scr ds) => some ds
  | .fr ds => some ds
  | .rd ds => some ds
  | _ => none
/-- as a tree, to be compared -/
def Rv.tree : Rv → D
  | .fz d => d
  | .fr ds => .lst ds
  | .rd ds => .lst ds

mutual
def D.py : D → Option PyData
  | .non => some .none
  | .bl b => some (.bool b)
  | .int i => some (.int i)
  | .str x => some (.str x)
  | .tup xs => (D.pys xs).map .tuple
  | .lst xs => (D.pys xs).map .list
  | .scr xs => (D.pys xs).map .list
  | .obj _ => none
def D.pys : List D → Option (List PyData)
  | [] => some []
  | d :: ds => match D.py d, D.pys ds with
    | some p, some ps => some (p :: ps)
    | _, _ => none
end

def eqD (a b : D) : Option Bool :=
  match D.py a, D.py b with
  | some p, some q => if SeqAt.shaped p = true ∧ SeqAt.shaped q = true then some (PyData.eqv p q) else none
  | _, _ => none

instance (i j : Int) : Decidable (IntMulOk i j) := by unfold IntMulOk; infer_instance

def binI (op : Bop) (i j : Int) : Option Int :=
  match op with
  | .add => some (i + j)
  | .sub => some (i - j)
  | .mul => if IntMulOk i j then some (i * j) else none
  | .fdiv => if j ≠ 0 ∧ j.natAbs.log2 < 9000 then some (i.fdiv j) else none
  | .mod => if j ≠ 0 then some (i.fmod j) else none
  | .pow => if 0 ≤ j ∧ j ≤ 1000000 ∧ i.natAbs < 2 ^ 64 then some (i ^ j.toNat) else none

def binR (op : Bop) (a b : Rv) : Option Rv :=
  match op, a, b with
  | op, .fz (.int i), .fz (.int j) => (binI op i j).map fun z => .fz (.int z)
  | .add, .fz (.str x), .fz (.str y) => if x.length + y.length ≤ sizeLine then some (.fz (.str (x ++ y))) else none
  | .add, .fz (.tup xs), .fz (.tup ys) => if xs.length + ys.length ≤ sizeLine then some (.fz (.tup (xs ++ ys))) else none
  | .add, a, b => match a.tseq, b.tseq with
    | some xs, some ys => if xs.length + ys.length ≤ sizeLine then some (.fr (xs ++ ys)) else none
    | _, _ => none
  | .mul, .fz (.tup xs), .fz (.int k) => if (-(2 ^ 63) ≤ k ∧ k ≤ 1000) ∧ xs.length ≤ 1000 then some (.fz (.tup (List.replicate k.toNat xs).flatten)) else none
  | .mul, a, .fz (.int k) => match a.tseq with
    | some xs => if -(2 ^ 63) ≤ k ∧ k < 2 ^ 63 ∧ xs.length * k.toNat ≤ sizeLine then some (.fr (List.replicate k.toNat xs).flatten) else none
    | none => none
  | _, _, _ => none

def flatD : D → Bool
  | .non => true | .bl _ => true | .int _ => true | .str _ => true | _ => false
def eqFl : D → D → Bool
  | .non, .non => true
  | .bl a, .bl b => a == b
  | .bl a, .int b => (if a then 1 else 0) == b
  | .int a, .bl b => a == (if b then 1 else 0)
  | .int a, .int b => a == b
  | .str a, .str b => a == b
  | _, _ => false
def memD (d : D) (ds : List D) : Option Bool := if flatD d = true ∧ ds.all flatD = true then some (ds.any fun e => eqFl e d) else none

def isNon : D → Bool
  | .non => true | _ => false
def isBl : D → Bool → Bool
  | .bl x, y => x == y | _, _ => false
def cmpR (op : Cop) (a b : Rv) : Option Bool :=
  match op with
  | .eq => eqD a.tree b.tree
  | .ne => (eqD a.tree b.tree).map (!·)
  | .lt => match a, b with | .fz (.int i), .fz (.int j) => some (decide (i < j)) | _, _ => none
  | .le => match a, b with | .fz (.int i), .fz (.int j) => some (decide (i ≤ j)) | _, _ => none
  | .gt => match a, b with | .fz (.int i), .fz (.int j) => some (decide (j < i)) | _, _ => none
  | .ge => match a, b with | .fz (.int i), .fz (.int j) => some (decide (j ≤ i)) | _, _ => none
  | .is => match a, b with
    | .fz d, .fz .non => some (isNon d)
    | .fz d, .fz (.bl y) => some (isBl d y)
    | _, _ => none
  | .isnot => match a, b with
    | .fz d, .fz .non => some (!isNon d)
    | .fz d, .fz (.bl y) => some (!isBl d y)
    | _, _ => none
  | .mem => match a, b.seq with | .fz d, some ds => memD d ds | _, _ => none
  | .nomem => match a, b.seq with | .fz d, some ds => (memD d ds).map (!·) | _, _ => none

/-- two instances are unlike, unless they are one -/
def neIns (S : Store) (op : Cop) (a b : Rv) : Bool :=
  match op, a, b with
  | .ne, .fz (.obj i), .fz (.obj j) => match S[i]?, S[j]? with
    | some (.ins c _), some (.ins c' _) => decide (i ≠ j) && decide (c = c')
    | _, _ => false
  | _, _, _ => false
def cmpS (S : Store) (op : Cop) (a b : Rv) : Option Bool := if neIns S op a b = true then some true else cmpR op a b

def truR : Rv → Option Bool
  | .fz (.bl b) => some b
  | .fz .non => some false
  | .fz (.int i) => some (i != 0)
  | .fz (.str x) => if x.length ≤ sizeLine then some ((x.length : Int) != 0) else none
  | .fz (.obj _) => none
  | r => match r.seq with | some ds => some (!ds.isEmpty) | none => none

def lookD (kvs : List (Key × D)) (k : Key) : Option D := (kvs.find? fun kv => decide (kv.1 = k)).map (·.2)
def putD (kvs : List (Key × D)) (k : Key) (d : D) : List (Key × D) :=
  if (kvs.any fun kv => decide (kv.1 = k)) = true then kvs.map (fun kv => if kv.1 = k then (kv.1, d) else kv) else kvs ++ [(k, d)]
def keyD : D → Option Key
  | .int i => some (.inl i)
  | .str x => some (.inr x)
  | _ => none

def getI (ds : List D) (i : Int) : Option D := atI ds i

def idxR (S : Store) (a b : Rv) : Option D :=
  match a, b with
  | .fz (.obj n), .fz k => match S[n]? with
    | some (.dk kvs) => match keyD k with
      | some key => lookD kvs key
      | none => none
    | _ => none
  | .fz (.str x), .fz (.int i) => if x.length ≤ sizeLine then (atI x.cps.toList i).map fun c => .str ⟨#[c]⟩ else none
  | a, .fz (.int i) => match a.seq with | some ds => atI ds i | none => none
  | _, _ => none

def cutD (xs : List D) (lo hi : Option Int) : List D := (xs.drop (HT.sIx xs.length 0 lo)).take (HT.sIx xs.length xs.length hi - HT.sIx xs.length 0 lo)
def slR (a : Rv) (lo hi : Option Int) : Option Rv :=
  match a with
  | .fz (.tup xs) => some (.fz (.tup (cutD xs lo hi)))
  | .fz (.str x) => if x.length ≤ sizeLine then some (.fz (.str (cutS x lo hi))) else none
  | a => match a.lseq with | some xs => some (.fr (cutD xs lo hi)) | none => none
def revR : Rv → Option Rv
  | .fz (.tup xs) => some (.fz (.tup xs.reverse))
  | a => match a.lseq with | some xs => some (.fr xs.reverse) | none => none

def intsOf : List D → Option (List Int)
  | [] => some []
  | .int i :: ds => (intsOf ds).map (i :: ·)
  | _ :: _ => none
def boolsOf : List D → Option (List Bool)
  | [] => some []
  | .bl i :: ds => (boolsOf ds).map (i :: ·)
  | _ :: _ => none
def maxL : List Int → Option Int
  | [] => none
  | a :: as => some (as.foldl (fun x y => if y > x then y else x) a)
def minL : List Int → Option Int
  | [] => none
  | a :: as => some (as.foldl (fun x y => if y < x then y else x) a)

def biR (f : Bi) (S : Store) (a : Rv) : Option Rv :=
  match f with
  | .len => match a with
    | .fz (.str x) => if x.length ≤ sizeLine then some (.fz (.int x.length)) else none
    | .fz (.obj n) => match S[n]? with | some (.dk kvs) => some (.fz (.int kvs.length)) | _ => none
    | a => match a.seq with | some ds => some (.fz (.int ds.length)) | none => none
  | .abs => match a with | .fz (.int i) => some (.fz (.int (if i < 0 then -i else i))) | _ => none
  | .int => match a with | .fz (.int i) => some (.fz (.int i)) | _ => none
  | .list => match a.seq with | some ds => some (.fr ds) | none => none
  | .tuple => match a.seq with | some ds => some (.fz (.tup ds)) | none => none
  | .all => match a.lseq with | some ds => (boolsOf ds).map fun bs => .fz (.bl (bs.all id)) | none => none
  | .any => match a.lseq with | some ds => (boolsOf ds).map fun bs => .fz (.bl (bs.any id)) | none => none
  | .sum => match a.lseq with | some ds => (intsOf ds).map fun bs => .fz (.int bs.sum) | none => none
  | .max => match a.lseq with | some ds => (intsOf ds).bind fun bs => (maxL bs).map fun m => .fz (.int m) | none => none
  | .min => match a.lseq with | some ds => (intsOf ds).bind fun bs => (minL bs).map fun m => .fz (.int m) | none => none
  | .sorted => match a.lseq with | some ds => (intsOf ds).map fun bs => .fr ((bs.mergeSort (fun a b => decide (a ≤ b))).map .int) | none => none
def bi2R (f : Bi2) (a b : Rv) : Option D :=
  match f, a, b with
  | .max, .fz (.int i), .fz (.int j) => some (.int (if j > i then j else i))
  | .min, .fz (.int i), .fz (.int j) => some (.int (if j < i then j else i))
  | .gcd, .fz (.int i), .fz (.int j) => some (.int ((Nat.gcd i.natAbs j.natAbs : Nat) : Int))
  | _, _, _ => none

def isTy (S : Store) (a : Rv) : Ty → Option Bool
  | t => match a with
    | .fz (.int _) => some (match t with | .int => true | _ => false)
    | .fz (.bl _) => some (match t with | .int => true | .bool => true | _ => false)
    | .fz .non => some false
    | .fz (.str _) => some (match t with | .str => true | _ => false)
    | .fz (.tup _) => some (match t with | .tuple => true | _ => false)
    | .fz (.lst _) => some (match t with | .list => true | _ => false)
    | .fz (.scr _) => some (match t with | .list => true | _ => false)
    | .fr _ => some (match t with | .list => true | _ => false)
    | .rd _ => some (match t with | .list => true | _ => false)
    | .fz (.obj n) => match S[n]? with
      | some (.ins c _) => some (match t with | .own c' => decide (c = c') | _ => false)
      | some (.dk _) => some false
      | none => none
def isTys (S : Store) (a : Rv) : List Ty → Option Bool
  | [] => some false
  | t :: ts => match isTy S a t, isTys S a ts with
    | some x, some y => some (x || y)
    | _, _ => none

def setF (f : Str) (d : D) : List (Str × D) → List (Str × D)
  | [] => [(f, d)]
  | (g, e) :: r => if g = f then (g, d) :: r else (g, e) :: setF f d r
/-- a target -/
def Pat.asg : Pat → D → Env → Option Env
  | .nm i, d, σ => some (σ.set i (.val d))
  | .tnil, .tup [], σ => some σ
  | .tcons p r, .tup (d :: ds), σ => match p.asg d σ with
    | some σ' => r.asg (.tup ds) σ'
    | none => none
  | _, _, _ => none

/-- what is known of the program -/
structure Ctx where
  call : Nat → List D → Store → Option (D × Store)
  globs : List D
  /-- of a class its __init__'s number -/
  inits : List (Option Nat)

def lcGo (f : D → Store → Option (Option D × Store)) : List D → List D → Store → Option (List D × Store)
  | [], acc, S => some (acc, S)
  | d :: ds, acc, S => match f d S with
    | some (some e, S') => if acc.length < sizeLine then lcGo f ds (acc ++ [e]) S' else none
    | some (none, S') => lcGo f ds acc S'
    | none => none

def wipeE (σ : Env) : List Nat → Env
  | [] => σ
  | v :: vs => (wipeE σ vs).set v .non

mutual
def evE (c : Ctx) : CE → Env → Store → Option (Rv × Store)
  | .const d, _, S => some (.fz d, S)
  | .var i, σ, S => match σ[i]? with
    | some (.val d) => some (.fz d, S)
    | some (.own ds) => some (.rd ds, S)
    | _ => none
  | .glob i, _, S => match c.globs[i]? with | some d => some (.fz d, S) | none => none
  | .bin op a b, σ, S => match evE c a σ S with
    | some (x, S1) => match evE c b σ S1 with
      | some (y, S2) => match binR op x y with | some z => some (z, S2) | none => none
      | none => none
    | none => none
  | .neg a, σ, S => match evE c a σ S with
    | some (.fz (.int i), S1) => some (.fz (.int (-i)), S1)
    | _ => none
  | .cmp op a b, σ, S => match evE c a σ S with
    | some (x, S1) => match evE c b σ S1 with
      | some (y, S2) => match cmpS S2 op x y with | some z => some (.fz (.bl z), S2) | none => none
      | none => none
    | none => none
  | .chain op op' a b d, σ, S => match evE c a σ S with
    | some (x, S1) => match evE c b σ S1 with
      | some (y, S2) => match cmpR op x y with
        | some true => match evE c d σ S2 with
          | some (z, S3) => match cmpR op' y z with | some r => some (.fz (.bl r), S3) | none => none
          | none => none
        | some false => some (.fz (.bl false), S2)
        | none => none
      | none => none
    | none => none
  | .andV a b, σ, S => match evE c a σ S with
    | some (.fz (.bl true), S1) => evE c b σ S1
    | some (.fz (.bl false), S1) => some (.fz (.bl false), S1)
    | _ => none
  | .orV a b, σ, S => match evE c a σ S with
    | some (.fz (.bl false), S1) => evE c b σ S1
    | some (.fz (.bl true), S1) => some (.fz (.bl true), S1)
    | _ => none
  | .notV a, σ, S => match evE c a σ S with
    | some (.fz (.bl b), S1) => some (.fz (.bl (!b)), S1)
    | _ => none
  | .ite t a b, σ, S => match evT c t σ S with
    | some (true, S1) => evE c a σ S1
    | some (false, S1) => evE c b σ S1
    | none => none
  | .tup as, σ, S => match evA c as σ S with
    | some (ds, S1) => if ds.length ≤ sizeLine then some (.fz (.tup ds), S1) else none
    | none => none
  | .lst as, σ, S => match evA c as σ S with
    | some (ds, S1) => if ds.length ≤ sizeLine then some (.fr ds, S1) else none
    | none => none
  | .idx a b, σ, S => match evE c a σ S with
    | some (x, S1) => match evE c b σ S1 with
      | some (y, S2) => match idxR S2 x y with | some d => some (.fz d, S2) | none => none
      | none => none
    | none => none
  | .sl2 a lo hi, σ, S => match evE c a σ S with
    | some (x, S1) => match evE c lo σ S1 with
      | some (.fz (.int l), S2) => match evE c hi σ S2 with
        | some (.fz (.int h), S3) => match slR x (some l) (some h) with | some r => some (r, S3) | none => none
        | _ => none
      | _ => none
    | none => none
  | .slL a lo, σ, S => match evE c a σ S with
    | some (x, S1) => match evE c lo σ S1 with
      | some (.fz (.int l), S2) => match slR x (some l) none with | some r => some (r, S2) | none => none
      | _ => none
    | none => none
  | .slH a hi, σ, S => match evE c a σ S with
    | some (x, S1) => match evE c hi σ S1 with
      | some (.fz (.int h), S2) => match slR x none (some h) with | some r => some (r, S2) | none => none
      | _ => none
    | none => none
  | .rev a, σ, S => match evE c a σ S with
    | some (x, S1) => match revR x with | some r => some (r, S1) | none => none
    | none => none
  | .bi f a, σ, S => match evE c a σ S with
    | some (x, S1) => match biR f S1 x with | some r => some (r, S1) | none => none
    | none => none
  | .bi2 f a b, σ, S => match evE c a σ S with
    | some (x, S1) => match evE c b σ S1 with
      | some (y, S2) => match bi2R f x y with | some d => some (.fz d, S2) | none => none
      | none => none
    | none => none
  | .isi a ts, σ, S => match evE c a σ S with
    | some (x, S1) => match isTys S1 x ts with | some b => some (.fz (.bl b), S1) | none => none
    | none => none
  | .call f as, σ, S => match evA c as σ S with
    | some (ds, S1) => match c.call f ds S1 with | some (d, S2) => some (.fz d, S2) | none => none
    | none => none
  | .mk k as, σ, S => match evA c as σ S with
    | some (ds, S1) => match c.inits[k]? with
      | some none => if ds = [] then some (.fz (.obj S1.length), S1 ++ [.ins k []]) else none
      | some (some f) => match c.call f (.obj S1.length :: ds) (S1 ++ [.ins k []]) with
        | some (.non, S2) => some (.fz (.obj S1.length), S2)
        | _ => none
      | none => none
    | none => none
  | .attr a f, σ, S => match evE c a σ S with
    | some (.fz (.obj n), S1) => match S1[n]? with
      | some (.ins _ fs) => match fs.lookup f with | some d => some (.fz d, S1) | none => none
      | _ => none
    | _ => none
  | .lc p vs it t e, σ, S => match evI c false it σ S with
    | some (ds, S1) => match lcGo (fun d S => match p.asg d (wipeE σ vs) with
        | some σ' => match evT c t σ' S with
          | some (true, S2) => match evE c e σ' S2 with
            | some (r, S3) => match r.d with | some x => some (some x, S3) | none => none
            | none => none
          | some (false, S2) => some (none, S2)
          | none => none
        | none => none) ds [] S1 with
      | some (r, S2) => some (.fr r, S2)
      | none => none
    | none => none
  | .dct ks as, σ, S => match evA c as σ S with
    | some (ds, S1) => if ds.length = ks.length ∧ ks.length ≤ 15 ∧ ks.Nodup then some (.fz (.obj S1.length), S1 ++ [.dk (ks.zip ds)]) else none
    | none => none
def evT (c : Ctx) : CT → Env → Store → Option (Bool × Store)
  | .tr e, σ, S => match evE c e σ S with
    | some (x, S1) => match truR x with | some b => some (b, S1) | none => none
    | none => none
  | .and t u, σ, S => match evT c t σ S with
    | some (true, S1) => evT c u σ S1
    | some (false, S1) => some (false, S1)
    | none => none
  | .or t u, σ, S => match evT c t σ S with
    | some (false, S1) => evT c u σ S1
    | some (true, S1) => some (true, S1)
    | none => none
  | .not t, σ, S => match evT c t σ S with
    | some (b, S1) => some (!b, S1)
    | none => none
  | .yes, _, S => some (true, S)
def evA (c : Ctx) : CA → Env → Store → Option (List D × Store)
  | .nil, _, S => some ([], S)
  | .cons e as, σ, S => match evE c e σ S with
    | some (x, S1) => match x.d with
      | some d => match evA c as σ S1 with
        | some (ds, S2) => some (d :: ds, S2)
        | none => none
      | none => none
    | none => none
def evI (c : Ctx) (fx : Bool) : CI → Env → Store → Option (List D × Store)
  | .seq e, σ, S => match evE c e σ S with
    | some (x, S1) => match x.seqB fx with | some ds => some (ds, S1) | none => none
    | none => none
  | .rng1 a, σ, S => match evE c a σ S with
    | some (.fz (.int j), S1) => if -(2 ^ 62) ≤ j ∧ j < 2 ^ 62 then some ((List.range j.toNat).map fun k : Nat => D.int (k : Int), S1) else none
    | _ => none
  | .rng2 a b, σ, S => match evE c a σ S with
    | some (.fz (.int i), S1) => match evE c b σ S1 with
      | some (.fz (.int j), S2) => if (-(2 ^ 62) ≤ i ∧ i < 2 ^ 62) ∧ -(2 ^ 62) ≤ j ∧ j < 2 ^ 62 then some ((List.range (j - i).toNat).map fun k : Nat => D.int (i + (k : Int)), S2) else none
      | _ => none
    | _ => none
  | .enum e, σ, S => match evE c e σ S with
    | some (x, S1) => match x.seqB fx with | some ds => some (ds.mapIdx fun (k : Nat) d => D.tup [.int (k : Int), d], S1) | none => none
    | none => none
  | .zip a b, σ, S => match evE c a σ S with
    | some (x, S1) => match evE c b σ S1 with
      | some (y, S2) => match x.seqB fx, y.seqB fx with
        | some xs, some ys => if xs.length = ys.length ∧ x.isT = y.isT then some (List.zipWith (fun u v => .tup [u, v]) xs ys, S2) else none
        | _, _ => none
      | none => none
    | none => none
end

inductive Out where
  | nx (σ : Env) (S : Store) | ret (d : D) (S : Store) | brk (σ : Env) (S : Store) | ct (σ : Env) (S : Store)

def frz : List Nat → Env → Env
  | [], σ => σ
  | i :: is, σ => match σ[i]? with
    | some (.own ds) => frz is (σ.set i (.val (.lst ds)))
    | _ => frz is σ

def forGo (f : D → Env → Store → Option Out) : List D → Env → Store → Option Out
  | [], σ, S => some (.nx σ S)
  | d :: ds, σ, S => match f d σ S with
    | some (.nx σ' S') => forGo f ds σ' S'
    | some (.ct σ' S') => forGo f ds σ' S'
    | some (.brk σ' S') => some (.nx σ' S')
    | some (.ret d S') => some (.ret d S')
    | none => none

def whF (t : Env → Store → Option (Bool × Store)) (b : Env → Store → Option Out) : Nat → Env → Store → Option Out
  | 0, _, _ => none
  | n + 1, σ, S => match t σ S with
    | some (false, S1) => some (.nx σ S1)
    | some (true, S1) => match b σ S1 with
      | some (.nx σ' S') => whF t b n σ' S'
      | some (.ct σ' S') => whF t b n σ' S'
      | some (.brk σ' S') => some (.nx σ' S')
      | some (.ret d S') => some (.ret d S')
      | none => none
    | none => none
open Classical in
noncomputable def whD (t : Env → Store → Option (Bool × Store)) (b : Env → Store → Option Out) (σ : Env) (S : Store) : Option Out :=
  if h : ∃ n r, whF t b n σ S = some r then some (Classical.choose (Classical.choose_spec h)) else none

/-- the slot's list -/
def ownAt (σ : Env) (i : Nat) : Option (List D) := match σ[i]? with | some (.own ds) => some ds | _ => none
def asgR (i : Nat) (r : Rv) (σ : Env) : Option Env := match r with
  | .fz d => some (σ.set i (.val d))
  | .fr ds => some (σ.set i (.own ds))
  | .rd _ => none
def parGo : List Nat → List D → Env → Option Env
  | [], [], σ => some σ
  | i :: is, d :: ds, σ => parGo is ds (σ.set i (.val d))
  | _, _, _ => none

mutual
noncomputable def exS (c : Ctx) : CS → Env → Store → Option Out
  | .set i e, σ, S => match evE c e σ S with
    | some (x, S1) => match asgR i x σ with | some σ' => some (.nx σ' S1) | none => none
    | none => none
  | .setP p e, σ, S => match evE c e σ S with
    | some (x, S1) => match x.d with
      | some d => match p.asg d σ with | some σ' => some (.nx σ' S1) | none => none
      | none => none
    | none => none
  | .par is as, σ, S => match evA c as σ S with
    | some (ds, S1) => match parGo is ds σ with | some σ' => some (.nx σ' S1) | none => none
    | none => none
  | .put i a e, σ, S => match evE c e σ S with
    | some (x, S1) => match x.d with
      | some d => match evE c a σ S1 with
        | some (.fz k, S2) => match σ[i]? with
          | some (.own ds) => match k with
            | .int k => match ixN ds.length k with
              | some j => some (.nx (σ.set i (.own (ds.set j d))) S2)
              | none => none
            | _ => none
          | some (.val (.obj n)) => match S2[n]?, keyD k with
            | some (.dk kvs), some key => if kvs.length < sizeLine then some (.nx σ (S2.set n (.dk (putD kvs key d)))) else none
            | _, _ => none
          | _ => none
        | _ => none
      | none => none
    | none => none
  | .fset o f e, σ, S => match evE c e σ S with
    | some (x, S1) => match x.d with
      | some d => match evE c o σ S1 with
        | some (.fz (.obj n), S2) => match S2[n]? with
          | some (.ins k fs) => if fs.length < 1000 then some (.nx σ (S2.set n (.ins k (setF f d fs)))) else none
          | _ => none
        | _ => none
      | none => none
    | none => none
  | .aug i op e, σ, S => match σ[i]? with
    | some (.val (.int a)) => match evE c e σ S with
      | some (.fz (.int b), S1) => match op with
        | .add => some (.nx (σ.set i (.val (.int (a + b)))) S1)
        | .sub => some (.nx (σ.set i (.val (.int (a - b)))) S1)
        | _ => none
      | _ => none
    | _ => none
  | .drop e, σ, S => match evE c e σ S with
    | some (_, S1) => some (.nx σ S1)
    | none => none
  | .app i e, σ, S => match evE c e σ S with
    | some (x, S1) => match x.d, ownAt σ i with
      | some d, some ds => if ds.length < sizeLine then some (.nx (σ.set i (.own (ds ++ [d]))) S1) else none
      | _, _ => none
    | none => none
  | .ext i e, σ, S => match evE c e σ S with
    | some (x, S1) => match x.tseq, ownAt σ i with
      | some xs, some ds => if ds.length + xs.length ≤ sizeLine then some (.nx (σ.set i (.own (ds ++ xs))) S1) else none
      | _, _ => none
    | none => none
  | .pop p i, σ, S => match ownAt σ i with
    | some ds => match ds.getLast? with
      | some d => match p.asg d (σ.set i (.own ds.dropLast)) with | some σ' => some (.nx σ' S) | none => none
      | none => none
    | none => none
  | .ifs t a b, σ, S => match evT c t σ S with
    | some (true, S1) => exB c a σ S1
    | some (false, S1) => exB c b σ S1
    | none => none
  | .whl t b, σ, S => whD (evT c t) (exB c b) σ S
  | .for p it b, σ, S => match evI c true it σ S with
    | some (ds, S1) => forGo (fun d σ S => match p.asg d σ with | some σ' => exB c b σ' S | none => none) ds σ S1
    | none => none
  | .ret e, σ, S => match evE c e σ S with
    | some (x, S1) => match x.d with | some d => some (.ret d S1) | none => none
    | none => none
  | .retN, _, S => some (.ret .non S)
  | .pass, σ, S => some (.nx σ S)
  | .brk, σ, S => some (.brk σ S)
  | .cont, σ, S => some (.ct σ S)
  | .never, _, _ => none
noncomputable def exB (c : Ctx) : CB → Env → Store → Option Out
  | .nil, σ, S => some (.nx σ S)
  | .cons fz s r, σ, S => match exS c s (frz fz σ) S with
    | some (.nx σ' S') => exB c r σ' S'
    | some o => some o
    | none => none
end

/-- a def: its parameters' number, its slots' number, its body -/
structure Fd where
  np : Nat
  ns : Nat
  body : CB
structure Prg where
  fns : List Fd
  globs : List D
  inits : List (Option Nat)

noncomputable def callN (P : Prg) : Nat → Nat → List D → Store → Option (D × Store)
  | 0, _, _, _ => none
  | n + 1, f, ds, S => match P.fns[f]? with
    | some F => if ds.length = F.np then
        match exB ⟨callN P n, P.globs, P.inits⟩ F.body (ds.map .val ++ List.replicate (F.ns - F.np) .non) S with
        | some (.nx _ S') => some (.non, S')
        | some (.ret d S') => some (d, S')
        | _ => none
      else none
    | none => none
end Co
end

section
set_option maxHeartbeats 0
set_option Elab.async false
set_option linter.all false
set_option maxRecDepth 100000
/-! Co2: from the program's text to Co1's terms. -/
namespace Co
open PySem L2

/-- what is known where a piece of text stands -/
structure Gm where
  N : List Str
  sc : Scope
  /-- within a comprehension's block: its own scope, as written -/
  own : Option Scope
  fns : List (Str × Nat)
  globs : List (Str × Nat)
  clss : List (Str × Nat)
  /-- names of built-ins that the module does not hide -/
  free : List Str
  gcd : Bool
  /-- attributes of instances -/
  atrs : List Str

def ixOf (x : Str) : List Str → Nat → Option Nat
  | [], _ => none
  | y :: r, i => if x = y then some i else ixOf x r (i + 1)
def isVis : Option NameKind → Bool
  | some .local => true | some .cell => true | some .free => true | _ => false
def isLoc : Option NameKind → Bool
  | some .local => true | some .cell => true | _ => false
/-- a name's slot, to be read -/
def Gm.slot (g : Gm) (x : Str) : Option Nat := if isVis (g.sc.names.lookup x) ∧ x ≠ ("__debug__" : Str) ∧ x ≠ ("__classdict__" : Str) then ixOf x g.N 0 else none
/-- .. to be stored -/
def Gm.stor (g : Gm) (x : Str) : Option Nat :=
  match g.sc.names.lookup x with
  | some .local => ixOf x g.N 0
  | some .cell => match g.own with
    | none => ixOf x g.N 0
    | some s => if s.names.lookup x = some .cell then ixOf x g.N 0 else none
  | _ => none
def Gm.isGl (g : Gm) (x : Str) : Bool := decide (g.sc.names.lookup x = some .globalImplicit) && decide (x ≠ ("__debug__" : Str)) && decide (x ≠ ("__name__" : Str))
def Gm.isBi (g : Gm) (x : Str) : Bool := g.isGl x && decide (x ∈ g.free)
def Gm.blk (g : Gm) (s : Scope) : Gm := { g with sc := relS s g.sc, own := some s }

def bopOf : Operator → Option Bop
  | .Add => some .add | .Sub => some .sub | .Mult => some .mul | .FloorDiv => some .fdiv | .Mod => some .mod | .Pow => some .pow | _ => none
def copOf : CmpOp → Cop
  | .Eq => .eq | .NotEq => .ne | .Lt => .lt | .LtE => .le | .Gt => .gt | .GtE => .ge | .Is => .is | .IsNot => .isnot | .In => .mem | .NotIn => .nomem
def biOf (x : Str) : Option Bi :=
  if x = ("len" : Str) then some .len else if x = ("abs" : Str) then some .abs else if x = ("int" : Str) then some .int else if x = ("list" : Str) then some .list
  else if x = ("tuple" : Str) then some .tuple else if x = ("all" : Str) then some .all else if x = ("any" : Str) then some .any else if x = ("sum" : Str) then some .sum
  else if x = ("max" : Str) then some .max else if x = ("min" : Str) then some .min else if x = ("sorted" : Str) then some .sorted else none
def tyOf (x : Str) : Option Ty :=
  if x = ("int" : Str) then some .int else if x = ("bool" : Str) then some .bool else if x = ("str" : Str) then some .str else if x = ("tuple" : Str) then some .tuple
  else if x = ("list" : Str) then some .list else none
def constD : Const → Option D
  | .none => some .non | .bool b => some (.bl b) | .int i => some (.int i) | .str s => some (.str s) | _ => none
def isStar : Expr → Bool
  | .Starred .. => true | _ => false
/-- a target -/
def patOf (g : Gm) : Nat → Expr → Option Pat
  | 0, _ => none
  | n + 1, e => match e with
    | .Name x _ => (g.stor x).map .nm
    | .Tuple es _ _ => go n es
    | _ => none
where go : Nat → List Expr → Option Pat
  | 0, _ => none
  | _ + 1, [] => some .tnil
  | n + 1, e :: es => if isStar e then none else match patOf g n e, go n es with
    | some p, some r => some (.tcons p r)
    | _, _ => none
def Pat.slots : Pat → List Nat
  | .nm i => [i] | .tnil => [] | .tcons p r => p.slots ++ r.slots
def clsTy (g : Gm) (x : Str) : Option Ty := if g.isBi x then tyOf x else if g.isGl x then (g.clss.lookup x).map .own else none
def isTup : Expr → Bool
  | .Tuple .. => true | _ => false

def keysOf : List (Option Expr) → Option (List Key)
  | [] => some []
  | some (.Constant (.str x) _ _) :: r => (keysOf r).map (.inr x :: ·)
  | some (.Constant (.int x) _ _) :: r => (keysOf r).map (.inl x :: ·)
  | _ => none
/-- an attribute's base: a name, an attribute, a subscript -/
def okBase : Expr → Bool
  | .Name .. => true | .Attribute .. => true | .Subscript .. => true | _ => false
mutual
def coE (g : Gm) : Nat → Expr → Option CE
  | 0, _ => none
  | n + 1, e => match e with
    | .Constant k _ _ => (constD k).map .const
    | .Name x _ => match g.slot x with
      | some i => some (.var i)
      | none => if g.isGl x then (g.globs.lookup x).map .glob else none
    | .BinOp a op b _ => match bopOf op, coE g n a, coE g n b with
      | some o, some x, some y => some (.bin o x y)
      | _, _, _ => none
    | .UnaryOp .USub a _ => (coE g n a).map .neg
    | .UnaryOp .Not a _ => (coE g n a).map .notV
    | .BoolOp _ [a] _ => coE g n a
    | .BoolOp .And (a :: b :: r) p => match coE g n a, coE g n (.BoolOp .And (b :: r) p) with
      | some x, some y => some (.andV x y)
      | _, _ => none
    | .BoolOp .Or (a :: b :: r) p => match coE g n a, coE g n (.BoolOp .Or (b :: r) p) with
      | some x, some y => some (.orV x y)
      | _, _ => none
    | .Compare a [op] [b] _ => match coE g n a, coE g n b with
      | some x, some y => some (.cmp (copOf op) x y)
      | _, _ => none
    | .Compare a [op, op'] [b, c] _ => match coE g n a, coE g n b, coE g n c with
      | some x, some y, some z => some (.chain (copOf op) (copOf op') x y z)
      | _, _, _ => none
    | .IfExp t a b _ => match coT g n t, coE g n a, coE g n b with
      | some x, some y, some z => some (.ite x y z)
      | _, _, _ => none
    | .Tuple es _ _ => (coA g n es).map .tup
    | .List es _ => (coA g n es).map .lst
    | .Subscript a s _ => match coE g n a with
      | none => none
      | some x => match s with
        | .Slice none none (some (.UnaryOp .USub (.Constant (.int 1) _ _) _)) _ => some (.rev x)
        | .Slice (some lo) (some hi) none _ => match coE g n lo, coE g n hi with | some l, some h => some (.sl2 x l h) | _, _ => none
        | .Slice (some lo) none none _ => (coE g n lo).map (.slL x)
        | .Slice none (some hi) none _ => (coE g n hi).map (.slH x)
        | .Slice .. => none
        | b => (coE g n b).map (.idx x)
    | .Attribute a f _ => if decide (f ∈ g.atrs) && okBase a then (coE g n a).map fun x => .attr x f else none
    | .Call (.Name f _) args [] _ =>
      if g.isBi f then
        if f = ("isinstance" : Str) then match args with
          | [a, .Name t _] => match coE g n a, clsTy g t with | some x, some ty => some (.isi x [ty]) | _, _ => none
          | [a, .Tuple ts _ _] => match coE g n a, tysOf g ts with | some x, some tys => if decide (0 < tys.length) && decide (tys.length ≤ 100) then some (.isi x tys) else none | _, _ => none
          | _ => none
        else match args with
          | [a] => match biOf f, coE g n a with | some b, some x => some (.bi b x) | _, _ => none
          | [a, b] => match coE g n a, coE g n b with
            | some x, some y => if f = ("max" : Str) then some (.bi2 .max x y) else if f = ("min" : Str) then some (.bi2 .min x y) else none
            | _, _ => none
          | _ => none
      else if g.isGl f then
        if f = ("gcd" : Str) ∧ g.gcd = true then match args with
          | [a, b] => match coE g n a, coE g n b with | some x, some y => some (.bi2 .gcd x y) | _, _ => none
          | _ => none
        else match g.fns.lookup f, g.clss.lookup f, coA g n args with
          | some i, none, some as => some (.call i as)
          | none, some i, some as => some (.mk i as)
          | _, _, _ => none
      else none
    | .ListComp elt [⟨tg, iter, ifs, 0⟩] s _ =>
      let gb := g.blk s
      match patOf gb 8 tg, coI g n (isTup tg) iter, coE gb n elt with
      | some p, some it, some e => if decide (p.slots.Nodup) && blkC g.N g.sc s (p.slots.map fun i => (g.N.getD i ⟨#[]⟩, i)) then (match ifs with
          | [] => some (.lc p p.slots it .yes e)
          | [t] => (coT gb n t).map fun t => .lc p p.slots it t e
          | _ => none) else none
      | _, _, _ => none
    | .Dict ks vs _ => match keysOf ks, coA g n vs with
      | some ks, some as => some (.dct ks as)
      | _, _ => none
    | _ => none
def tysOf (g : Gm) : List Expr → Option (List Ty)
  | [] => some []
  | .Name t _ :: r => match clsTy g t, tysOf g r with | some x, some y => some (x :: y) | _, _ => none
  | _ :: _ => none
def coT (g : Gm) : Nat → Expr → Option CT
  | 0, _ => none
  | n + 1, e => match e with
    | .BoolOp _ [a] _ => coT g n a
    | .BoolOp .And (a :: b :: r) p => match coT g n a, coT g n (.BoolOp .And (b :: r) p) with
      | some x, some y => some (.and x y)
      | _, _ => none
    | .BoolOp .Or (a :: b :: r) p => match coT g n a, coT g n (.BoolOp .Or (b :: r) p) with
      | some x, some y => some (.or x y)
      | _, _ => none
    | .UnaryOp .Not a _ => (coT g n a).map .not
    | .IfExp .. => none
    | .BoolOp .. => none
    | e => (coE g n e).map .tr
def coA (g : Gm) : Nat → List Expr → Option CA
  | 0, _ => none
  | _ + 1, [] => some .nil
  | n + 1, e :: es => if isStar e then none else match coE g n e, coA g n es with
    | some x, some y => some (.cons x y)
    | _, _ => none
def coI (g : Gm) : Nat → Bool → Expr → Option CI
  | 0, _, _ => none
  | n + 1, tup, e => match e with
    | .Call (.Name f _) args [] _ =>
      if g.isBi f = true ∧ f = ("range" : Str) then match args with
        | [a] => if isStar a then none else (coE g n a).map .rng1
        | [a, b] => if isStar a || isStar b then none else match coE g n a, coE g n b with | some x, some y => some (.rng2 x y) | _, _ => none
        | _ => none
      else if g.isBi f = true ∧ f = ("enumerate" : Str) then match args with
        | [a] => if tup && !isStar a then (coE g n a).map .enum else none
        | _ => none
      else if g.isBi f = true ∧ f = ("zip" : Str) then match args with
        | [a, b] => if tup && !isStar a && !isStar b then (match coE g n a, coE g n b with | some x, some y => some (.zip x y) | _, _ => none) else none
        | _ => none
      else (coE g n e).map .seq
    | e => (coE g n e).map .seq
end

/-! ### names to be frozen ahead of a statement -/
def slicesOf : Expr → List Expr
  | .Slice lo hi st _ => lo.toList ++ hi.toList ++ st.toList
  | e => [e]
def fzE (g : Gm) : Nat → Bool → Expr → List Str
  | 0, _, _ => []
  | n + 1, r, e => match e with
    | .Name x _ => if r then [x] else []
    | .BinOp a _ b _ => fzE g n false a ++ fzE g n false b
    | .UnaryOp _ a _ => fzE g n false a
    | .BoolOp _ es _ => es.flatMap (fzE g n r)
    | .Compare a _ bs _ => fzE g n false a ++ bs.flatMap (fzE g n false)
    | .IfExp t a b _ => fzE g n false t ++ fzE g n r a ++ fzE g n r b
    | .Tuple es _ _ => es.flatMap (fzE g n true)
    | .List es _ => es.flatMap (fzE g n true)
    | .Subscript a s _ => fzE g n false a ++ (slicesOf s).flatMap (fzE g n false)
    | .Attribute a _ _ => fzE g n false a
    | .Call (.Name f _) args _ _ => args.flatMap (fzE g n (!g.isBi f && !decide (f = ("gcd" : Str))))
    | .Call (.Attribute o _ _) args _ _ => fzE g n false o ++ args.flatMap (fzE g n true)
    | .Dict _ vs _ => vs.flatMap (fzE g n true)
    | .ListComp elt gs _ _ => fzE g n true elt ++ gs.flatMap fun c => fzE g n false c.iter ++ c.ifs.flatMap (fzE g n false)
    | _ => []
def fzI (g : Gm) (e : Expr) : List Str :=
  match e with
  | .Call (.Name _ _) args _ _ => args.flatMap (fzE g 60 true)
  | e => fzE g 60 true e
def fzS (g : Gm) : Stmt → List Str
  | .Assign [tg] (.Call (.Attribute (.Name _ _) m _) args _ _) _ => if m = ("pop" : Str) then [] else args.flatMap (fzE g 60 true) ++ (match tg with | .Subscript _ i _ => fzE g 60 false i | _ => [])
  | .Assign [tg] e _ => fzE g 60 true e ++ (match tg with | .Subscript _ i _ => fzE g 60 false i | _ => [])
  | .AugAssign _ _ e _ => fzE g 60 false e
  | .Expr (.Call (.Attribute (.Name _ _) m _) args _ _) _ => if m = ("extend" : Str) then args.flatMap (fzE g 60 false) else args.flatMap (fzE g 60 true)
  | .Expr e _ => fzE g 60 false e
  | .If t _ _ _ => fzE g 60 false t
  | .While t _ _ _ => []
  | .For _ it _ _ _ => fzI g it
  | .Return (some e) _ => fzE g 60 true e
  | _ => []
def fzN (g : Gm) (s : Stmt) : List Nat := (fzS g s).filterMap fun x => if isLoc (g.sc.names.lookup x) then ixOf x g.N 0 else none

/-! ### statements -/
def isLC : Expr → Bool
  | .ListComp .. => true | .SetComp .. => true | .DictComp .. => true | _ => false
/-- a comprehension whose value is swapped into the target's place (and must be stored by its own rule) -/
def lcSw (g : Gm) (tg e : Expr) : Bool :=
  match tg, e with
  | .Name t pos, .ListComp _ _ s p2 => decide (g.sc.names.lookup t = some .local) && decide (pos.line = p2.line) && !(s.names.any fun (n, k) => n == t && (k == .local || k == .cell))
  | _, _ => false
/-- a, b = x, y | a, b, c = x, y, z of local names, stored from the right; the values are not all constants -/
def isConstE : Expr → Bool
  | .Constant .. => true | _ => false
def parNames (g : Gm) : List Expr → Nat → Option (List Nat)
  | [], _ => some []
  | .Name x pos :: r, l => if g.sc.names.lookup x = some .local ∧ pos.line = l then (match ixOf x g.N 0, parNames g r l with | some i, some is => some (i :: is) | _, _ => none) else none
  | _ :: _, _ => none
/-- the tuple's stores are surely not swapped -/
def noSwap (g : Gm) (ts : List Expr) (e : Expr) : Bool :=
  match e with
  | .Tuple vs _ _ => !(ts.length == 2 || ts.length == 3) || vs.length != ts.length || (ts.any fun t => match t with | .Name x _ => decide (g.sc.names.lookup x ≠ some .local) | _ => true)
  | _ => true
mutual
def coS (g : Gm) : Nat → Stmt → Option CS
  | 0, _ => none
  | n + 1, s => match s with
    | .Assign [.Name x px] e pos =>
      match e with
      | .Call (.Attribute (.Name y _) m ap) [] [] cp => if m = ("pop" : Str) ∧ (ap.endLine == cp.line) = true then (match g.stor x, g.slot y with | some j, some i => some (.pop (.nm j) i) | _, _ => none) else none
      | e => match g.stor x, coE g 60 e with
        | some i, some c => if isLC e then (if lcSw g (.Name x px) e then some (.set i c) else none) else some (.set i c)
        | _, _ => none
    | .Assign [.Tuple ts k pt] e pos =>
      match e with
      | .Call (.Attribute (.Name y _) m ap) [] [] cp => if m = ("pop" : Str) ∧ (ap.endLine == cp.line) = true then (match patOf g 8 (.Tuple ts k pt), g.slot y with | some p, some i => some (.pop p i) | _, _ => none) else none
      | .Tuple vs k2 p2 => if g.own.isNone && (ts.length == 2 || ts.length == 3) && vs.length == ts.length && !(vs.any isStar) then
          match parNames g ts ((ts.head?.map (·.pos.line)).getD 0), coA g 60 vs with
          | some is, some as => if decide (is.Nodup) && vs.any (fun v => !foldedForSure 8 v) && !(vs.all (constantsAlone 8)) then some (.par is as) else none
          | _, _ => if noSwap g ts e then (match patOf g 8 (.Tuple ts k pt), coE g 60 e with | some p, some c => some (.setP p c) | _, _ => none) else none
        else if noSwap g ts e then (match patOf g 8 (.Tuple ts k pt), coE g 60 e with | some p, some c => some (.setP p c) | _, _ => none) else none
      | e => if isLC e then none else match patOf g 8 (.Tuple ts k pt), coE g 60 e with | some p, some c => some (.setP p c) | _, _ => none
    | .Assign [.Subscript (.Name x _) i _] e _ => if isLC e then none else match g.slot x, coE g 60 i, coE g 60 e with
      | some j, some a, some c => (match i with | .Slice .. => none | .Starred .. => none | _ => some (.put j a c))
      | _, _, _ => none
    | .Assign [.Attribute o f _] e _ => if isLC e || !(decide (f ∈ g.atrs)) || !(okBase o) then none else match coE g 60 o, coE g 60 e with | some a, some c => some (.fset a f c) | _, _ => none
    | .AugAssign (.Name x _) op e _ => match g.stor x, bopOf op, coE g 60 e with | some i, some o, some c => some (.aug i o c) | _, _, _ => none
    | .Expr (.Constant (.str _) _ _) _ => some .pass
    | .Expr (.Call (.Attribute (.Name x _) m ap) [a] [] cp) _ =>
      if (ap.endLine == cp.line) = false then none
      else if m = ("append" : Str) then (match g.slot x, coE g 60 a with | some i, some c => some (.app i c) | _, _ => none)
      else if m = ("extend" : Str) then (match g.slot x, coE g 60 a with | some i, some c => some (.ext i c) | _, _ => none)
      else none
    | .Expr e _ => if isLC e then none else (coE g 60 e).map .drop
    | .If t a b _ => match coT g 60 t, coB g n a, coB g n b with | some t, some x, some y => some (.ifs t x y) | _, _, _ => none
    | .While t b [] _ => match coT g 60 t, coB g n b with | some t, some x => some (.whl t x) | _, _ => none
    | .For tg it b [] _ => match patOf g 8 tg, coI g 60 (isTup tg) it, coB g n b with | some p, some i, some x => some (.for p i x) | _, _, _ => none
    | .Return (some e) _ => (coE g 60 e).map .ret
    | .Return none _ => some .retN
    | .Pass _ => some .pass
    | .Break _ => some .brk
    | .Continue _ => some .cont
    | .Raise .. => some .never
    | _ => none
def coB (g : Gm) : Nat → List Stmt → Option CB
  | 0, _ => none
  | _ + 1, [] => some .nil
  | n + 1, s :: r => match coS g n s, coB g n r with
    | some c, some cs => some (.cons (fzN g s) c cs)
    | _, _ => none
end
end Co
end

section
set_option maxHeartbeats 0
set_option Elab.async false
set_option linter.all false
set_option maxRecDepth 100000
/-! Co3: values and heaps that tell data; one step from heap to heap. -/
namespace Co
open PySem L2

mutual
/-- v tells d: tuples and lists stand still in F, objects are at their places m -/
def Is (K : PySem.W.Frag) (F : Hp) (m : List Addr) : D → V → Prop
  | .non, v => v = .non
  | .bl b, v => v = .bl b
  | .int i, v => v = .int i
  | .str x, v => v = .str x
  | .tup ds, v => ∃ a vs, v = .ref a ∧ SqT K F a vs ∧ IsA K F m ds vs
  | .lst ds, v => ∃ a vs, v = .ref a ∧ F a = some (.lst vs) ∧ IsA K F m ds vs
  | .scr ds, v => ∃ a vs, v = .ref a ∧ SqL K F a vs ∧ IsA K F m ds vs
  | .obj i, v => ∃ a, v = .ref a ∧ m[i]? = some a
def IsA (K : PySem.W.Frag) (F : Hp) (m : List Addr) : List D → List V → Prop
  | [], vs => vs = []
  | d :: ds, vs => ∃ v ws, vs = v :: ws ∧ Is K F m d v ∧ IsA K F m ds ws
end

theorem same_l {K : PySem.W.Frag} {H H' : Hp} {a : Addr} {xs : List V} (e : Same H H') (h : SqL K H a xs) : SqL K H' a xs := e.seq h
theorem same_t {K : PySem.W.Frag} {H H' : Hp} {a : Addr} {xs : List V} (e : Same H H') (h : SqT K H a xs) : SqT K H' a xs := by
  rcases h with (h | ⟨o, h⟩) | h
  · exact .inl (.inl (e _ _ h))
  · exact .inl (.inr ⟨o, e _ _ h⟩)
  · exact .inr h
theorem same_new {H : Hp} {p : Addr} {o : HO} (h : H p = none) : Same H (upd H p o) := fun a u e => by
  rw [upd_ne (ne_of_none e h)]; exact e

mutual
theorem Is.mono {K : PySem.W.Frag} {F F' : Hp} {m m' : List Addr} (e : Same F F') (p : ∃ l, m' = m ++ l) : ∀ (d : D) (v : V), Is K F m d v → Is K F' m' d v
  | .non, _, h => by simpa only [Is] using h
  | .bl _, _, h => by simpa only [Is] using h
  | .int _, _, h => by simpa only [Is] using h
  | .str _, _, h => by simpa only [Is] using h
  | .tup ds, v, h => by
    simp only [Is] at h ⊢
    obtain ⟨a, vs, rfl, h1, h2⟩ := h
    exact ⟨a, vs, rfl, same_t e h1, IsA.mono e p ds vs h2⟩
  | .lst ds, v, h => by
    simp only [Is] at h ⊢
    obtain ⟨a, vs, rfl, h1, h2⟩ := h
    exact ⟨a, vs, rfl, e _ _ h1, IsA.mono e p ds vs h2⟩
  | .scr ds, v, h => by
    simp only [Is] at h ⊢
    obtain ⟨a, vs, rfl, h1, h2⟩ := h
    exact ⟨a, vs, rfl, same_l e h1, IsA.mono e p ds vs h2⟩
  | .obj i, v, h => by
    simp only [Is] at h ⊢
    obtain ⟨a, rfl, h1⟩ := h
    obtain ⟨l, rfl⟩ := p
    refine ⟨a, rfl, ?_⟩
    rw [List.getElem?_append_left (List.getElem?_eq_some_iff.mp h1).1]
    exact h1
theorem IsA.mono {K : PySem.W.Frag} {F F' : Hp} {m m' : List Addr} (e : Same F F') (p : ∃ l, m' = m ++ l) : ∀ (ds : List D) (vs : List V), IsA K F m ds vs → IsA K F' m' ds vs
  | [], _, h => by simpa only [IsA] using h
  | d :: ds, vs, h => by
    simp only [IsA] at h ⊢
    obtain ⟨v, ws, rfl, h1, h2⟩ := h
    exact ⟨v, ws, rfl, Is.mono e p d v h1, IsA.mono e p ds ws h2⟩
end
section
variable {K : PySem.W.Frag} {F F' H H' H0 H1 H2 F0 F1 F2 : Hp} {m m' m0 m1 m2 : List Addr} {d : D} {ds : List D} {v : V} {vs : List V}
theorem IsA.len : ∀ {ds : List D} {vs : List V}, IsA K F m ds vs → ds.length = vs.length
  | [], _, h => by simp only [IsA] at h; subst h; rfl
  | d :: ds, vs, h => by
    simp only [IsA] at h
    obtain ⟨v, ws, rfl, h1, h2⟩ := h
    simp [IsA.len h2]
theorem IsA.get : ∀ {ds : List D} {vs : List V} {i : Nat}, IsA K F m ds vs → ∀ {d}, ds[i]? = some d → ∃ v, vs[i]? = some v ∧ Is K F m d v
  | [], _, _, h, d, e => by simp at e
  | d :: ds, vs, i, h, d', e => by
    simp only [IsA] at h
    obtain ⟨v, ws, rfl, h1, h2⟩ := h
    cases i with
    | zero => simp at e; subst e; exact ⟨v, by simp, h1⟩
    | succ i => simp at e; obtain ⟨w, q1, q2⟩ := IsA.get h2 e; exact ⟨w, by simpa using q1, q2⟩
theorem IsA.app : ∀ {ds es : List D} {vs ws : List V}, IsA K F m ds vs → IsA K F m es ws → IsA K F m (ds ++ es) (vs ++ ws)
  | [], _, _, _, h, k => by simp only [IsA] at h; subst h; exact k
  | d :: ds, es, vs, ws, h, k => by
    simp only [IsA] at h
    obtain ⟨v, us, rfl, h1, h2⟩ := h
    simp only [List.cons_append, IsA]
    exact ⟨v, us ++ ws, rfl, h1, IsA.app h2 k⟩
theorem IsA.one (h : Is K F m d v) : IsA K F m [d] [v] := by simp only [IsA]; exact ⟨v, [], rfl, h, rfl⟩
theorem IsA.take : ∀ {ds : List D} {vs : List V} (n : Nat), IsA K F m ds vs → IsA K F m (ds.take n) (vs.take n)
  | [], _, n, h => by simp only [IsA] at h; subst h; simp [IsA]
  | d :: ds, vs, 0, h => by simp [IsA]
  | d :: ds, vs, n + 1, h => by
    simp only [IsA] at h
    obtain ⟨v, us, rfl, h1, h2⟩ := h
    simp only [List.take_succ_cons, IsA]
    exact ⟨v, _, rfl, h1, IsA.take n h2⟩
theorem IsA.drop : ∀ {ds : List D} {vs : List V} (n : Nat), IsA K F m ds vs → IsA K F m (ds.drop n) (vs.drop n)
  | [], _, n, h => by simp only [IsA] at h; subst h; simp [IsA]
  | d :: ds, vs, 0, h => by simpa using h
  | d :: ds, vs, n + 1, h => by
    simp only [IsA] at h
    obtain ⟨v, us, rfl, h1, h2⟩ := h
    simpa using IsA.drop n h2
theorem IsA.rev : ∀ {ds : List D} {vs : List V}, IsA K F m ds vs → IsA K F m ds.reverse vs.reverse
  | [], _, h => by simp only [IsA] at h; subst h; simp [IsA]
  | d :: ds, vs, h => by
    simp only [IsA] at h
    obtain ⟨v, us, rfl, h1, h2⟩ := h
    simp only [List.reverse_cons]
    exact (IsA.rev h2).app (.one h1)
theorem IsA.set : ∀ {ds : List D} {vs : List V} (i : Nat), IsA K F m ds vs → Is K F m d v → IsA K F m (ds.set i d) (vs.set i v)
  | [], _, n, h, _ => by simp only [IsA] at h; subst h; simp [IsA]
  | e :: ds, vs, 0, h, k => by
    simp only [IsA] at h
    obtain ⟨w, us, rfl, h1, h2⟩ := h
    simp only [List.set_cons_zero, IsA]
    exact ⟨_, _, rfl, k, h2⟩
  | e :: ds, vs, n + 1, h, k => by
    simp only [IsA] at h
    obtain ⟨w, us, rfl, h1, h2⟩ := h
    simp only [List.set_cons_succ, IsA]
    exact ⟨_, _, rfl, h1, IsA.set n h2 k⟩
theorem IsA.dropLast {ds : List D} {vs : List V} (h : IsA K F m ds vs) : IsA K F m ds.dropLast vs.dropLast := by
  rw [List.dropLast_eq_take, List.dropLast_eq_take, h.len]; exact h.take _
theorem IsA.rep (n : Nat) (h : IsA K F m ds vs) : IsA K F m (List.replicate n ds).flatten (List.replicate n vs).flatten := by
  induction n with
  | zero => simp [IsA]
  | succ n ih => simp only [List.replicate_succ, List.flatten_cons]; exact h.app ih
theorem IsA.intsOf : ∀ {ds : List D} {vs : List V} {ns : List Int}, IsA K F m ds vs → Co.intsOf ds = some ns → vs = ns.map V.int
  | [], _, _, h, e => by simp only [IsA] at h; simp [Co.intsOf] at e; subst h; subst e; rfl
  | d :: ds, vs, ns, h, e => by
    simp only [IsA] at h
    obtain ⟨v, us, rfl, h1, h2⟩ := h
    cases d <;> simp only [Co.intsOf, reduceCtorEq, Option.map_eq_some_iff] at e
    obtain ⟨ms, e1, rfl⟩ := e
    simp only [Is] at h1
    rw [h1, IsA.intsOf h2 e1]; rfl
theorem IsA.ofInts : ∀ (ns : List Int), IsA K F m (ns.map D.int) (ns.map V.int)
  | [] => by simp [IsA]
  | n :: ns => by simp only [List.map_cons, IsA]; exact ⟨_, _, rfl, by simp [Is], IsA.ofInts ns⟩
theorem IsA.boolsOf : ∀ {ds : List D} {vs : List V} {ns : List Bool}, IsA K F m ds vs → Co.boolsOf ds = some ns → vs = ns.map V.bl
  | [], _, _, h, e => by simp only [IsA] at h; simp [Co.boolsOf] at e; subst h; subst e; rfl
  | d :: ds, vs, ns, h, e => by
    simp only [IsA] at h
    obtain ⟨v, us, rfl, h1, h2⟩ := h
    cases d <;> simp only [Co.boolsOf, reduceCtorEq, Option.map_eq_some_iff] at e
    obtain ⟨ms, e1, rfl⟩ := e
    simp only [Is] at h1
    rw [h1, IsA.boolsOf h2 e1]; rfl

/-- one step: what stood, and is no object, stands; what is new is new -/
structure Stp (F : Hp) (m : List Addr) (H F' : Hp) (m' : List Addr) (H' : Hp) : Prop where
  sub : Same F F'
  pre : ∃ l, m' = m ++ l
  keep : ∀ a o, H a = some o → a ∉ m → H' a = some o
  nof : ∀ a, H a ≠ none → F a = none → F' a = none
  newm : ∀ a, a ∈ m' → a ∈ m ∨ H a = none
  stay : ∀ a, H a ≠ none → H' a ≠ none
theorem Stp.refl : Stp F m H F m H := ⟨Same.refl _, ⟨[], by simp⟩, fun _ _ h _ => h, fun _ _ h => h, fun _ h => .inl h, fun _ h => h⟩
theorem Stp.trans (a : Stp F m H F1 m1 H1) (b : Stp F1 m1 H1 F2 m2 H2) : Stp F m H F2 m2 H2 where
  sub := a.sub.trans b.sub
  pre := by
    obtain ⟨l, rfl⟩ := a.pre
    obtain ⟨l2, rfl⟩ := b.pre
    exact ⟨l ++ l2, by simp⟩
  keep := fun x o h hn => b.keep x o (a.keep x o h hn) fun z => (a.newm x z).elim hn fun e => by rw [e] at h; cases h
  nof := fun x h hn => b.nof x (a.stay x h) (a.nof x h hn)
  newm := fun x h => (b.newm x h).elim (a.newm x) fun e => .inr (by
    cases q : H x with
    | none => rfl
    | some o => exact absurd e (a.stay x (by rw [q]; exact fun z => nomatch z)))
  stay := fun x h => b.stay x (a.stay x h)
theorem Stp.is (s : Stp F m H F' m' H') (h : Is K F m d v) : Is K F' m' d v := Is.mono s.sub s.pre d v h
theorem Stp.isA (s : Stp F m H F' m' H') (h : IsA K F m ds vs) : IsA K F' m' ds vs := IsA.mono s.sub s.pre ds vs h

/-- a dict's entries, an instance's fields -/
def KIs (K : PySem.W.Frag) (F : Hp) (m : List Addr) {κ : Type} : List (κ × D) → List (κ × V) → Prop
  | [], ws => ws = []
  | (k, d) :: r, ws => ∃ v us, ws = (k, v) :: us ∧ Is K F m d v ∧ KIs K F m r us
theorem KIs.mono {κ : Type} (e : Same F F') (p : ∃ l, m' = m ++ l) : ∀ {ks : List (κ × D)} {ws : List (κ × V)}, KIs K F m ks ws → KIs K F' m' ks ws
  | [], _, h => h
  | (k, d) :: r, ws, h => by
    obtain ⟨v, us, rfl, h1, h2⟩ := h
    exact ⟨v, us, rfl, Is.mono e p d v h1, KIs.mono e p h2⟩
theorem KIs.len {κ : Type} : ∀ {ks : List (κ × D)} {ws : List (κ × V)}, KIs K F m ks ws → ks.length = ws.length
  | [], _, h => by cases h; rfl
  | (k, d) :: r, ws, h => by
    obtain ⟨v, us, rfl, h1, h2⟩ := h
    simp [KIs.len h2]
theorem KIs.look {κ : Type} [BEq κ] [LawfulBEq κ] : ∀ {ks : List (κ × D)} {ws : List (κ × V)} {k : κ} {d : D}, KIs K F m ks ws → ks.lookup k = some d → ∃ v, ws.lookup k = some v ∧ Is K F m d v
  | [], _, _, _, h, e => by simp at e
  | (k', d') :: r, ws, k, d, h, e => by
    obtain ⟨v, us, rfl, h1, h2⟩ := h
    rw [List.lookup_cons] at e ⊢
    cases hb : k == k' with
    | true => rw [hb] at e; simp at e; subst e; exact ⟨v, rfl, h1⟩
    | false => rw [hb] at e; exact KIs.look h2 e

def ObIs (K : PySem.W.Frag) (cl : List Addr) (F : Hp) (m : List Addr) (H : Hp) (a : Addr) : Ob → Prop
  | .dk kvs => ∃ kws, H a = some (.dK kws) ∧ KIs K F m kvs kws
  | .ins c fs => ∃ C dx ws, cl[c]? = some C ∧ H a = some (.ins C dx ws) ∧ H dx = some (.own a) ∧ dx ∉ m ∧ KIs K F m fs ws

structure G (K : PySem.W.Frag) (cl : List Addr) (F : Hp) (m : List Addr) (S : Store) (H : Hp) : Prop where
  sub : Same F H
  len : S.length = m.length
  nd : m.Nodup
  ob : ∀ (i : Nat) (a : Addr) (o : Ob), m[i]? = some a → S[i]? = some o → F a = none ∧ ObIs K cl F m H a o

def SlOk (K : PySem.W.Frag) (F : Hp) (m : List Addr) (H : Hp) : Slot → Option (Option V) → Prop
  | .non, _ => True
  | .val d, o => ∃ v, o = some (some v) ∧ Is K F m d v
  | .own ds, o => ∃ p vs, o = some (some (.ref p)) ∧ F p = none ∧ p ∉ m ∧ H p = some (.lst vs) ∧ IsA K F m ds vs
def isOwn : Option Slot → Bool
  | some (.own _) => true | _ => false
structure EnvOk (K : PySem.W.Frag) (F : Hp) (m : List Addr) (τ : Env) (σ : St) (H : Hp) : Prop where
  len : τ.length = σ.length
  sl : ∀ (i : Nat) (s : Slot), τ[i]? = some s → SlOk K F m H s (σ[i]?)
  apart : ∀ (i j : Nat) (p : Addr), i ≠ j → isOwn τ[i]? = true → isOwn τ[j]? = true → σ[i]? = some (some (.ref p)) → σ[j]? ≠ some (some (.ref p))

theorem SlOk.step {s : Slot} {o : Option (Option V)} (st : Stp F m H F' m' H') (h : SlOk K F m H s o) : SlOk K F' m' H' s o := by
  cases s with
  | non => trivial
  | val d => obtain ⟨v, e, q⟩ := h; exact ⟨v, e, st.is q⟩
  | own ds =>
    obtain ⟨p, vs, e, h1, h2, h3, h4⟩ := h
    have hp : H p ≠ none := by rw [h3]; exact fun z => nomatch z
    exact ⟨p, vs, e, st.nof p hp h1, fun z => (st.newm p z).elim h2 fun q => hp q, st.keep p _ h3 h2, st.isA h4⟩
theorem EnvOk.step {τ : Env} {σ : St} (st : Stp F m H F' m' H') (h : EnvOk K F m τ σ H) : EnvOk K F' m' τ σ H' :=
  ⟨h.len, fun i s e => (h.sl i s e).step st, h.apart⟩

/-- a result, H0: the heap ahead of it -/
def RvOk (K : PySem.W.Frag) (H0 F : Hp) (m : List Addr) (H : Hp) : Rv → V → Prop
  | .fz d, v => Is K F m d v
  | .fr ds, v => ∃ p vs, v = .ref p ∧ H p = some (.lst vs) ∧ F p = none ∧ p ∉ m ∧ H0 p = none ∧ IsA K F m ds vs
  | .rd ds, v => ∃ p vs, v = .ref p ∧ H p = some (.lst vs) ∧ F p = none ∧ p ∉ m ∧ IsA K F m ds vs
theorem RvOk.step {r : Rv} (st : Stp F m H F' m' H') (h : RvOk K H0 F m H r v) : RvOk K H0 F' m' H' r v := by
  cases r with
  | fz d => exact st.is h
  | fr ds =>
    obtain ⟨p, vs, e, h3, h1, h2, h0, h4⟩ := h
    have hp : H p ≠ none := by rw [h3]; exact fun z => nomatch z
    exact ⟨p, vs, e, st.keep p _ h3 h2, st.nof p hp h1, fun z => (st.newm p z).elim h2 fun q => hp q, h0, st.isA h4⟩
  | rd ds =>
    obtain ⟨p, vs, e, h3, h1, h2, h4⟩ := h
    have hp : H p ≠ none := by rw [h3]; exact fun z => nomatch z
    exact ⟨p, vs, e, st.keep p _ h3 h2, st.nof p hp h1, fun z => (st.newm p z).elim h2 fun q => hp q, st.isA h4⟩
theorem RvOk.back {r : Rv} (st : Stp F0 m0 H0 F1 m1 H1) (h : RvOk K H1 F m H r v) : RvOk K H0 F m H r v := by
  cases r with
  | fz d => exact h
  | fr ds =>
    obtain ⟨p, vs, e, h3, h1, h2, h0, h4⟩ := h
    refine ⟨p, vs, e, h3, h1, h2, ?_, h4⟩
    cases q : H0 p with
    | none => rfl
    | some o => exact absurd h0 (st.stay p (by rw [q]; exact fun z => nomatch z))
  | rd ds => exact h

/-- a new thing that stands still -/
theorem Stp.new {p : Addr} {o : HO} (g : Same F H) (hp : H p = none) : Stp F m H (upd F p o) m (upd H p o) := by
  have fp : F p = none := by
    cases q : F p with
    | none => rfl
    | some u => rw [g p u q] at hp; cases hp
  refine ⟨same_new fp, ⟨[], by simp⟩, fun a u h _ => same_new hp a u h, fun a h hn => ?_, fun a h => .inl h, fun a h => ?_⟩
  · rw [upd_ne (fun z => h (by rw [z]; exact hp))]; exact hn
  · rw [upd_ne (fun z => h (by rw [z]; exact hp))]; exact h
/-- a new thing that is not told yet -/
theorem Stp.lay {p : Addr} {o : HO} (hp : H p = none) : Stp F m H F m (upd H p o) :=
  ⟨Same.refl _, ⟨[], by simp⟩, fun a u h _ => same_new hp a u h, fun _ _ h => h, fun a h => .inl h, fun a h => by rw [upd_ne (fun z => h (by rw [z]; exact hp))]; exact h⟩
theorem G.notin {cl : List Addr} {S : Store} (g : G K cl F m S H) {p : Addr} (hp : H p = none) : p ∉ m := fun z => by
  obtain ⟨i, hi⟩ := List.getElem?_of_mem z
  have hl : i < S.length := by rw [g.len]; exact (List.getElem?_eq_some_iff.mp hi).1
  obtain ⟨_, q⟩ := g.ob i p S[i] hi (by simp [hl])
  cases e : S[i] with
  | dk kvs => rw [e] at q; obtain ⟨_, h1, _⟩ := q; rw [hp] at h1; cases h1
  | ins c fs => rw [e] at q; obtain ⟨_, _, _, _, h1, _⟩ := q; rw [hp] at h1; cases h1
theorem ObIs.keep {cl : List Addr} {a : Addr} {o : Ob} (e : Same F F') (h : ObIs K cl F m H a o) (ha : H' a = H a) (hd : ∀ dx, H dx = some (.own a) → H' dx = some (.own a)) : ObIs K cl F' m H' a o := by
  cases o with
  | dk kvs => obtain ⟨ws, h1, h2⟩ := h; exact ⟨ws, by rw [ha]; exact h1, h2.mono e ⟨[], by simp⟩⟩
  | ins c fs =>
    obtain ⟨C, dx, ws, h0, h1, h2, h3, h4⟩ := h
    exact ⟨C, dx, ws, h0, by rw [ha]; exact h1, hd _ h2, h3, h4.mono e ⟨[], by simp⟩⟩
theorem G.new {cl : List Addr} {S : Store} (g : G K cl F m S H) {p : Addr} {o : HO} (hp : H p = none) : G K cl (upd F p o) m S (upd H p o) := by
  have fp : F p = none := by
    cases q : F p with
    | none => rfl
    | some u => rw [g.sub p u q] at hp; cases hp
  refine ⟨fun a u h => ?_, g.len, g.nd, fun i a o' h1 h2 => ?_⟩
  · by_cases e : a = p
    · subst e; rw [upd_same] at h ⊢; exact h
    · rw [upd_ne e] at h ⊢; exact g.sub a u h
  · obtain ⟨q1, q2⟩ := g.ob i a o' h1 h2
    have hne : a ≠ p := fun z => g.notin hp (z ▸ List.mem_of_getElem? h1)
    exact ⟨by rw [upd_ne hne]; exact q1, q2.keep (same_new fp) (upd_ne hne) fun dx h => by rw [upd_ne (ne_of_none h hp)]; exact h⟩
theorem G.lay {cl : List Addr} {S : Store} (g : G K cl F m S H) {p : Addr} {o : HO} (hp : H p = none) : G K cl F m S (upd H p o) := by
  refine ⟨g.sub.trans (same_new hp), g.len, g.nd, fun i a o' h1 h2 => ?_⟩
  obtain ⟨q1, q2⟩ := g.ob i a o' h1 h2
  have hne : a ≠ p := fun z => g.notin hp (z ▸ List.mem_of_getElem? h1)
  exact ⟨q1, q2.keep (Same.refl _) (upd_ne hne) fun dx h => by rw [upd_ne (ne_of_none h hp)]; exact h⟩
/-- a list is let go: from now on it stands still -/
theorem G.frz {cl : List Addr} {S : Store} (g : G K cl F m S H) {p : Addr} {us : List V} (h : H p = some (.lst us)) (fp : F p = none) (hm : p ∉ m) : G K cl (upd F p (.lst us)) m S H := by
  refine ⟨fun a u q => ?_, g.len, g.nd, fun i a o' h1 h2 => ?_⟩
  · by_cases e : a = p
    · subst e; rw [upd_same] at q; cases q; exact h
    · rw [upd_ne e] at q; exact g.sub a u q
  · obtain ⟨q1, q2⟩ := g.ob i a o' h1 h2
    have hne : a ≠ p := fun z => hm (z ▸ List.mem_of_getElem? h1)
    exact ⟨by rw [upd_ne hne]; exact q1, q2.keep (same_new fp) rfl fun dx h => h⟩
theorem Stp.frz {p : Addr} {us : List V} (st : Stp F0 m0 H0 F m H) (h : H p = some (.lst us)) (fp : F p = none) (h0 : H0 p = none) : Stp F0 m0 H0 (upd F p (.lst us)) m H :=
  ⟨st.sub.trans (same_new fp), st.pre, st.keep, fun a q hn => by rw [upd_ne (fun z => q (by rw [z]; exact h0))]; exact st.nof a q hn, st.newm, st.stay⟩
/-- a result is kept -/
theorem keep_ok {cl : List Addr} {S : Store} {r : Rv} (st : Stp F0 m0 H0 F m H) (g : G K cl F m S H) (h : RvOk K H0 F m H r v) (e : r.d = some d) :
    ∃ F', Stp F0 m0 H0 F' m H ∧ G K cl F' m S H ∧ Same F F' ∧ Is K F' m d v := by
  cases r with
  | fz x => simp [Rv.d] at e; subst e; exact ⟨F, st, g, Same.refl _, h⟩
  | fr ds =>
    simp [Rv.d] at e; subst e
    obtain ⟨p, us, rfl, h3, h1, h2, h0, h4⟩ := h
    refine ⟨upd F p (.lst us), st.frz h3 h1 h0, g.frz h3 h1 h2, same_new h1, ?_⟩
    simp only [Is]
    exact ⟨p, us, rfl, upd_same, IsA.mono (same_new h1) ⟨[], by simp⟩ _ _ h4⟩
  | rd ds => simp [Rv.d] at e
/-- its items -/
theorem seq_ok {r : Rv} {cl : List Addr} {S : Store} (g : G K cl F m S H) (h : RvOk K H0 F m H r v) (e : r.seq = some ds) : ∃ a vs, v = .ref a ∧ IsA K F m ds vs ∧ (SqL K H a vs ∨ SqT K H a vs) := by
  cases r with
  | fz x =>
    cases x <;> simp [Rv.seq] at e
    · subst e
      have h : Is K F m _ v := h
      simp only [Is] at h
      obtain ⟨a, vs, rfl, h1, h2⟩ := h
      exact ⟨a, vs, rfl, h2, .inr (same_t g.sub h1)⟩
    · subst e
      have h : Is K F m _ v := h
      simp only [Is] at h
      obtain ⟨a, vs, rfl, h1, h2⟩ := h
      exact ⟨a, vs, rfl, h2, .inl (.of (g.sub _ _ h1))⟩
    · subst e
      have h : Is K F m _ v := h
      simp only [Is] at h
      obtain ⟨a, vs, rfl, h1, h2⟩ := h
      exact ⟨a, vs, rfl, h2, .inl (same_l g.sub h1)⟩
  | fr x =>
    simp [Rv.seq] at e; subst e
    obtain ⟨p, us, rfl, h3, h1, h2, h0, h4⟩ := h
    exact ⟨p, us, rfl, h4, .inl (.of h3)⟩
  | rd x =>
    simp [Rv.seq] at e; subst e
    obtain ⟨p, us, rfl, h3, h1, h2, h4⟩ := h
    exact ⟨p, us, rfl, h4, .inl (.of h3)⟩
theorem lseq_ok {r : Rv} {cl : List Addr} {S : Store} (g : G K cl F m S H) (h : RvOk K H0 F m H r v) (e : r.lseq = some ds) : ∃ a vs, v = .ref a ∧ IsA K F m ds vs ∧ SqL K H a vs := by
  cases r with
  | fz x =>
    cases x <;> simp [Rv.lseq] at e
    · subst e
      have h : Is K F m _ v := h
      simp only [Is] at h
      obtain ⟨a, vs, rfl, h1, h2⟩ := h
      exact ⟨a, vs, rfl, h2, .of (g.sub _ _ h1)⟩
    · subst e
      have h : Is K F m _ v := h
      simp only [Is] at h
      obtain ⟨a, vs, rfl, h1, h2⟩ := h
      exact ⟨a, vs, rfl, h2, same_l g.sub h1⟩
  | fr x =>
    simp [Rv.lseq] at e; subst e
    obtain ⟨p, us, rfl, h3, h1, h2, h0, h4⟩ := h
    exact ⟨p, us, rfl, h4, .of h3⟩
  | rd x =>
    simp [Rv.lseq] at e; subst e
    obtain ⟨p, us, rfl, h3, h1, h2, h4⟩ := h
    exact ⟨p, us, rfl, h4, .of h3⟩
theorem tseq_ok {r : Rv} {cl : List Addr} {S : Store} (g : G K cl F m S H) (h : RvOk K H0 F m H r v) (e : r.tseq = some ds) : ∃ a vs, v = .ref a ∧ IsA K F m ds vs ∧ H a = some (.lst vs) := by
  cases r with
  | fz x =>
    cases x <;> simp [Rv.tseq] at e
    subst e
    have h : Is K F m _ v := h
    simp only [Is] at h
    obtain ⟨a, vs, rfl, h1, h2⟩ := h
    exact ⟨a, vs, rfl, h2, g.sub _ _ h1⟩
  | fr x =>
    simp [Rv.tseq] at e; subst e
    obtain ⟨p, us, rfl, h3, h1, h2, h0, h4⟩ := h
    exact ⟨p, us, rfl, h4, h3⟩
  | rd x =>
    simp [Rv.tseq] at e; subst e
    obtain ⟨p, us, rfl, h3, h1, h2, h4⟩ := h
    exact ⟨p, us, rfl, h4, h3⟩
end
end Co
end

section
set_option maxHeartbeats 0
set_option Elab.async false
set_option linter.all false
set_option maxRecDepth 100000
/-! Co4: each expression's answer is the machine's. -/
namespace Co
open PySem L2

/-! ### what the machine does, as readings -/
def SE (X : Cx) (e : Expr) : TE := fun σ H Q => ∀ pins s, Inv X pins σ H s → wpAny (model X.prog X.w) X.A (eval e X.env) (EP X pins σ Q) X.xe s
def ST (X : Cx) (e : Expr) : TT := fun σ H Q => ∀ pins s, Inv X pins σ H s → wpAny (model X.prog X.w) X.A (isTrue e X.env (eval e X.env)) (TP X pins σ Q) X.xe s
def SW (X : Cx) (e : Expr) : TT := fun σ H Q => ∀ whole pins s, Inv X pins σ H s → wpAny (model X.prog X.w) X.A (isTrue e X.env whole) (TP X pins σ Q) X.xe s
def SA (X : Cx) (es : List Expr) : TA := fun σ H Q => ∀ pos pins s, Inv X pins σ H s → wpAny (model X.prog X.w) X.A (spliced (backTo pos (starEach es X.env))) (AP X pins σ Q) X.xe s
section
variable {X : Cx} {e : Expr} {es : List Expr} {σ : St} {H : Hp}
theorem pe_se : PE X e (SE X e) := ⟨fun pins s _ _ _ I h => h pins s I⟩
theorem pt_st : PT X e (ST X e) := ⟨fun pins s _ _ _ I h => h pins s I⟩
theorem pw_sw : PW X e (SW X e) := ⟨fun wh pins s _ _ _ I h => h wh pins s I⟩
theorem pa_sa : PA X es (SA X es) := ⟨fun pos pins s _ _ _ I h => h pos pins s I⟩
theorem se_of {t : TE} (h : PE X e t) {Q : VK} (q : t σ H Q) : SE X e σ H Q := fun pins s I => h.run pins s σ H Q I q
theorem st_of' {t : TT} (h : PT X e t) {Q : Bool → Hp → Prop} (q : t σ H Q) : ST X e σ H Q := fun pins s I => h.run pins s σ H Q I q
theorem sw_of {t : TT} (h : PW X e t) {Q : Bool → Hp → Prop} (q : t σ H Q) : SW X e σ H Q := fun wh pins s I => h.run wh pins s σ H Q I q
theorem sa_of {t : TA} (h : PA X es t) {Q : List V → Hp → Prop} (q : t σ H Q) : SA X es σ H Q := fun pos pins s I => h.run pos pins s σ H Q I q
theorem SE.mono {Q Q' : VK} (h : SE X e σ H Q) (k : ∀ v H', Q v H' → Q' v H') : SE X e σ H Q' := fun pins s I =>
  thn (h pins s I) fun _ _ ⟨v, H', I', r, q⟩ => ⟨v, H', I', r, k v H' q⟩
end

/-! ### what is known -/
def spC (K : PySem.W.Frag) (cl : List Addr) (call : Nat → List D → Store → Option (D × Store)) (i np : Nat) : Sp := fun vs H Q _ => ∃ ds S d S' F m, ds.length = np ∧ call i ds S = some (d, S') ∧ G K cl F m S H ∧ IsA K F m ds vs ∧
  ∀ F' m' H' v, Stp F m H F' m' H' → G K cl F' m' S' H' → Is K F' m' d v → Q v H'

def tyV (cl : List Addr) : Ty → Option (V × Value)
  | .int => some (.ty "int", .type "int") | .bool => some (.ty "bool", .type "bool") | .str => some (.ty "str", .type "str") | .tuple => some (.ty "tuple", .type "tuple") | .list => some (.ty "list", .type "list")
  | .own c => (cl[c]?).map fun C => (.ref C, .ref C)
/-- the classes' facts -/
structure ClsOk (K : PySem.W.Frag) (cl : List Addr) : Prop where
  cls : ∀ (c : Nat) (C : Addr), cl[c]? = some C → Cls K C
  cla : ∀ (c : Nat) (C : Addr), cl[c]? = some C → PySem.W.findIn K (.ref C) "__class__" = some (some (.builtin "object.__class__"))
  clg : PySem.W.specialIn K (.builtin "object.__class__") "__get__" = some (some (.builtin "getset_descriptor.__get__"))
  clt : PySem.W.takesIn K (.builtin "object.__class__") = some true
  mro : ∀ (c : Nat) (C : Addr), cl[c]? = some C → PySem.W.mroIn K C (.type "object") = some true
  oo : ∀ (c : Nat) (C : Addr) (c' : Nat) (C' : Addr), cl[c]? = some C → cl[c']? = some C' → PySem.W.kitOne K (.ref C) (.ref C') = some (decide (c = c'))
  ob : ∀ (c : Nat) (C : Addr) (n : String), cl[c]? = some C → n ∈ ["int", "bool", "str", "tuple", "list"] → PySem.W.kitOne K (.ref C) (.type n) = some false
  bo : ∀ (c : Nat) (C : Addr) (n : String), cl[c]? = some C → n ∈ ["int", "bool", "str", "tuple", "list", "NoneType", "dict"] → PySem.W.kitOne K (.type n) (.ref C) = some false
  inj : cl.Nodup
  eqn : ∀ (c : Nat) (C : Addr), cl[c]? = some C → PySem.W.findIn K (.ref C) "__eq__" = some (some (.builtin "object.__eq__")) ∧ PySem.W.findIn K (.ref C) "__ne__" = some (some (.builtin "object.__ne__"))
/-- a class that is made by its name -/
structure MkOk (K : PySem.W.Frag) (C : Addr) : Prop where
  makes : PySem.W.makesIn K C = true
  kp : PySem.W.keepIn K (.ref C) = true

structure Kn (c : Ctx) (cl : List Addr) (g : Gm) (X : Cx) : Prop where
  N : X.N = g.N
  nd : X.N.Nodup
  sc : X.env.scope = g.sc
  kd : g.sc.kind = .function
  calm : X.calm = true
  fnc : ∀ x, (∀ s, g.own = some s → s.names.lookup x = some .cell) → X.fn x = true
  free : ∀ x, x ∈ g.free → X.mg x = none
  glob : ∀ x i, g.globs.lookup x = some i → ∃ d u v, c.globs[i]? = some d ∧ X.mg x = some u ∧ RelV v u ∧ ∀ F m, Is X.K F m d v
  fn : ∀ x i, g.fns.lookup x = some i → ∃ f fd ps lev, X.mg x = some (.ref f) ∧ PySem.W.keepIn X.K (.ref f) = true ∧ Room lev X.A ∧ Binds X.K fd ps [] ∧ FnOk X.prog X.w X.K X.mg X.base CX0 lev f fd ps (spC X.K cl c.call i ps.length) ∧
    ∀ ds S r, c.call i ds S = some r → ds.length = ps.length
  cls : ∀ x i, g.clss.lookup x = some i → ∃ C, cl[i]? = some C ∧ X.mg x = some (.ref C)
  mkc : ∀ x i io, g.clss.lookup x = some i → c.inits[i]? = some io → ∃ C, cl[i]? = some C ∧ X.mg x = some (.ref C) ∧ MkOk X.K C ∧ (match io with
    | none => PySem.W.findIn X.K (.ref C) "__init__" = some (some (.builtin "object.__init__"))
    | some j => ∃ f fd ps lev, PySem.W.findIn X.K (.ref C) "__init__" = some (some (.ref f)) ∧ PySem.W.isFn X.K (.ref f) = true ∧ Room (lev + 1) X.A ∧ Binds X.K fd ps [] ∧ FnOk X.prog X.w X.K X.mg X.base CX0 lev f fd ps (spC X.K cl c.call j ps.length) ∧
      ∀ ds S r, c.call j ds S = some r → ds.length = ps.length)
  atr : ∀ (i : Nat) (C : Addr) (f : Str), cl[i]? = some C → f ∈ g.atrs → NoAttr X.K C f
  clsOk : ClsOk X.K cl
  gcd : g.gcd = true → X.mg "gcd" = some (.builtin "math.gcd")
  hu : Room 0 X.A

def SndE (X : Cx) (c : Ctx) (cl : List Addr) (e : Expr) (ce : CE) : Prop := ∀ τ S r S', evE c ce τ S = some (r, S') → ∀ F m σ H, G X.K cl F m S H → EnvOk X.K F m τ σ H →
  ∀ Q : VK, (∀ F' m' H' v, Stp F m H F' m' H' → G X.K cl F' m' S' H' → RvOk X.K H F' m' H' r v → Q v H') → SE X e σ H Q
def SndT (X : Cx) (c : Ctx) (cl : List Addr) (e : Expr) (ct : CT) : Prop := ∀ τ S b S', evT c ct τ S = some (b, S') → ∀ F m σ H, G X.K cl F m S H → EnvOk X.K F m τ σ H →
  ∀ Q : Bool → Hp → Prop, (∀ F' m' H', Stp F m H F' m' H' → G X.K cl F' m' S' H' → Q b H') → ST X e σ H Q
def SndW (X : Cx) (c : Ctx) (cl : List Addr) (e : Expr) (ct : CT) : Prop := ∀ τ S b S', evT c ct τ S = some (b, S') → ∀ F m σ H, G X.K cl F m S H → EnvOk X.K F m τ σ H →
  ∀ Q : Bool → Hp → Prop, (∀ F' m' H', Stp F m H F' m' H' → G X.K cl F' m' S' H' → Q b H') → SW X e σ H Q
def SndA (X : Cx) (c : Ctx) (cl : List Addr) (es : List Expr) (ca : CA) : Prop := ∀ τ S ds S', evA c ca τ S = some (ds, S') → ∀ F m σ H, G X.K cl F m S H → EnvOk X.K F m τ σ H →
  ∀ Q : List V → Hp → Prop, (∀ F' m' H' vs, Stp F m H F' m' H' → G X.K cl F' m' S' H' → IsA X.K F' m' ds vs → Q vs H') → SA X es σ H Q

section
variable {X : Cx} {c : Ctx} {cl : List Addr} {g : Gm} {a b e : Expr} {ca cb ce : CE} {τ : Env} {S S' S1 S2 S3 : Store} {F : Hp} {m : List Addr} {σ : St} {H : Hp} {x y r : Rv} {d : D} {ds : List D}

/-! ### names -/
theorem ixOf_get {x : Str} : ∀ {N : List Str} {k i : Nat}, ixOf x N k = some i → ∃ j, i = k + j ∧ N[j]? = some x
  | [], _, _, h => by simp [ixOf] at h
  | y :: N, k, i, h => by
    unfold ixOf at h
    split at h
    · rename_i e; simp at h; subst h; subst e; exact ⟨0, rfl, rfl⟩
    · obtain ⟨j, e, q⟩ := ixOf_get h
      exact ⟨j + 1, by omega, by simpa using q⟩
theorem ixOf_at {x : Str} {N : List Str} {i : Nat} (h : ixOf x N 0 = some i) : N[i]? = some x := by
  obtain ⟨j, e, q⟩ := ixOf_get h
  simp at e; subst e; exact q
theorem beq_false_of {x y : Str} (h : x ≠ y) : (x == y) = false := by simpa using h
theorem slot_ok {x : Str} {i : Nat} (k : Kn c cl g X) (h : g.slot x = some i) : X.N[i]? = some x ∧ Vis X.env.scope x ∧ (x == ("__debug__" : Str)) = false ∧ (x == ("__classdict__" : Str)) = false := by
  unfold Gm.slot at h
  split at h
  · rename_i q
    obtain ⟨q1, q2, q3⟩ := q
    refine ⟨by rw [k.N]; exact ixOf_at h, ?_, beq_false_of q2, beq_false_of q3⟩
    rw [k.sc]
    unfold isVis at q1
    unfold Vis
    split at q1 <;> simp_all
  · cases h
theorem stor_ok {x : Str} {i : Nat} (k : Kn c cl g X) (h : g.stor x = some i) : X.N[i]? = some x ∧ L2.Loc X.env.scope x ∧ (X.fn x = true ∨ X.env.scope.names.lookup x = some .local) := by
  unfold Gm.stor at h
  rw [k.N, k.sc]
  unfold L2.Loc
  split at h
  · rename_i q; exact ⟨ixOf_at h, .inl q, .inr q⟩
  · rename_i q
    split at h
    · rename_i q2; exact ⟨ixOf_at h, .inr q, .inl (k.fnc x fun s e => by rw [q2] at e; cases e)⟩
    · rename_i s q2
      split at h
      · rename_i q3; exact ⟨ixOf_at h, .inr q, .inl (k.fnc x fun s' e => by rw [q2] at e; cases e; exact q3)⟩
      · cases h
  · cases h
theorem gl_ok {x : Str} (k : Kn c cl g X) (h : g.isGl x = true) : Gl X x ∧ (x == ("__debug__" : Str)) = false ∧ x ≠ "__name__" := by
  unfold Gm.isGl at h
  simp only [Bool.and_eq_true, decide_eq_true_eq] at h
  obtain ⟨⟨h1, h2⟩, h3⟩ := h
  exact ⟨by unfold Gl Env.kindOf; rw [k.sc]; exact h1, beq_false_of h2, h3⟩
theorem bi_ok {x : Str} (k : Kn c cl g X) (h : g.isBi x = true) : Gl X x ∧ X.mg x = none ∧ (x == ("__debug__" : Str)) = false ∧ x ≠ "__name__" := by
  unfold Gm.isBi at h
  simp only [Bool.and_eq_true, decide_eq_true_eq] at h
  obtain ⟨h1, h2⟩ := h
  obtain ⟨q1, q2, q3⟩ := gl_ok k h1
  exact ⟨q1, k.free x h2, q2, q3⟩

/-! ### constants and names -/
theorem rv_int {K : PySem.W.Frag} {H0 F H : Hp} {m : List Addr} {i : Int} : RvOk K H0 F m H (.fz (.int i)) (.int i) := by simp [RvOk, Is]
theorem rv_bl {K : PySem.W.Frag} {H0 F H : Hp} {m : List Addr} {i : Bool} : RvOk K H0 F m H (.fz (.bl i)) (.bl i) := by simp [RvOk, Is]
theorem rv_str {K : PySem.W.Frag} {H0 F H : Hp} {m : List Addr} {i : Str} : RvOk K H0 F m H (.fz (.str i)) (.str i) := by simp [RvOk, Is]
theorem rv_non {K : PySem.W.Frag} {H0 F H : Hp} {m : List Addr} : RvOk K H0 F m H (.fz .non) .non := by simp [RvOk, Is]
theorem rvi_int {K : PySem.W.Frag} {H0 F H : Hp} {m : List Addr} {i : Int} {v : V} (h : RvOk K H0 F m H (.fz (.int i)) v) : v = .int i := by simpa [RvOk, Is] using h
theorem rvi_bl {K : PySem.W.Frag} {H0 F H : Hp} {m : List Addr} {i : Bool} {v : V} (h : RvOk K H0 F m H (.fz (.bl i)) v) : v = .bl i := by simpa [RvOk, Is] using h
theorem rvi_str {K : PySem.W.Frag} {H0 F H : Hp} {m : List Addr} {i : Str} {v : V} (h : RvOk K H0 F m H (.fz (.str i)) v) : v = .str i := by simpa [RvOk, Is] using h
theorem rvi_non {K : PySem.W.Frag} {H0 F H : Hp} {m : List Addr} {v : V} (h : RvOk K H0 F m H (.fz .non) v) : v = .non := by simpa [RvOk, Is] using h

theorem snd_const {v : Const} {j : Nat} {pos : Pos} (h : constD v = some d) : SndE X c cl (.Constant v j pos) (.const d) := by
  intro τ S r S' he F m σ H gg ev Q q
  simp only [evE, Option.some.injEq, Prod.mk.injEq] at he
  obtain ⟨rfl, rfl⟩ := he
  cases v <;> simp only [constD, Option.some.injEq, reduceCtorEq] at h
  · subst h; exact se_of pe_non (q F m H _ Stp.refl gg rv_non)
  · subst h; exact se_of pe_bl (q F m H _ Stp.refl gg rv_bl)
  · subst h; exact se_of pe_int (q F m H _ Stp.refl gg rv_int)
  · subst h; exact se_of pe_str (q F m H _ Stp.refl gg rv_str)
theorem snd_var {x : Str} {i : Nat} {pos : Pos} (k : Kn c cl g X) (h : g.slot x = some i) : SndE X c cl (.Name x pos) (.var i) := by
  intro τ S r S' he F m σ H gg ev Q q
  obtain ⟨h1, h2, h3, h4⟩ := slot_ok k h
  simp only [evE] at he
  split at he
  · rename_i d e
    cases he
    obtain ⟨v, e1, e2⟩ := ev.sl i _ e
    exact se_of (pe_var h1 h2 h3 h4) ⟨v, e1, q F m H v Stp.refl gg e2⟩
  · rename_i ds e
    cases he
    obtain ⟨p, vs, e1, e2, e3, e4, e5⟩ := ev.sl i _ e
    exact se_of (pe_var h1 h2 h3 h4) ⟨_, e1, q F m H _ Stp.refl gg ⟨p, vs, rfl, e4, e2, e3, e5⟩⟩
  · cases he
theorem snd_glob {x : Str} {i : Nat} {pos : Pos} (k : Kn c cl g X) (hg : g.isGl x = true) (h : g.globs.lookup x = some i) : SndE X c cl (.Name x pos) (.glob i) := by
  intro τ S r S' he F m σ H gg ev Q q
  obtain ⟨g1, g2, g3⟩ := gl_ok k hg
  obtain ⟨d, u, v, h1, h2, h3, h4⟩ := k.glob x i h
  simp only [evE, h1, Option.some.injEq, Prod.mk.injEq] at he
  obtain ⟨rfl, rfl⟩ := he
  exact se_of (pe_glob g1 h2 h3 g2) (q F m H v Stp.refl gg (h4 F m))

/-! ### two in a row -/
theorem two (sa : SndE X c cl a ca) (sb : SndE X c cl b cb) (ea : evE c ca τ S = some (x, S1)) (eb : evE c cb τ S1 = some (y, S2)) (gg : G X.K cl F m S H) (ev : EnvOk X.K F m τ σ H) {R : V → V → Hp → Prop}
    (h : ∀ F2 m2 H2 v w, Stp F m H F2 m2 H2 → G X.K cl F2 m2 S2 H2 → RvOk X.K H F2 m2 H2 x v → RvOk X.K H F2 m2 H2 y w → R v w H2) : SE X a σ H fun v H1 => SE X b σ H1 fun w H2 => R v w H2 := by
  refine sa τ S x S1 ea F m σ H gg ev _ fun F1 m1 H1 v st1 g1 r1 => ?_
  refine sb τ S1 y S2 eb F1 m1 σ H1 g1 (ev.step st1) _ fun F2 m2 H2 w st2 g2 r2 => ?_
  exact h F2 m2 H2 v w (st1.trans st2) g2 (r1.step st2) (r2.back st1)
theorem bin_of {op : Operator} {pos : Pos} {rd : R2} (ho : OpR X (binaryOp op) rd) (sa : SndE X c cl a ca) (sb : SndE X c cl b cb) (ea : evE c ca τ S = some (x, S1)) (eb : evE c cb τ S1 = some (y, S2)) (gg : G X.K cl F m S H) (ev : EnvOk X.K F m τ σ H) {Q : VK}
    (h : ∀ F2 m2 H2 v w, Stp F m H F2 m2 H2 → G X.K cl F2 m2 S2 H2 → RvOk X.K H F2 m2 H2 x v → RvOk X.K H F2 m2 H2 y w → rd v w H2 Q) : SE X (.BinOp a op b pos) σ H Q :=
  se_of (pe_op ho pe_se pe_se) (two sa sb ea eb gg ev h)
theorem is_int {K : PySem.W.Frag} {F : Hp} {m : List Addr} {i : Int} {v : V} : Is K F m (.int i) v ↔ v = .int i := by simp [Is]
theorem is_bl {K : PySem.W.Frag} {F : Hp} {m : List Addr} {i : Bool} {v : V} : Is K F m (.bl i) v ↔ v = .bl i := by simp [Is]
theorem is_str {K : PySem.W.Frag} {F : Hp} {m : List Addr} {i : Str} {v : V} : Is K F m (.str i) v ↔ v = .str i := by simp [Is]
theorem is_non {K : PySem.W.Frag} {F : Hp} {m : List Addr} {v : V} : Is K F m .non v ↔ v = .non := by simp [Is]
theorem rv_fz {K : PySem.W.Frag} {H0 F H : Hp} {m : List Addr} {d : D} {v : V} : RvOk K H0 F m H (.fz d) v = Is K F m d v := rfl
/-- a new tuple, a new list -/
theorem mk_tup {vs : List V} {S : Store} (gg : G X.K cl F m S H) (hv : IsA X.K F m ds vs) {p : Addr} (hp : H p = none) :
    Stp F m H (upd F p (.tup vs)) m (upd H p (.tup vs)) ∧ G X.K cl (upd F p (.tup vs)) m S (upd H p (.tup vs)) ∧ Is X.K (upd F p (.tup vs)) m (.tup ds) (.ref p) := by
  have st := Stp.new (m := m) (o := .tup vs) gg.sub hp
  refine ⟨st, gg.new hp, ?_⟩
  simp only [Is]
  exact ⟨p, vs, rfl, .of upd_same, st.isA hv⟩
theorem mk_lst {vs : List V} {S : Store} (gg : G X.K cl F m S H) (hv : IsA X.K F m ds vs) {p : Addr} (hp : H p = none) {H0 : Hp} (h0 : H0 p = none) :
    Stp F m H F m (upd H p (.lst vs)) ∧ G X.K cl F m S (upd H p (.lst vs)) ∧ RvOk X.K H0 F m (upd H p (.lst vs)) (.fr ds) (.ref p) := by
  refine ⟨Stp.lay hp, gg.lay hp, p, vs, rfl, upd_same, ?_, gg.notin hp, h0, hv⟩
  cases q : F p with
  | none => rfl
  | some u => rw [gg.sub p u q] at hp; cases hp
theorem Stp.none {F' H' : Hp} {m' : List Addr} (st : Stp F m H F' m' H') {p : Addr} (h : H' p = none) : H p = none := by
  cases q : H p with
  | none => rfl
  | some o => exact absurd h (st.stay p (by rw [q]; exact fun z => nomatch z))

def bopTo : Bop → Operator
  | .add => .Add | .sub => .Sub | .mul => .Mult | .fdiv => .FloorDiv | .mod => .Mod | .pow => .Pow
theorem bopOf_inv {o : Operator} {p : Bop} (h : bopOf o = some p) : o = bopTo p := by
  cases o <;> simp [bopOf] at h <;> subst h <;> rfl

theorem fdiv_ok {X : Cx} : OpR X (binaryOp .FloorDiv) (rI (fun _ j => j ≠ 0 ∧ j.natAbs.log2 < 9000) fun i j => .int (i.fdiv j)) :=
  opI fun _ _ _ _ _ _ _ hc q => PyProof.Rows.floordiv_int hc.1 q (.inl (PyProof.noPylong_of_log2 hc.2))
theorem mul_ok {X : Cx} : OpR X (binaryOp .Mult) (rI IntMulOk fun i j => .int (i * j)) := opI fun _ _ _ _ _ _ _ hc q => PyProof.Rows.mul_int q hc

theorem snd_bin {op : Operator} {p : Bop} {pos : Pos} (ho : bopOf op = some p) (sa : SndE X c cl a ca) (sb : SndE X c cl b cb) : SndE X c cl (.BinOp a op b pos) (.bin p ca cb) := by
  intro τ S r S' he F m σ H gg ev Q q
  have eo := bopOf_inv ho
  subst eo
  simp only [evE] at he
  split at he
  rotate_left
  · cases he
  rename_i x S1 ea
  split at he
  rotate_left
  · cases he
  rename_i y S2 eb
  split at he
  rotate_left
  · cases he
  rename_i z ez
  cases he
  -- two ints
  have I : ∀ (i j k : Int), x = .fz (.int i) → y = .fz (.int j) → r = .fz (.int k) → binI p i j = some k → SE X (.BinOp a (bopTo p) b pos) σ H Q := by
    intro i j k ex ey er hk
    subst er
    subst ex
    subst ey
    have fin : ∀ F2 m2 H2, Stp F m H F2 m2 H2 → G X.K cl F2 m2 S' H2 → Q (.int k) H2 := fun F2 m2 H2 st g2 => q F2 m2 H2 _ st g2 (rv_int)
    have core : ∀ {op : Operator} {C : Int → Int → Prop} {f : Int → Int → Int}, OpR X (binaryOp op) (rI C fun i j => .int (f i j)) → C i j → f i j = k → SE X (.BinOp a op b pos) σ H Q := by
      intro op C f hop hc hf
      refine bin_of hop sa sb ea eb gg ev fun F2 m2 H2 v w st g2 r1 r2 => ?_
      rw [rvi_int r1, rvi_int r2]
      exact ⟨i, j, rfl, rfl, hc, by show Q (.int (f i j)) H2; rw [hf]; exact fin F2 m2 H2 st g2⟩
    have core0 : ∀ {op : Operator} {f : Int → Int → Int}, OpR X (binaryOp op) (rI0 fun i j => .int (f i j)) → f i j = k → SE X (.BinOp a op b pos) σ H Q := by
      intro op f hop hf
      refine bin_of hop sa sb ea eb gg ev fun F2 m2 H2 v w st g2 r1 r2 => ?_
      rw [rvi_int r1, rvi_int r2]
      exact ⟨i, j, rfl, rfl, by show Q (.int (f i j)) H2; rw [hf]; exact fin F2 m2 H2 st g2⟩
    cases p with
    | add => simp [binI] at hk; exact core0 op_add hk
    | sub => simp [binI] at hk; exact core0 op_sub hk
    | mul => simp only [binI] at hk; split at hk <;> simp at hk; rename_i h; exact core mul_ok h hk
    | fdiv => simp only [binI] at hk; split at hk <;> simp at hk; rename_i h; exact core fdiv_ok h hk
    | mod => simp only [binI] at hk; split at hk <;> simp at hk; rename_i h; exact core op_modN h hk
    | pow => simp only [binI] at hk; split at hk <;> simp at hk; rename_i h; exact core op_pow h hk
  unfold binR at ez
  split at ez
  · rename_i i j
    simp only [Option.map_eq_some_iff] at ez
    obtain ⟨k, hk, rfl⟩ := ez
    exact I i j k rfl rfl rfl hk
  · rename_i s t
    split at ez <;> simp at ez
    rename_i hz
    subst ez
    refine bin_of op_add_str sa sb ea eb gg ev fun F2 m2 H2 v w st g2 r1 r2 => ?_
    rw [rvi_str r1, rvi_str r2]
    exact ⟨s, t, rfl, rfl, hz, q F2 m2 H2 _ st g2 (rv_str)⟩
  · rename_i xs ys
    split at ez <;> simp at ez
    rename_i hz
    subst ez
    refine bin_of op_catA sa sb ea eb gg ev fun F2 m2 H2 v w st g2 r1 r2 => ?_
    simp only [rv_fz, Is] at r1 r2
    obtain ⟨p1, us, rfl, k1, i1⟩ := r1
    obtain ⟨p2, ws, rfl, k2, i2⟩ := r2
    refine ⟨p1, p2, us, ws, rfl, rfl, same_t g2.sub k1, same_t g2.sub k2, by rw [← i1.len, ← i2.len]; exact hz, fun e => ?_, fun _ e => ?_, fun _ _ p hp => ?_⟩
    · subst e
      have e1 : xs = [] := List.eq_nil_of_length_eq_zero (by rw [i1.len]; rfl)
      subst e1
      refine q F2 m2 H2 _ st g2 ?_
      simp only [rv_fz, Is, List.nil_append]
      exact ⟨p2, ws, rfl, k2, i2⟩
    · subst e
      have e1 : ys = [] := List.eq_nil_of_length_eq_zero (by rw [i2.len]; rfl)
      subst e1
      refine q F2 m2 H2 _ st g2 ?_
      simp only [rv_fz, Is, List.append_nil]
      exact ⟨p1, us, rfl, k1, i1⟩
    · obtain ⟨s3, g3, h3⟩ := mk_tup g2 (i1.app i2) hp
      exact q _ m2 _ _ (st.trans s3) g3 h3
  · rename_i x' y' _ _ _
    split at ez
    rotate_left
    · cases ez
    rename_i xs ys h1 h2
    split at ez <;> simp at ez
    rename_i hz
    subst ez
    refine bin_of op_cat sa sb ea eb gg ev fun F2 m2 H2 v w st g2 r1 r2 => ?_
    obtain ⟨p1, us, rfl, i1, k1⟩ := tseq_ok g2 r1 h1
    obtain ⟨p2, ws, rfl, i2, k2⟩ := tseq_ok g2 r2 h2
    refine ⟨p1, p2, us, ws, rfl, rfl, k1, k2, by rw [← i1.len, ← i2.len]; exact hz, fun p hp => ?_⟩
    obtain ⟨s3, g3, h3⟩ := mk_lst g2 (i1.app i2) hp (st.none hp)
    exact q _ m2 _ _ (st.trans s3) g3 h3
  · rename_i xs k
    split at ez <;> simp at ez
    rename_i hz
    subst ez
    refine bin_of (rd := rRepTA X.K) op_repTA sa sb ea eb gg ev fun F2 m2 H2 v w st g2 r1 r2 => ?_
    rw [rvi_int r2]
    simp only [rv_fz, Is] at r1
    obtain ⟨p1, us, rfl, k1, i1⟩ := r1
    refine ⟨p1, k, us, rfl, rfl, same_t g2.sub k1, hz.1, by rw [← i1.len]; exact hz.2, fun hh => ?_, fun _ _ p hp => ?_⟩
    · refine q F2 m2 H2 _ st g2 ?_
      simp only [rv_fz, Is]
      refine ⟨p1, us, rfl, k1, ?_⟩
      rcases hh with e | e
      · subst e
        have e1 : xs = [] := List.eq_nil_of_length_eq_zero (by rw [i1.len]; rfl)
        subst e1
        simp [IsA]
      · subst e
        simpa using i1
    · obtain ⟨s3, g3, h3⟩ := mk_tup g2 (i1.rep k.toNat) hp
      exact q _ m2 _ _ (st.trans s3) g3 h3
  · rename_i x' k _ _
    split at ez
    · rename_i xs h1
      split at ez <;> simp at ez
      rename_i hz
      subst ez
      refine bin_of op_rep sa sb ea eb gg ev fun F2 m2 H2 v w st g2 r1 r2 => ?_
      rw [rvi_int r2]
      obtain ⟨p1, us, rfl, i1, k1⟩ := tseq_ok g2 r1 h1
      refine ⟨p1, k, us, rfl, rfl, k1, hz.1, hz.2.1, by rw [← i1.len]; exact hz.2.2, fun p hp => ?_⟩
      obtain ⟨s3, g3, h3⟩ := mk_lst g2 (i1.rep k.toNat) hp (st.none hp)
      exact q _ m2 _ _ (st.trans s3) g3 h3
    · cases ez
  · cases ez

theorem snd_neg {pos : Pos} (sa : SndE X c cl a ca) : SndE X c cl (.UnaryOp .USub a pos) (.neg ca) := by
  intro τ S r S' he F m σ H gg ev Q q
  simp only [evE] at he
  split at he
  · rename_i i S1 ea
    cases he
    refine se_of (pe_un un_neg pe_se) (sa τ S _ _ ea F m σ H gg ev _ fun F1 m1 H1 v st g1 r1 => ?_)
    rw [rvi_int r1]
    exact ⟨i, rfl, q F1 m1 H1 _ st g1 (rv_int)⟩
  · cases he

/-! ### comparisons -/
mutual
theorem dp_of {K : PySem.W.Frag} {F H : Hp} {m : List Addr} (s : Same F H) : ∀ (d : D) (v : V) (p : PyData), Is K F m d v → D.py d = some p → Dp K H v p
  | .non, v, p, h, e => by simp only [Is] at h; simp only [D.py, Option.some.injEq] at e; subst h; subst e; exact .non
  | .bl b, v, p, h, e => by simp only [Is] at h; simp only [D.py, Option.some.injEq] at e; subst h; subst e; exact .bl b
  | .int b, v, p, h, e => by simp only [Is] at h; simp only [D.py, Option.some.injEq] at e; subst h; subst e; exact .int b
  | .str b, v, p, h, e => by simp only [Is] at h; simp only [D.py, Option.some.injEq] at e; subst h; subst e; exact .str b
  | .tup ds, v, p, h, e => by
    simp only [Is] at h; simp only [D.py, Option.map_eq_some_iff] at e
    obtain ⟨a, vs, rfl, h1, h2⟩ := h
    obtain ⟨ps, e1, rfl⟩ := e
    exact .tup (same_t s h1) (dpAll_of s ds vs ps h2 e1)
  | .lst ds, v, p, h, e => by
    simp only [Is] at h; simp only [D.py, Option.map_eq_some_iff] at e
    obtain ⟨a, vs, rfl, h1, h2⟩ := h
    obtain ⟨ps, e1, rfl⟩ := e
    exact .lst (.of (s _ _ h1)) (dpAll_of s ds vs ps h2 e1)
  | .scr ds, v, p, h, e => by
    simp only [Is] at h; simp only [D.py, Option.map_eq_some_iff] at e
    obtain ⟨a, vs, rfl, h1, h2⟩ := h
    obtain ⟨ps, e1, rfl⟩ := e
    exact .lst (same_l s h1) (dpAll_of s ds vs ps h2 e1)
  | .obj i, v, p, h, e => by simp [D.py] at e
theorem dpAll_of {K : PySem.W.Frag} {F H : Hp} {m : List Addr} (s : Same F H) : ∀ (ds : List D) (vs : List V) (ps : List PyData), IsA K F m ds vs → D.pys ds = some ps → DpAll K H vs ps
  | [], vs, ps, h, e => by simp only [IsA] at h; simp only [D.pys, Option.some.injEq] at e; subst h; subst e; exact .nil
  | d :: ds, vs, ps, h, e => by
    simp only [IsA] at h
    obtain ⟨v, ws, rfl, h1, h2⟩ := h
    simp only [D.pys] at e
    split at e
    · rename_i p qs e1 e2
      simp only [Option.some.injEq] at e
      subst e
      exact .cons (dp_of s d v p h1 e1) (dpAll_of s ds ws qs h2 e2)
    · cases e
end
theorem tree_dp {v : V} {p : PyData} {H0 : Hp} (gg : G X.K cl F m S H) (h : RvOk X.K H0 F m H x v) (e : D.py x.tree = some p) : Dp X.K H v p := by
  cases x with
  | fz d => exact dp_of gg.sub d v p h e
  | fr ds =>
    obtain ⟨a, vs, rfl, h3, h1, h2, h0, h4⟩ := h
    simp only [Rv.tree, D.py, Option.map_eq_some_iff] at e
    obtain ⟨ps, e1, rfl⟩ := e
    exact .lst (.of h3) (dpAll_of gg.sub ds vs ps h4 e1)
  | rd ds =>
    obtain ⟨a, vs, rfl, h3, h1, h2, h4⟩ := h
    simp only [Rv.tree, D.py, Option.map_eq_some_iff] at e
    obtain ⟨ps, e1, rfl⟩ := e
    exact .lst (.of h3) (dpAll_of gg.sub ds vs ps h4 e1)
theorem is_flat {K : PySem.W.Frag} {F : Hp} {m : List Addr} {v : V} (h : Is K F m d v) (f : flatD d = true) : flatV v = true := by
  cases d <;> simp [flatD] at f <;> simp only [Is] at h <;> subst h <;> rfl
theorem isA_flat {K : PySem.W.Frag} {F : Hp} {m : List Addr} : ∀ {ds : List D} {vs : List V}, IsA K F m ds vs → ds.all flatD = true → vs.all flatV = true
  | [], _, h, _ => by simp only [IsA] at h; subst h; rfl
  | d :: ds, vs, h, f => by
    simp only [IsA] at h
    obtain ⟨v, ws, rfl, h1, h2⟩ := h
    simp only [List.all_cons, Bool.and_eq_true] at f ⊢
    exact ⟨is_flat h1 f.1, isA_flat h2 f.2⟩
theorem is_eqFl {K : PySem.W.Frag} {F : Hp} {m : List Addr} {d e : D} {v w : V} (h : Is K F m d v) (k : Is K F m e w) (f : flatD d = true) (f' : flatD e = true) : eqV v w = eqFl d e := by
  cases d <;> simp [flatD] at f <;> simp only [Is] at h <;> subst h <;> cases e <;> simp [flatD] at f' <;> simp only [Is] at k <;> subst k <;> rfl
theorem isA_in {K : PySem.W.Frag} {F : Hp} {m : List Addr} {v : V} (h : Is K F m d v) (f : flatD d = true) : ∀ {ds : List D} {vs : List V}, IsA K F m ds vs → ds.all flatD = true → inV v vs = ds.any fun e => eqFl e d
  | [], _, k, _ => by simp only [IsA] at k; subst k; rfl
  | e :: ds, vs, k, f' => by
    simp only [IsA] at k
    obtain ⟨w, ws, rfl, h1, h2⟩ := k
    simp only [List.all_cons, Bool.and_eq_true] at f'
    have ih := isA_in h f h2 f'.2
    unfold inV at ih ⊢
    rw [List.any_cons, List.any_cons, ih, is_eqFl h1 h f'.1 f]

theorem is_isNon {K : PySem.W.Frag} {F : Hp} {m : List Addr} {v : V} (h : Is K F m d v) : decide (v = V.non) = isNon d := by
  cases d <;> simp only [Is] at h
  all_goals first | (subst h; rfl) | (obtain ⟨_, _, rfl, _⟩ := h; rfl) | (obtain ⟨_, rfl, _⟩ := h; rfl)
theorem is_isBl {K : PySem.W.Frag} {F : Hp} {m : List Addr} {v : V} {y : Bool} (h : Is K F m d v) : decide (v = V.bl y) = isBl d y ∧ (∀ i, v ≠ .byt i) ∧ (∀ n, v ≠ .ty n) := by
  cases d <;> simp only [Is] at h
  all_goals first | (subst h) | (obtain ⟨_, _, rfl, _⟩ := h) | (obtain ⟨_, rfl, _⟩ := h)
  all_goals refine ⟨?_, fun _ z => (nomatch z), fun _ z => (nomatch z)⟩
  all_goals first | rfl | skip
  rename_i b
  unfold isBl
  by_cases e : b = y
  · subst e; simp
  · simp [e]
theorem cmp_core {op : CmpOp} {z : Bool} (k : Kn c cl g X) (hz : cmpR (copOf op) x y = some z) : ∃ rd : R2, OpR X (compareOp op) rd ∧
    ∀ F2 m2 H2 v w S2 H0, G X.K cl F2 m2 S2 H2 → RvOk X.K H0 F2 m2 H2 x v → RvOk X.K H0 F2 m2 H2 y w → ∀ Q : VK, Q (.bl z) H2 → rd v w H2 Q := by
  have hu := k.hu.units
  have I : ∀ {f : Int → Int → Bool}, OpR X (compareOp op) (rI0 fun i j => .bl (f i j)) → (∀ i j, x = .fz (.int i) → y = .fz (.int j) → z = f i j) → (∃ i j, x = .fz (.int i) ∧ y = .fz (.int j)) → ∃ rd : R2, OpR X (compareOp op) rd ∧
      ∀ F2 m2 H2 v w S2 H0, G X.K cl F2 m2 S2 H2 → RvOk X.K H0 F2 m2 H2 x v → RvOk X.K H0 F2 m2 H2 y w → ∀ Q : VK, Q (.bl z) H2 → rd v w H2 Q := by
    rintro f ho hf ⟨i, j, rfl, rfl⟩
    refine ⟨_, ho, fun F2 m2 H2 v w S2 H0 _ r1 r2 Q q => ?_⟩
    rw [rvi_int r1, rvi_int r2]
    refine ⟨i, j, rfl, rfl, ?_⟩
    have e := hf i j rfl rfl
    subst e
    exact q
  cases op with
  | Eq =>
    simp only [copOf, cmpR, eqD] at hz
    split at hz
    · rename_i p q e1 e2
      split at hz
      · rename_i hs
        cases hz
        exact ⟨_, op_eqD hu, fun F2 m2 H2 v w S2 H0 g2 r1 r2 Q k => ⟨p, q, tree_dp g2 r1 e1, tree_dp g2 r2 e2, hs.1, hs.2, k⟩⟩
      · cases hz
    · cases hz
  | NotEq =>
    simp only [copOf, cmpR, eqD, Option.map_eq_some_iff] at hz
    obtain ⟨z', hz, rfl⟩ := hz
    split at hz
    · rename_i p q e1 e2
      split at hz
      · rename_i hs
        cases hz
        exact ⟨_, op_neD hu, fun F2 m2 H2 v w S2 H0 g2 r1 r2 Q k => ⟨p, q, tree_dp g2 r1 e1, tree_dp g2 r2 e2, hs.1, hs.2, k⟩⟩
      · cases hz
    · cases hz
  | Lt =>
    simp only [copOf, cmpR] at hz
    split at hz
    · rename_i i j
      exact I op_lt (fun i' j' e e' => by cases e; cases e'; exact (Option.some.inj hz).symm) ⟨i, j, rfl, rfl⟩
    · cases hz
  | LtE =>
    simp only [copOf, cmpR] at hz
    split at hz
    · rename_i i j
      exact I op_le (fun i' j' e e' => by cases e; cases e'; exact (Option.some.inj hz).symm) ⟨i, j, rfl, rfl⟩
    · cases hz
  | Gt =>
    simp only [copOf, cmpR] at hz
    split at hz
    · rename_i i j
      exact I op_gt (fun i' j' e e' => by cases e; cases e'; exact (Option.some.inj hz).symm) ⟨i, j, rfl, rfl⟩
    · cases hz
  | GtE =>
    simp only [copOf, cmpR] at hz
    split at hz
    · rename_i i j
      exact I op_ge (fun i' j' e e' => by cases e; cases e'; exact (Option.some.inj hz).symm) ⟨i, j, rfl, rfl⟩
    · cases hz
  | Is =>
    refine ⟨_, op_isX, fun F2 m2 H2 v w S2 H0 g2 r1 r2 Q q => ?_⟩
    simp only [copOf, cmpR] at hz
    split at hz <;> cases hz
    · rw [rvi_non r2]
      exact .inl ⟨rfl, by rw [is_isNon r1]; exact q⟩
    · rename_i d y
      rw [rvi_bl r2]
      obtain ⟨e1, e2, e3⟩ := is_isBl (y := y) r1
      exact .inr ⟨y, rfl, e2, e3, by rw [e1]; exact q⟩
  | IsNot =>
    refine ⟨_, op_notX, fun F2 m2 H2 v w S2 H0 g2 r1 r2 Q q => ?_⟩
    simp only [copOf, cmpR] at hz
    split at hz <;> cases hz
    · rw [rvi_non r2]
      exact .inl ⟨rfl, by rw [is_isNon r1]; exact q⟩
    · rename_i d y
      rw [rvi_bl r2]
      obtain ⟨e1, e2, e3⟩ := is_isBl (y := y) r1
      exact .inr ⟨y, rfl, e2, e3, by rw [e1]; exact q⟩
  | In =>
    simp only [copOf, cmpR] at hz
    split at hz
    · rename_i d ds h2
      simp only [memD] at hz
      split at hz <;> cases hz
      rename_i hf
      refine ⟨_, op_in_seq, fun F2 m2 H2 v w S2 H0 g2 r1 r2 Q q => ?_⟩
      obtain ⟨a, vs, rfl, h3, h4⟩ := seq_ok g2 r2 h2
      exact ⟨a, vs, rfl, h4, is_flat r1 hf.1, isA_flat h3 hf.2, by rw [if_neg Bool.false_ne_true, isA_in r1 hf.1 h3 hf.2]; exact q⟩
    · cases hz
  | NotIn =>
    simp only [copOf, cmpR] at hz
    split at hz
    · rename_i d ds h2
      simp only [memD, Option.map_eq_some_iff] at hz
      obtain ⟨z', hz, rfl⟩ := hz
      split at hz <;> cases hz
      rename_i hf
      refine ⟨_, op_notIn_seq, fun F2 m2 H2 v w S2 H0 g2 r1 r2 Q q => ?_⟩
      obtain ⟨a, vs, rfl, h3, h4⟩ := seq_ok g2 r2 h2
      exact ⟨a, vs, rfl, h4, is_flat r1 hf.1, isA_flat h3 hf.2, by rw [if_pos rfl, isA_in r1 hf.1 h3 hf.2]; exact q⟩
    · cases hz

theorem cmp_coreS {op : CmpOp} {z : Bool} (k : Kn c cl g X) (hz : cmpS S (copOf op) x y = some z) : ∃ rd : R2, OpR X (compareOp op) rd ∧
    ∀ F2 m2 H2 v w H0, G X.K cl F2 m2 S H2 → RvOk X.K H0 F2 m2 H2 x v → RvOk X.K H0 F2 m2 H2 y w → ∀ Q : VK, Q (.bl z) H2 → rd v w H2 Q := by
  unfold cmpS at hz
  split at hz
  · rename_i hn
    cases hz
    unfold neIns at hn
    split at hn
    · rename_i i j e1
      split at hn
      · rename_i c1 f1 c2 f2 ei ej
        simp only [Bool.and_eq_true, decide_eq_true_eq] at hn
        obtain ⟨hij, hc⟩ := hn
        subst hc
        have eo : op = .NotEq := by cases op <;> first | rfl | cases e1
        subst eo
        refine ⟨_, op_neIns (by have := k.hu.un; omega), fun F2 m2 H2 v w H0 g2 r1 r2 Q q => ?_⟩
        have r1 : Is X.K F2 m2 (.obj i) v := r1
        have r2 : Is X.K F2 m2 (.obj j) w := r2
        simp only [Is] at r1 r2
        obtain ⟨a, rfl, ha⟩ := r1
        obtain ⟨b, rfl, hb⟩ := r2
        obtain ⟨_, C, dx, ws, q1, q2, _⟩ := g2.ob i a _ ha ei
        obtain ⟨_, C', dy, us, q3, q4, _⟩ := g2.ob j b _ hb ej
        have eC : C' = C := by rw [q1] at q3; exact (Option.some.inj q3).symm
        subst eC
        have hab : a ≠ b := fun z => by
          subst z
          obtain ⟨p1, e1⟩ := List.getElem?_eq_some_iff.mp ha
          obtain ⟨p2, e2⟩ := List.getElem?_eq_some_iff.mp hb
          exact hij ((List.getElem_inj g2.nd).mp (e1.trans e2.symm))
        obtain ⟨n1, n2⟩ := k.clsOk.eqn _ _ q1
        exact ⟨a, b, _, dx, ws, dy, us, rfl, rfl, hab, q2, q4, k.clsOk.mro _ _ q1, n1, n2, q⟩
      · cases hn
    · cases hn
  · obtain ⟨rd, h1, h2⟩ := cmp_core k hz
    exact ⟨rd, h1, fun F2 m2 H2 v w H0 g2 r1 r2 Q q => h2 F2 m2 H2 v w S H0 g2 r1 r2 Q q⟩
theorem snd_cmp {op : CmpOp} {pos : Pos} (k : Kn c cl g X) (hb : behindInMarks op b = false) (sa : SndE X c cl a ca) (sb : SndE X c cl b cb) : SndE X c cl (.Compare a [op] [b] pos) (.cmp (copOf op) ca cb) := by
  intro τ S r S' he F m σ H gg ev Q q
  simp only [evE] at he
  split at he
  rotate_left
  · cases he
  rename_i x S1 ea
  split at he
  rotate_left
  · cases he
  rename_i y S2 eb
  split at he
  rotate_left
  · cases he
  rename_i z ez
  cases he
  obtain ⟨rd, ho, hr⟩ := cmp_coreS k ez
  refine se_of (pe_cmpR ho pe_se pe_se hb) (two sa sb ea eb gg ev fun F2 m2 H2 v w st g2 r1 r2 => ?_)
  exact hr F2 m2 H2 v w _ g2 r1 r2 _ (q F2 m2 H2 _ st g2 (rv_bl))
theorem sndt_cmp {op : CmpOp} {pos : Pos} (k : Kn c cl g X) (hb : behindInMarks op b = false) (sa : SndE X c cl a ca) (sb : SndE X c cl b cb) : SndT X c cl (.Compare a [op] [b] pos) (.tr (.cmp (copOf op) ca cb)) := by
  intro τ S r S' he F m σ H gg ev Q q
  simp only [evT, evE] at he
  split at he
  rotate_left
  · cases he
  rename_i x0 S0 he0
  split at he0
  rotate_left
  · cases he0
  rename_i x S1 ea
  split at he0
  rotate_left
  · cases he0
  rename_i y S2 eb
  split at he0
  rotate_left
  · cases he0
  rename_i z ez
  cases he0
  simp only [truR] at he
  cases he
  obtain ⟨rd, ho, hr⟩ := cmp_coreS k ez
  refine st_of' (pt_cmpR ho pe_se pe_se hb) (two sa sb ea eb gg ev fun F2 m2 H2 v w st g2 r1 r2 => ?_)
  exact hr F2 m2 H2 v w _ g2 r1 r2 _ ⟨_, rfl, q F2 m2 H2 st g2⟩
/-- a op b op' d -/
theorem chain_core {d : Expr} {cd : CE} {op op' : CmpOp} (k : Kn c cl g X) (sa : SndE X c cl a ca) (sb : SndE X c cl b cb) (sd : SndE X c cl d cd) (he : evE c (.chain (copOf op) (copOf op') ca cb cd) τ S = some (r, S')) (gg : G X.K cl F m S H) (ev : EnvOk X.K F m τ σ H) :
    ∃ (z : Bool) (r1 r2 : R2), r = .fz (.bl z) ∧ OpR X (compareOp op) r1 ∧ OpR X (compareOp op') r2 ∧ ∀ Q : VK, (∀ F' m' H', Stp F m H F' m' H' → G X.K cl F' m' S' H' → Q (.bl z) H') → tChain r1 r2 (SE X a) (SE X b) (SE X d) σ H Q := by
  simp only [evE] at he
  split at he
  rotate_left
  · cases he
  rename_i x S1 ea
  split at he
  rotate_left
  · cases he
  rename_i y S2 eb
  split at he
  · rename_i ez
    split at he
    rotate_left
    · cases he
    rename_i w S3 ed
    split at he
    rotate_left
    · cases he
    rename_i z ez2
    cases he
    obtain ⟨r1, o1, h1⟩ := cmp_core k ez
    obtain ⟨r2, o2, h2⟩ := cmp_core k ez2
    refine ⟨z, r1, r2, rfl, o1, o2, fun Q q => ?_⟩
    refine two sa sb ea eb gg ev fun F2 m2 H2 v u st g2 q1 q2 => ?_
    refine h1 F2 m2 H2 v u _ _ g2 q1 q2 _ ⟨true, rfl, ?_⟩
    rw [if_pos rfl]
    refine sd τ S2 w S' ed F2 m2 σ H2 g2 (ev.step st) _ fun F3 m3 H3 t st3 g3 q3 => ?_
    exact h2 F3 m3 H3 u t S' H g3 (q2.step st3) (q3.back st) _ (q F3 m3 H3 (st.trans st3) g3)
  · rename_i ez
    cases he
    obtain ⟨r1, o1, h1⟩ := cmp_core k ez
    have o2 : ∃ r2 : R2, OpR X (compareOp op') r2 := ⟨fun _ _ _ _ => False, fun _ _ _ _ _ _ _ _ _ _ _ _ h => h.elim⟩
    obtain ⟨r2, o2⟩ := o2
    refine ⟨false, r1, r2, rfl, o1, o2, fun Q q => ?_⟩
    refine two sa sb ea eb gg ev fun F2 m2 H2 v u st g2 q1 q2 => ?_
    refine h1 F2 m2 H2 v u _ _ g2 q1 q2 _ ⟨false, rfl, ?_⟩
    rw [if_neg Bool.false_ne_true]
    exact q F2 m2 H2 st g2
  · cases he
theorem snd_chain {d : Expr} {cd : CE} {op op' : CmpOp} {pos : Pos} (k : Kn c cl g X) (hb : behindInMarks op' d = false) (sa : SndE X c cl a ca) (sb : SndE X c cl b cb) (sd : SndE X c cl d cd) : SndE X c cl (.Compare a [op, op'] [b, d] pos) (.chain (copOf op) (copOf op') ca cb cd) := by
  intro τ S r S' he F m σ H gg ev Q q
  obtain ⟨z, r1, r2, rfl, o1, o2, h⟩ := chain_core k sa sb sd he gg ev
  exact se_of (pe_chain o1 o2 pe_se pe_se pe_se hb) (h Q fun F' m' H' st g' => q F' m' H' _ st g' (rv_bl))
theorem sndt_chain {d : Expr} {cd : CE} {op op' : CmpOp} {pos : Pos} (k : Kn c cl g X) (hb : behindInMarks op' d = false) (sa : SndE X c cl a ca) (sb : SndE X c cl b cb) (sd : SndE X c cl d cd) : SndT X c cl (.Compare a [op, op'] [b, d] pos) (.tr (.chain (copOf op) (copOf op') ca cb cd)) := by
  intro τ S r S' he F m σ H gg ev Q q
  simp only [evT] at he
  split at he
  rotate_left
  · cases he
  rename_i x S1 he1
  obtain ⟨z, r1, r2, rfl, o1, o2, h⟩ := chain_core k sa sb sd he1 gg ev
  simp only [truR] at he
  cases he
  exact st_of' (pt_chain o1 o2 pe_se pe_se pe_se hb) (h _ fun F' m' H' st g' => ⟨_, rfl, q F' m' H' st g'⟩)

/-! ### and, or, not, if -/
theorem snd_and {rest : List Expr} {pos : Pos} (sa : SndE X c cl a ca) (sb : SndE X c cl (.BoolOp .And (b :: rest) pos) cb) : SndE X c cl (.BoolOp .And (a :: b :: rest) pos) (.andV ca cb) := by
  intro τ S r S' he F m σ H gg ev Q q
  simp only [evE] at he
  split at he
  · rename_i S1 ea
    refine se_of (pe_and pe_se pe_se) (sa τ S _ _ ea F m σ H gg ev _ fun F1 m1 H1 v st g1 r1 => ?_)
    refine ⟨true, rvi_bl r1, ?_⟩
    rw [if_pos rfl]
    exact sb τ S1 r S' he F1 m1 σ H1 g1 (ev.step st) Q fun F2 m2 H2 v2 st2 g2 r2 => q F2 m2 H2 v2 (st.trans st2) g2 (r2.back st)
  · rename_i S1 ea
    cases he
    refine se_of (pe_and pe_se pe_se) (sa τ S _ _ ea F m σ H gg ev _ fun F1 m1 H1 v st g1 r1 => ?_)
    refine ⟨false, rvi_bl r1, ?_⟩
    rw [if_neg Bool.false_ne_true]
    exact q F1 m1 H1 _ st g1 (rv_bl)
  · cases he
theorem snd_or {rest : List Expr} {pos : Pos} (sa : SndE X c cl a ca) (sb : SndE X c cl (.BoolOp .Or (b :: rest) pos) cb) : SndE X c cl (.BoolOp .Or (a :: b :: rest) pos) (.orV ca cb) := by
  intro τ S r S' he F m σ H gg ev Q q
  simp only [evE] at he
  split at he
  · rename_i S1 ea
    refine se_of (pe_or pe_se pe_se) (sa τ S _ _ ea F m σ H gg ev _ fun F1 m1 H1 v st g1 r1 => ?_)
    refine ⟨false, rvi_bl r1, ?_⟩
    rw [if_neg Bool.false_ne_true]
    exact sb τ S1 r S' he F1 m1 σ H1 g1 (ev.step st) Q fun F2 m2 H2 v2 st2 g2 r2 => q F2 m2 H2 v2 (st.trans st2) g2 (r2.back st)
  · rename_i S1 ea
    cases he
    refine se_of (pe_or pe_se pe_se) (sa τ S _ _ ea F m σ H gg ev _ fun F1 m1 H1 v st g1 r1 => ?_)
    refine ⟨true, rvi_bl r1, ?_⟩
    rw [if_pos rfl]
    exact q F1 m1 H1 _ st g1 (rv_bl)
  · cases he
theorem snd_one {op : BoolOp} {pos : Pos} (sa : SndE X c cl a ca) : SndE X c cl (.BoolOp op [a] pos) ca := by
  intro τ S r S' he F m σ H gg ev Q q
  exact se_of (pe_one pe_se) (sa τ S r S' he F m σ H gg ev Q q)
theorem snd_not {pos : Pos} (sa : SndE X c cl a ca) : SndE X c cl (.UnaryOp .Not a pos) (.notV ca) := by
  intro τ S r S' he F m σ H gg ev Q q
  simp only [evE] at he
  split at he
  · rename_i z S1 ea
    cases he
    refine se_of (pe_not pe_se) (sa τ S _ _ ea F m σ H gg ev _ fun F1 m1 H1 v st g1 r1 => ?_)
    exact ⟨z, rvi_bl r1, q F1 m1 H1 _ st g1 (rv_bl)⟩
  · cases he
theorem snd_ite {t : Expr} {ct : CT} {pos : Pos} (st : SndT X c cl t ct) (sa : SndE X c cl a ca) (sb : SndE X c cl b cb) : SndE X c cl (.IfExp t a b pos) (.ite ct ca cb) := by
  intro τ S r S' he F m σ H gg ev Q q
  simp only [evE] at he
  split at he
  · rename_i S1 et
    refine se_of (pe_ifExp pt_st pe_se pe_se) (st τ S _ _ et F m σ H gg ev _ fun F1 m1 H1 s1 g1 => ?_)
    rw [if_pos rfl]
    exact sa τ S1 r S' he F1 m1 σ H1 g1 (ev.step s1) Q fun F2 m2 H2 v2 s2 g2 r2 => q F2 m2 H2 v2 (s1.trans s2) g2 (r2.back s1)
  · rename_i S1 et
    refine se_of (pe_ifExp pt_st pe_se pe_se) (st τ S _ _ et F m σ H gg ev _ fun F1 m1 H1 s1 g1 => ?_)
    rw [if_neg Bool.false_ne_true]
    exact sb τ S1 r S' he F1 m1 σ H1 g1 (ev.step s1) Q fun F2 m2 H2 v2 s2 g2 r2 => q F2 m2 H2 v2 (s1.trans s2) g2 (r2.back s1)
  · cases he

/-! ### tests -/
theorem sndw_one {op : BoolOp} {ct : CT} {pos : Pos} (st : SndT X c cl a ct) : SndW X c cl (.BoolOp op [a] pos) ct := by
  intro τ S z S' he F m σ H gg ev Q q
  cases op with
  | And => exact sw_of (pw_and1 pt_st) (st τ S z S' he F m σ H gg ev Q q)
  | Or => exact sw_of (pw_or1 pt_st) (st τ S z S' he F m σ H gg ev Q q)
theorem sndw_and {rest : List Expr} {ct cu : CT} {pos : Pos} (st : SndT X c cl a ct) (su : SndW X c cl (.BoolOp .And (b :: rest) pos) cu) : SndW X c cl (.BoolOp .And (a :: b :: rest) pos) (.and ct cu) := by
  intro τ S z S' he F m σ H gg ev Q q
  simp only [evT] at he
  split at he
  · rename_i S1 et
    refine sw_of (pw_and pt_st pw_sw) (st τ S _ _ et F m σ H gg ev _ fun F1 m1 H1 s1 g1 => ?_)
    rw [if_pos rfl]
    exact su τ S1 z S' he F1 m1 σ H1 g1 (ev.step s1) Q fun F2 m2 H2 s2 g2 => q F2 m2 H2 (s1.trans s2) g2
  · rename_i S1 et
    cases he
    refine sw_of (pw_and pt_st pw_sw) (st τ S _ _ et F m σ H gg ev _ fun F1 m1 H1 s1 g1 => ?_)
    rw [if_neg Bool.false_ne_true]
    exact q F1 m1 H1 s1 g1
  · cases he
theorem sndw_or {rest : List Expr} {ct cu : CT} {pos : Pos} (st : SndT X c cl a ct) (su : SndW X c cl (.BoolOp .Or (b :: rest) pos) cu) : SndW X c cl (.BoolOp .Or (a :: b :: rest) pos) (.or ct cu) := by
  intro τ S z S' he F m σ H gg ev Q q
  simp only [evT] at he
  split at he
  · rename_i S1 et
    refine sw_of (pw_or pt_st pw_sw) (st τ S _ _ et F m σ H gg ev _ fun F1 m1 H1 s1 g1 => ?_)
    rw [if_neg Bool.false_ne_true]
    exact su τ S1 z S' he F1 m1 σ H1 g1 (ev.step s1) Q fun F2 m2 H2 s2 g2 => q F2 m2 H2 (s1.trans s2) g2
  · rename_i S1 et
    cases he
    refine sw_of (pw_or pt_st pw_sw) (st τ S _ _ et F m σ H gg ev _ fun F1 m1 H1 s1 g1 => ?_)
    rw [if_pos rfl]
    exact q F1 m1 H1 s1 g1
  · cases he
theorem sndt_w {e : Expr} {ct : CT} (h : SndW X c cl e ct) : SndT X c cl e ct := by
  intro τ S z S' he F m σ H gg ev Q q
  exact st_of' pw_sw.pt (h τ S z S' he F m σ H gg ev Q q)
theorem sndt_not {ct : CT} {pos : Pos} (st : SndT X c cl a ct) : SndT X c cl (.UnaryOp .Not a pos) (.not ct) := by
  intro τ S z S' he F m σ H gg ev Q q
  simp only [evT] at he
  split at he
  · rename_i z S1 et
    cases he
    exact st_of' (pt_not pt_st) (st τ S _ _ et F m σ H gg ev _ fun F1 m1 H1 s1 g1 => q F1 m1 H1 s1 g1)
  · cases he
theorem tru_of {z : Bool} {v : V} {S : Store} {H0 : Hp} (gg : G X.K cl F m S H) (h : RvOk X.K H0 F m H x v) (e : truR x = some z) : TruV X.K v H z := by
  have seq : ∀ ds, x.seq = some ds → z = !ds.isEmpty → TruV X.K v H z := by
    intro ds hs hz
    obtain ⟨a, vs, rfl, h1, h2⟩ := seq_ok gg h hs
    have el : ds.isEmpty = vs.isEmpty := by
      have := h1.len
      cases ds <;> cases vs <;> simp_all
    subst hz
    rw [el]
    rcases h2 with h2 | h2
    · exact .inl ⟨vs, h2, rfl⟩
    · exact .inr (.inl ⟨vs, h2, rfl⟩)
  cases x with
  | fz d =>
    cases d <;> simp only [truR, Option.some.injEq, reduceCtorEq] at e
    · rw [rvi_non h]; subst e; exact rfl
    · rw [rvi_bl h]; subst e; exact rfl
    · rw [rvi_int h]; subst e; exact rfl
    · rename_i s
      split at e <;> cases e
      rename_i hs
      rw [rvi_str h]
      exact ⟨hs, rfl⟩
    · rename_i ds; exact seq ds rfl (by simpa [Rv.seq] using e.symm)
    · rename_i ds; exact seq ds rfl (by simpa [Rv.seq] using e.symm)
    · rename_i ds; exact seq ds rfl (by simpa [Rv.seq] using e.symm)
  | fr ds => exact seq ds rfl (by simpa [truR, Rv.seq] using e.symm)
  | rd ds => exact seq ds rfl (by simpa [truR, Rv.seq] using e.symm)
/-- a test that is a value's truth -/
theorem sndt_tr (hp : ∀ whole, isTrue e X.env whole = (do let v ← whole; standAt e.pos; holding [v] (truthy v))) (se : SndE X c cl e ce) : SndT X c cl e (.tr ce) := by
  intro τ S z S' he F m σ H gg ev Q q
  simp only [evT] at he
  split at he
  rotate_left
  · cases he
  rename_i x S1 ex
  split at he
  · rename_i z et
    cases he
    refine st_of' (pt_truth pe_se hp) (se τ S _ _ ex F m σ H gg ev _ fun F1 m1 H1 v s1 g1 r1 => ?_)
    exact ⟨z, tru_of g1 r1 et, q F1 m1 H1 s1 g1⟩
  · cases he
end
end Co
end

section
set_option maxHeartbeats 0
set_option Elab.async false
set_option linter.all false
set_option maxRecDepth 100000
/-! Co5: arguments, displays, subscripts, built-ins, calls, instances, comprehensions. -/
namespace Co
open PySem L2
section
variable {X : Cx} {c : Ctx} {cl : List Addr} {g : Gm} {a b e : Expr} {ca cb ce : CE} {τ : Env} {S S' S1 S2 S3 : Store} {F : Hp} {m : List Addr} {σ : St} {H : Hp} {x y r : Rv} {d : D} {ds : List D}

theorem star_cons {es : List Expr} {env : PySem.Env} (h : isStar e = false) : starEach (e :: es) env = (false, eval e env) :: starEach es env := by
  cases e <;> first | rfl | (simp [isStar] at h)
theorem star_none {env : PySem.Env} {pos : Pos} : ∀ {es : List Expr}, (∀ e ∈ es, isStar e = false) → (backTo pos (starEach es env)).any (·.1) = false
  | [], _ => rfl
  | e :: es, h => by
    rw [star_cons (h e (by simp))]
    unfold backTo
    rw [List.map_cons, List.any_cons]
    have ih := star_none (env := env) (pos := pos) (es := es) fun e he => h e (by simp [he])
    unfold backTo at ih
    rw [ih]; rfl
/-! ### arguments -/
theorem snda_nil : SndA X c cl [] .nil := by
  intro τ S ds S' he F m σ H gg ev Q q
  simp only [evA, Option.some.injEq, Prod.mk.injEq] at he
  obtain ⟨rfl, rfl⟩ := he
  exact sa_of pa_nil (q F m H [] Stp.refl gg (by simp [IsA]))
theorem snda_cons {es : List Expr} {cs : CA} (h : isStar e = false) (se : SndE X c cl e ce) (sa : SndA X c cl es cs) : SndA X c cl (e :: es) (.cons ce cs) := by
  intro τ S ds S' he F m σ H gg ev Q q
  simp only [evA] at he
  split at he
  rotate_left
  · cases he
  rename_i x S1 ex
  split at he
  rotate_left
  · cases he
  rename_i d ed
  split at he
  rotate_left
  · cases he
  rename_i ds' S2 ea
  cases he
  refine sa_of (pa_cons pe_se pa_sa (star_cons h)) (se τ S x S1 ex F m σ H gg ev _ fun F1 m1 H1 v st g1 r1 => ?_)
  obtain ⟨F1', st', g1', sub, i1⟩ := keep_ok st g1 r1 ed
  refine sa τ S1 ds' _ ea F1' m1 σ H1 g1' (ev.step st') _ fun F2 m2 H2 vs st2 g2 i2 => ?_
  refine q F2 m2 H2 _ (st'.trans st2) g2 ?_
  simp only [IsA]
  exact ⟨v, vs, rfl, st2.is i1, i2⟩

/-! ### displays -/
theorem snd_tup {es : List Expr} {cs : CA} {k : Nat} {pos : Pos} (sa : SndA X c cl es cs) : SndE X c cl (.Tuple es k pos) (.tup cs) := by
  intro τ S r S' he F m σ H gg ev Q q
  simp only [evE] at he
  split at he
  rotate_left
  · cases he
  rename_i ds S1 ea
  split at he <;> cases he
  rename_i hz
  refine se_of (pe_tup pa_sa) (sa τ S ds _ ea F m σ H gg ev _ fun F1 m1 H1 vs st g1 i1 => ⟨by rw [← i1.len]; exact hz, fun p hp => ?_⟩)
  obtain ⟨s3, g3, h3⟩ := mk_tup g1 i1 hp
  exact q _ m1 _ _ (st.trans s3) g3 h3
theorem snd_lst {es : List Expr} {cs : CA} {pos : Pos} (sa : SndA X c cl es cs) : SndE X c cl (.List es pos) (.lst cs) := by
  intro τ S r S' he F m σ H gg ev Q q
  simp only [evE] at he
  split at he
  rotate_left
  · cases he
  rename_i ds S1 ea
  split at he <;> cases he
  rename_i hz
  refine se_of (pe_lst pa_sa) (sa τ S ds _ ea F m σ H gg ev _ fun F1 m1 H1 vs st g1 i1 => ⟨by rw [← i1.len]; exact hz, fun p hp => ?_⟩)
  obtain ⟨s3, g3, h3⟩ := mk_lst g1 i1 hp (st.none hp)
  exact q _ m1 _ _ (st.trans s3) g3 h3

/-! ### subscripts -/
theorem ixN_len {n k : Nat} {i : Int} (h : ixN n i = some k) : k < n := by
  unfold ixN at h
  split at h
  · split at h <;> simp at h; omega
  · split at h <;> simp at h; omega
theorem atI_isA {K : PySem.W.Frag} {ds : List D} {vs : List V} {i : Int} (h : IsA K F m ds vs) (e : atI ds i = some d) : ∃ v, atI vs i = some v ∧ Is K F m d v := by
  unfold atI at e ⊢
  rw [← h.len]
  cases q : ixN ds.length i with
  | none => rw [q] at e; simp at e
  | some j =>
    rw [q] at e
    simp only [Option.bind_some] at e ⊢
    exact h.get e
theorem plainIx_of (h : ∀ lo hi st p, b ≠ .Slice lo hi st p) : PlainIx b := fun _ _ => by
  cases b <;> first | rfl | exact absurd rfl (h _ _ _ _)
theorem look_kis {K : PySem.W.Frag} : ∀ {kvs : List (Key × D)} {ws : List (Key × V)} {k : Key} {d : D}, KIs K F m kvs ws → lookD kvs k = some d → ∃ v, valV ws k = some v ∧ Is K F m d v
  | [], _, _, _, h, e => by simp [lookD] at e
  | (k', d') :: r, ws, k, d, h, e => by
    obtain ⟨v, us, rfl, h1, h2⟩ := h
    by_cases q : k' = k
    · subst q
      simp [lookD, List.find?_cons] at e
      subst e
      exact ⟨v, valV_pos rfl, h1⟩
    · have e' : lookD r k = some d := by simpa [lookD, List.find?_cons, q] using e
      obtain ⟨w, h3, h4⟩ := look_kis h2 e'
      exact ⟨w, by rw [valV_neg (by exact q)]; exact h3, h4⟩
theorem key_is {K : PySem.W.Frag} {v : V} {k : Key} (h : Is K F m d v) (e : keyD d = some k) : v = kV k := by
  cases d <;> simp [keyD] at e <;> subst e <;> simp only [Is] at h <;> subst h <;> rfl
theorem snd_idx {pos : Pos} (k : Kn c cl g X) (hb : ∀ lo hi st p, b ≠ .Slice lo hi st p) (sa : SndE X c cl a ca) (sb : SndE X c cl b cb) : SndE X c cl (.Subscript a b pos) (.idx ca cb) := by
  intro τ S r S' he F m σ H gg ev Q q
  simp only [evE] at he
  split at he
  rotate_left
  · cases he
  rename_i x S1 ea
  split at he
  rotate_left
  · cases he
  rename_i y S2 eb
  split at he
  rotate_left
  · cases he
  rename_i d ed
  cases he
  have seq : ∀ (i : Int) (ds : List D), x.seq = some ds → y = .fz (.int i) → atI ds i = some d → SE X (.Subscript a b pos) σ H Q := by
    rintro i ds hs rfl ha
    refine se_of (pe_ix ix_seq pe_se pe_se (plainIx_of hb)) (two sa sb ea eb gg ev fun F2 m2 H2 v w st g2 r1 r2 => ?_)
    rw [rvi_int r2]
    obtain ⟨p, vs, rfl, i1, hq⟩ := seq_ok g2 r1 hs
    obtain ⟨u, hu, iu⟩ := atI_isA i1 ha
    rcases hq with hq | hq
    · exact .inl ⟨p, vs, i, u, rfl, rfl, hq, hu, q F2 m2 H2 u st g2 iu⟩
    · exact .inr (.inl ⟨p, vs, i, u, rfl, rfl, hq, hu, q F2 m2 H2 u st g2 iu⟩)
  unfold idxR at ed
  split at ed
  · rename_i n kd
    split at ed
    · rename_i kvs en
      split at ed
      · rename_i key ek
        refine se_of (pe_dget (hu_of k.hu) pe_se pe_se (plainIx_of hb)) (two sa sb ea eb gg ev fun F2 m2 H2 v w st g2 r1 r2 => ?_)
        have r1 : Is X.K F2 m2 (.obj n) v := r1
        simp only [Is] at r1
        obtain ⟨p, rfl, hp⟩ := r1
        obtain ⟨q1, ws, q2, q3⟩ := g2.ob n p _ hp en
        obtain ⟨u, hu, iu⟩ := look_kis q3 ed
        refine ⟨p, u, rfl, ?_, q F2 m2 H2 u st g2 iu⟩
        have := DGet.k (k := key) q2
        rw [hu, ← key_is r2 ek] at this
        exact this
      · cases ed
    · cases ed
  · rename_i s i
    split at ed
    · rename_i hs
      simp only [Option.map_eq_some_iff] at ed
      obtain ⟨ch, e1, rfl⟩ := ed
      refine se_of (pe_ix ix_seq pe_se pe_se (plainIx_of hb)) (two sa sb ea eb gg ev fun F2 m2 H2 v w st g2 r1 r2 => ?_)
      rw [rvi_str r1, rvi_int r2]
      exact .inr (.inr ⟨s, i, ch, rfl, rfl, hs, e1, q F2 m2 H2 _ st g2 rv_str⟩)
    · cases ed
  · rename_i x' i _ _
    split at ed
    · rename_i ds hs
      exact seq i ds hs rfl ed
    · cases ed
  · cases ed

theorem cutD_isA {K : PySem.W.Frag} {ds : List D} {vs : List V} {lo hi : Option Int} (h : IsA K F m ds vs) : IsA K F m (cutD ds lo hi) (cutV vs lo hi) := by
  unfold cutD cutV
  rw [← h.len]
  exact (h.drop _).take _
theorem cut_whole {α : Type} (xs : List α) (lo hi : Option Int) (h : HT.sIx xs.length 0 lo = 0 ∧ HT.sIx xs.length xs.length hi = xs.length) : (xs.drop (HT.sIx xs.length 0 lo)).take (HT.sIx xs.length xs.length hi - HT.sIx xs.length 0 lo) = xs := by
  rw [h.1, h.2]; simp
/-- a slice of a value, the parts told -/
theorem slice_of {lo hi : Option Expr} {p2 pos : Pos} {l h : Option Int} {r : Rv} (sa : SndE X c cl a ca) (ea : evE c ca τ S = some (x, S1)) (er : slR x l h = some r) (gg : G X.K cl F m S H) (ev : EnvOk X.K F m τ σ H) {tl th : TO} (hl : PO X lo tl) (hh : PO X hi th) {Q : VK}
    (parts : ∀ F1 m1 H1 v, Stp F m H F1 m1 H1 → G X.K cl F1 m1 S1 H1 → RvOk X.K H F1 m1 H1 x v → ∀ R : Option Int → Option Int → Hp → Prop,
      (∀ F' m' H', Stp F1 m1 H1 F' m' H' → G X.K cl F' m' S' H' → R l h H') → tl σ H1 fun l' H2 => th σ H2 fun h' H3 => R l' h' H3)
    (q : ∀ F' m' H' v, Stp F m H F' m' H' → G X.K cl F' m' S' H' → RvOk X.K H F' m' H' r v → Q v H') : SE X (.Subscript a (.Slice lo hi none p2) pos) σ H Q := by
  unfold slR at er
  split at er
  · rename_i ds
    cases er
    refine se_of (pe_slice sl_tupA pe_se hl hh) (sa τ S _ S1 ea F m σ H gg ev _ fun F1 m1 H1 v st g1 r1 => parts F1 m1 H1 v st g1 r1 _ fun F' m' H' st' g' => ?_)
    have r1 : Is X.K F1 m1 (.tup ds) v := r1
    have r2 := st'.is r1
    simp only [Is] at r2
    obtain ⟨p, vs, rfl, k1, i1⟩ := r2
    refine ⟨p, vs, rfl, same_t g'.sub k1, fun hw => ?_, fun _ p2 hp => ?_⟩
    · refine q F' m' H' _ (st.trans st') g' ?_
      have : cutD ds l h = ds := cut_whole ds l h (by rw [i1.len]; exact hw)
      rw [this]
      show Is _ _ _ _ _
      simp only [Is]
      exact ⟨p, vs, rfl, k1, i1⟩
    · obtain ⟨s3, g3, h3⟩ := mk_tup g' (cutD_isA (lo := l) (hi := h) i1) hp
      exact q _ m' _ _ ((st.trans st').trans s3) g3 h3
  · rename_i s
    split at er <;> cases er
    rename_i hs
    refine se_of (pe_slice sl_str pe_se hl hh) (sa τ S _ S1 ea F m σ H gg ev _ fun F1 m1 H1 v st g1 r1 => parts F1 m1 H1 v st g1 r1 _ fun F' m' H' st' g' => ?_)
    rw [rvi_str r1]
    exact ⟨s, rfl, hs, q F' m' H' _ (st.trans st') g' rv_str⟩
  · split at er
    · rename_i ds hs
      cases er
      refine se_of (pe_slice sl_list pe_se hl hh) (sa τ S _ S1 ea F m σ H gg ev _ fun F1 m1 H1 v st g1 r1 => parts F1 m1 H1 v st g1 r1 _ fun F' m' H' st' g' => ?_)
      obtain ⟨p, vs, rfl, i1, hq⟩ := lseq_ok g' (r1.step st') hs
      refine ⟨p, vs, rfl, hq, fun p2 hp => ?_⟩
      obtain ⟨s3, g3, h3⟩ := mk_lst g' (cutD_isA (lo := l) (hi := h) i1) hp ((st.trans st').none hp)
      exact q _ m' _ _ ((st.trans st').trans s3) g3 h3
    · cases er
theorem snd_sl2 {lo hi : Expr} {cl' ch : CE} {p2 pos : Pos} (sa : SndE X c cl a ca) (sl : SndE X c cl lo cl') (sh : SndE X c cl hi ch) : SndE X c cl (.Subscript a (.Slice (some lo) (some hi) none p2) pos) (.sl2 ca cl' ch) := by
  intro τ S r S' he F m σ H gg ev Q q
  simp only [evE] at he
  split at he
  rotate_left
  · cases he
  rename_i x S1 ea
  split at he
  rotate_left
  · cases he
  rename_i l S2 el
  split at he
  rotate_left
  · cases he
  rename_i h S3 eh
  split at he
  rotate_left
  · cases he
  rename_i r' er
  cases he
  refine slice_of sa ea er gg ev (po_some pe_se) (po_some pe_se) (fun F1 m1 H1 v st g1 _ R hR => ?_) q
  refine sl τ S1 _ S2 el F1 m1 σ H1 g1 (ev.step st) _ fun F2 m2 H2 w st2 g2 r2 => ⟨l, rvi_int r2, ?_⟩
  refine sh τ S2 _ _ eh F2 m2 σ H2 g2 (ev.step (st.trans st2)) _ fun F3 m3 H3 w st3 g3 r3 => ⟨h, rvi_int r3, ?_⟩
  exact hR F3 m3 H3 (st2.trans st3) g3
theorem snd_slL {lo : Expr} {cl' : CE} {p2 pos : Pos} (sa : SndE X c cl a ca) (sl : SndE X c cl lo cl') : SndE X c cl (.Subscript a (.Slice (some lo) none none p2) pos) (.slL ca cl') := by
  intro τ S r S' he F m σ H gg ev Q q
  simp only [evE] at he
  split at he
  rotate_left
  · cases he
  rename_i x S1 ea
  split at he
  rotate_left
  · cases he
  rename_i l S2 el
  split at he
  rotate_left
  · cases he
  rename_i r' er
  cases he
  refine slice_of sa ea er gg ev (po_some pe_se) po_none (fun F1 m1 H1 v st g1 _ R hR => ?_) q
  refine sl τ S1 _ _ el F1 m1 σ H1 g1 (ev.step st) _ fun F2 m2 H2 w st2 g2 r2 => ⟨l, rvi_int r2, ?_⟩
  exact hR F2 m2 H2 st2 g2
theorem snd_slH {hi : Expr} {ch : CE} {p2 pos : Pos} (sa : SndE X c cl a ca) (sh : SndE X c cl hi ch) : SndE X c cl (.Subscript a (.Slice none (some hi) none p2) pos) (.slH ca ch) := by
  intro τ S r S' he F m σ H gg ev Q q
  simp only [evE] at he
  split at he
  rotate_left
  · cases he
  rename_i x S1 ea
  split at he
  rotate_left
  · cases he
  rename_i h S3 eh
  split at he
  rotate_left
  · cases he
  rename_i r' er
  cases he
  refine slice_of sa ea er gg ev po_none (po_some pe_se) (fun F1 m1 H1 v st g1 _ R hR => ?_) q
  refine sh τ S1 _ _ eh F1 m1 σ H1 g1 (ev.step st) _ fun F3 m3 H3 w st3 g3 r3 => ⟨h, rvi_int r3, ?_⟩
  exact hR F3 m3 H3 st3 g3
theorem snd_rev {k : Nat} {p1 p2 p3 pos : Pos} (sa : SndE X c cl a ca) : SndE X c cl (.Subscript a (.Slice none none (some (.UnaryOp .USub (.Constant (.int 1) k p1) p2)) p3) pos) (.rev ca) := by
  intro τ S r S' he F m σ H gg ev Q q
  simp only [evE] at he
  split at he
  rotate_left
  · cases he
  rename_i x S1 ea
  split at he
  rotate_left
  · cases he
  rename_i r' er
  cases he
  unfold revR at er
  split at er
  · rename_i ds
    cases er
    refine se_of (pe_revA pe_se) (sa τ S _ _ ea F m σ H gg ev _ fun F1 m1 H1 v st g1 r1 => ?_)
    have r1 : Is X.K F1 m1 (.tup ds) v := r1
    simp only [Is] at r1
    obtain ⟨p, vs, rfl, k1, i1⟩ := r1
    refine ⟨p, vs, rfl, .inr ⟨same_t g1.sub k1, fun p2 hp => ?_⟩⟩
    obtain ⟨s3, g3, h3⟩ := mk_tup g1 i1.rev hp
    exact q _ m1 _ _ (st.trans s3) g3 h3
  · split at er
    · rename_i ds hs
      cases er
      refine se_of (pe_revA pe_se) (sa τ S _ _ ea F m σ H gg ev _ fun F1 m1 H1 v st g1 r1 => ?_)
      obtain ⟨p, vs, rfl, i1, hq⟩ := lseq_ok g1 r1 hs
      refine ⟨p, vs, rfl, .inl ⟨hq, fun p2 hp => ?_⟩⟩
      obtain ⟨s3, g3, h3⟩ := mk_lst g1 i1.rev hp (st.none hp)
      exact q _ m1 _ _ (st.trans s3) g3 h3
    · cases er

/-! ### built-ins -/
theorem maxL_mem : ∀ {ns : List Int} {k : Int}, maxL ns = some k → k ∈ ns ∧ ∀ y ∈ ns, y ≤ k := by
  intro ns k h
  cases ns with
  | nil => simp [maxL] at h
  | cons a as =>
    simp only [maxL, Option.some.injEq] at h
    have key : ∀ (as : List Int) (a k : Int), as.foldl (fun x y => if y > x then y else x) a = k → (k = a ∨ k ∈ as) ∧ a ≤ k ∧ ∀ y ∈ as, y ≤ k := by
      intro as
      induction as with
      | nil => intro a k h; simp at h; subst h; simp
      | cons b bs ih =>
        intro a k h
        simp only [List.foldl_cons] at h
        obtain ⟨h1, h2, h3⟩ := ih _ k h
        split at h2 <;> rename_i hb
        · rw [if_pos hb] at h1
          refine ⟨?_, by omega, fun y hy => ?_⟩
          · rcases h1 with e | e
            · exact .inr (by simp [e])
            · exact .inr (by simp [e])
          · rcases List.mem_cons.mp hy with e | e
            · omega
            · exact h3 y e
        · rw [if_neg hb] at h1
          refine ⟨?_, h2, fun y hy => ?_⟩
          · rcases h1 with e | e
            · exact .inl e
            · exact .inr (by simp [e])
          · rcases List.mem_cons.mp hy with e | e
            · omega
            · exact h3 y e
    obtain ⟨h1, h2, h3⟩ := key as a k h
    refine ⟨by rcases h1 with e | e <;> simp [e], fun y hy => ?_⟩
    rcases List.mem_cons.mp hy with e | e
    · omega
    · exact h3 y e
theorem minL_mem : ∀ {ns : List Int} {k : Int}, minL ns = some k → k ∈ ns ∧ ∀ y ∈ ns, k ≤ y := by
  intro ns k h
  cases ns with
  | nil => simp [minL] at h
  | cons a as =>
    simp only [minL, Option.some.injEq] at h
    have key : ∀ (as : List Int) (a k : Int), as.foldl (fun x y => if y < x then y else x) a = k → (k = a ∨ k ∈ as) ∧ k ≤ a ∧ ∀ y ∈ as, k ≤ y := by
      intro as
      induction as with
      | nil => intro a k h; simp at h; subst h; simp
      | cons b bs ih =>
        intro a k h
        simp only [List.foldl_cons] at h
        obtain ⟨h1, h2, h3⟩ := ih _ k h
        split at h2 <;> rename_i hb
        · rw [if_pos hb] at h1
          refine ⟨?_, by omega, fun y hy => ?_⟩
          · rcases h1 with e | e
            · exact .inr (by simp [e])
            · exact .inr (by simp [e])
          · rcases List.mem_cons.mp hy with e | e
            · omega
            · exact h3 y e
        · rw [if_neg hb] at h1
          refine ⟨?_, h2, fun y hy => ?_⟩
          · rcases h1 with e | e
            · exact .inl e
            · exact .inr (by simp [e])
          · rcases List.mem_cons.mp hy with e | e
            · omega
            · exact h3 y e
    obtain ⟨h1, h2, h3⟩ := key as a k h
    refine ⟨by rcases h1 with e | e <;> simp [e], fun y hy => ?_⟩
    rcases List.mem_cons.mp hy with e | e
    · omega
    · exact h3 y e
theorem pa_one {X : Cx} {a : Expr} (h : isStar a = false) : PA X [a] (tCons (SE X a) tNil) := pa_cons pe_se pa_nil (star_cons h)
theorem pa_two {X : Cx} {a b : Expr} (h : isStar a = false) (h2 : isStar b = false) : PA X [a, b] (tCons (SE X a) (tCons (SE X b) tNil)) := pa_cons pe_se (pa_cons pe_se pa_nil (star_cons h2)) (star_cons h)
theorem hpl_one {X : Cx} {pos : Pos} : (backTo pos (starEach [] X.env)).any (·.1) = false := rfl
end
end Co
end

section
set_option maxHeartbeats 0
set_option Elab.async false
set_option linter.all false
set_option maxRecDepth 100000
/-! Co6: built-ins, isinstance, calls, instances. -/
namespace Co
open PySem L2
theorem b_len : bootBuiltins "len" = some (.builtin "len") := by decide +kernel
theorem b_abs : bootBuiltins "abs" = some (.builtin "abs") := by decide +kernel
theorem b_int : bootBuiltins "int" = some (.type "int") := by decide +kernel
theorem b_bool : bootBuiltins "bool" = some (.type "bool") := by decide +kernel
theorem b_str : bootBuiltins "str" = some (.type "str") := by decide +kernel
theorem b_list : bootBuiltins "list" = some (.type "list") := by decide +kernel
theorem b_tuple : bootBuiltins "tuple" = some (.type "tuple") := by decide +kernel
theorem b_all : bootBuiltins "all" = some (.builtin "all") := by decide +kernel
theorem b_any : bootBuiltins "any" = some (.builtin "any") := by decide +kernel
theorem b_sum : bootBuiltins "sum" = some (.builtin "sum") := by decide +kernel
theorem b_max : bootBuiltins "max" = some (.builtin "max") := by decide +kernel
theorem b_min : bootBuiltins "min" = some (.builtin "min") := by decide +kernel
theorem b_sorted : bootBuiltins "sorted" = some (.builtin "sorted") := by decide +kernel
theorem b_isi : bootBuiltins "isinstance" = some (.builtin "isinstance") := by decide +kernel
section
variable {X : Cx} {c : Ctx} {cl : List Addr} {g : Gm} {a b e : Expr} {ca cb ce : CE} {τ : Env} {S S' S1 S2 S3 : Store} {F : Hp} {m : List Addr} {σ : St} {H : Hp} {x y r : Rv} {d : D} {ds : List D}

theorem sorted_one {ns ms : List Int} (p : ms.Perm ns) (s : ms.Pairwise (· ≤ ·)) : ms = ns.mergeSort (fun a b => decide (a ≤ b)) := by
  have p2 : (ns.mergeSort (fun a b => decide (a ≤ b))).Perm ns := List.mergeSort_perm ns _
  have s2 : (ns.mergeSort (fun a b => decide (a ≤ b))).Pairwise (fun a b => decide (a ≤ b) = true) := List.pairwise_mergeSort (by intro a b c h1 h2; simp at *; omega) (by intro a b; simp; omega) ns
  have s3 : (ns.mergeSort (fun a b => decide (a ≤ b))).Pairwise (· ≤ ·) := s2.imp fun h => by simpa using h
  exact List.Perm.eq_of_pairwise (fun a b _ _ h1 h2 => Int.le_antisymm h1 h2) s s3 (p.trans p2.symm)

def biNm : Bi → Str
  | .len => "len" | .abs => "abs" | .int => "int" | .list => "list" | .tuple => "tuple" | .all => "all" | .any => "any" | .sum => "sum" | .max => "max" | .min => "min" | .sorted => "sorted"
theorem biOf_inv {f : Str} {b : Bi} (h : biOf f = some b) : f = biNm b := by
  unfold biOf at h
  repeat (split at h; (rename_i e; cases h; exact e))
  cases h
theorem snd_bi {f : Str} {fb : Bi} {p pos : Pos} (k : Kn c cl g X) (hb : g.isBi f = true) (hf : biOf f = some fb) (hs : isStar a = false) (sa : SndE X c cl a ca) : SndE X c cl (.Call (.Name f p) [a] [] pos) (.bi fb ca) := by
  intro τ S r S' he F m σ H gg ev Q q
  obtain ⟨hg, hm, hd, hn⟩ := bi_ok k hb
  simp only [evE] at he
  split at he
  rotate_left
  · cases he
  rename_i x S1 ea
  split at he
  rotate_left
  · cases he
  rename_i r' er
  cases he
  have go : ∀ {rd : List V → Hp → VK → Prop}, (∀ F1 m1 H1 v, Stp F m H F1 m1 H1 → G X.K cl F1 m1 S' H1 → RvOk X.K H F1 m1 H1 x v → rd [v] H1 Q) → tCB rd (tCons (SE X a) tNil) σ H Q := fun hr => sa τ S x _ ea F m σ H gg ev _ hr
  have ef := biOf_inv hf
  subst ef
  cases fb with
  | len =>
    -- len
    simp only [biR] at er
    have L : ∀ {n : Nat}, r = .fz (.int n) → (∀ F1 m1 H1 v, Stp F m H F1 m1 H1 → G X.K cl F1 m1 S' H1 → RvOk X.K H F1 m1 H1 x v → LenV X.K v H1 n) → SE X (.Call (.Name (biNm .len) p) [a] [] pos) σ H Q := by
      rintro n rfl hl
      refine se_of (pe_callB call_len hg hm b_len (pa_one hs) hn hd (star_cons hs) hpl_one) (go fun F1 m1 H1 v st g1 r1 => ?_)
      exact ⟨v, n, rfl, hl F1 m1 H1 v st g1 r1, q F1 m1 H1 _ st g1 rv_int⟩
    split at er
    · rename_i s
      split at er <;> cases er
      rename_i hz
      exact L rfl fun F1 m1 H1 v st g1 r1 => by rw [rvi_str r1]; exact ⟨hz, rfl⟩
    · rename_i n
      split at er
      · rename_i kvs en
        cases er
        refine se_of (pe_callB call_lenD hg hm b_len (pa_one hs) hn hd (star_cons hs) hpl_one) (go fun F1 m1 H1 v st g1 r1 => ?_)
        have r1 : Is X.K F1 m1 (.obj n) v := r1
        simp only [Is] at r1
        obtain ⟨p', rfl, hp⟩ := r1
        obtain ⟨_, ws, q2, q3⟩ := g1.ob n p' _ hp en
        exact ⟨p', ws, rfl, q2, by rw [← q3.len]; exact q F1 m1 H1 _ st g1 rv_int⟩
      · cases er
    · split at er
      · rename_i ds hsq
        cases er
        refine L rfl fun F1 m1 H1 v st g1 r1 => ?_
        obtain ⟨p', vs, rfl, i1, hq⟩ := seq_ok g1 r1 hsq
        rcases hq with hq | hq
        · exact .inl ⟨vs, hq, i1.len⟩
        · exact .inr ⟨vs, hq, i1.len⟩
      · cases er
  | abs =>
    simp only [biR] at er
    split at er
    · rename_i i
      cases er
      refine se_of (pe_callB call_abs hg hm b_abs (pa_one hs) hn hd (star_cons hs) hpl_one) (go fun F1 m1 H1 v st g1 r1 => ?_)
      rw [rvi_int r1]
      exact ⟨i, rfl, q F1 m1 H1 _ st g1 rv_int⟩
    · cases er
  | int =>
    simp only [biR] at er
    split at er
    · rename_i i
      cases er
      refine se_of (pe_callTy call_int1 hg hm b_int (pa_one hs) hn hd (star_cons hs) hpl_one) (go fun F1 m1 H1 v st g1 r1 => ?_)
      rw [rvi_int r1]
      exact .inl ⟨i, rfl, q F1 m1 H1 _ st g1 rv_int⟩
    · cases er
  | list =>
    simp only [biR] at er
    split at er
    · rename_i ds hsq
      cases er
      refine se_of (pe_callTy call_list_of hg hm b_list (pa_one hs) hn hd (star_cons hs) hpl_one) (go fun F1 m1 H1 v st g1 r1 => ?_)
      obtain ⟨p', vs, rfl, i1, hq⟩ := seq_ok g1 r1 hsq
      refine ⟨p', vs, rfl, hq, fun l hl => ?_⟩
      obtain ⟨s3, g3, h3⟩ := mk_lst g1 i1 hl (st.none hl)
      exact q _ m1 _ _ (st.trans s3) g3 h3
    · cases er
  | tuple =>
    simp only [biR] at er
    split at er
    · rename_i ds hsq
      cases er
      refine se_of (pe_callTy call_tuple_of hg hm b_tuple (pa_one hs) hn hd (star_cons hs) hpl_one) (go fun F1 m1 H1 v st g1 r1 => ?_)
      have tup : ∀ (p' : Addr) (vs : List V), v = .ref p' → IsA X.K F1 m1 ds vs → SqL X.K H1 p' vs → ∃ p ys, [v] = [V.ref p] ∧ ((SqL X.K H1 p ys ∧ ∀ l, H1 l = none → Q (.ref l) (upd H1 l (.tup ys))) ∨ (SqT X.K H1 p ys ∧ Q (.ref p) H1)) := by
        rintro p' vs rfl i1 hq
        refine ⟨p', vs, rfl, .inl ⟨hq, fun l hl => ?_⟩⟩
        obtain ⟨s3, g3, h3⟩ := mk_tup g1 i1 hl
        exact q _ m1 _ _ (st.trans s3) g3 h3
      cases x with
      | fz t =>
        cases t <;> simp [Rv.seq] at hsq
        · subst hsq
          have r2 : Is X.K F1 m1 _ v := r1
          have r3 := r2
          simp only [Is] at r3
          obtain ⟨p', vs, rfl, k1, i1⟩ := r3
          exact ⟨p', vs, rfl, .inr ⟨same_t g1.sub k1, q F1 m1 H1 _ st g1 r2⟩⟩
        · subst hsq
          have r2 : Is X.K F1 m1 _ v := r1
          simp only [Is] at r2
          obtain ⟨p', vs, rfl, k1, i1⟩ := r2
          exact tup p' vs rfl i1 (.of (g1.sub _ _ k1))
        · subst hsq
          have r2 : Is X.K F1 m1 _ v := r1
          simp only [Is] at r2
          obtain ⟨p', vs, rfl, k1, i1⟩ := r2
          exact tup p' vs rfl i1 (same_l g1.sub k1)
      | fr t =>
        simp [Rv.seq] at hsq; subst hsq
        obtain ⟨p', vs, rfl, h3, h1, h2, h0, h4⟩ := r1
        exact tup p' vs rfl h4 (.of h3)
      | rd t =>
        simp [Rv.seq] at hsq; subst hsq
        obtain ⟨p', vs, rfl, h3, h1, h2, h4⟩ := r1
        exact tup p' vs rfl h4 (.of h3)
    · cases er
  | all =>
    simp only [biR] at er
    split at er
    · rename_i ds hsq
      simp only [Option.map_eq_some_iff] at er
      obtain ⟨bs, eb, rfl⟩ := er
      refine se_of (pe_callB (cr_all k.calm) hg hm b_all (pa_one hs) hn hd (star_cons hs) hpl_one) (go fun F1 m1 H1 v st g1 r1 => ?_)
      obtain ⟨p', vs, rfl, i1, hq⟩ := lseq_ok g1 r1 hsq
      have ev' := i1.boolsOf eb
      subst ev'
      exact ⟨p', bs, rfl, hq, q F1 m1 H1 _ st g1 rv_bl⟩
    · cases er
  | any =>
    simp only [biR] at er
    split at er
    · rename_i ds hsq
      simp only [Option.map_eq_some_iff] at er
      obtain ⟨bs, eb, rfl⟩ := er
      refine se_of (pe_callB (cr_any k.calm) hg hm b_any (pa_one hs) hn hd (star_cons hs) hpl_one) (go fun F1 m1 H1 v st g1 r1 => ?_)
      obtain ⟨p', vs, rfl, i1, hq⟩ := lseq_ok g1 r1 hsq
      have ev' := i1.boolsOf eb
      subst ev'
      exact ⟨p', bs, rfl, hq, q F1 m1 H1 _ st g1 rv_bl⟩
    · cases er
  | sum =>
    simp only [biR] at er
    split at er
    · rename_i ds hsq
      simp only [Option.map_eq_some_iff] at er
      obtain ⟨bs, eb, rfl⟩ := er
      refine se_of (pe_callB (cr_sum k.calm) hg hm b_sum (pa_one hs) hn hd (star_cons hs) hpl_one) (go fun F1 m1 H1 v st g1 r1 => ?_)
      obtain ⟨p', vs, rfl, i1, hq⟩ := lseq_ok g1 r1 hsq
      have ev' := i1.intsOf eb
      subst ev'
      exact ⟨p', bs, rfl, hq, q F1 m1 H1 _ st g1 rv_int⟩
    · cases er
  | max =>
    simp only [biR] at er
    split at er
    · rename_i ds hsq
      simp only [Option.bind_eq_some_iff, Option.map_eq_some_iff] at er
      obtain ⟨bs, eb, z, ez, rfl⟩ := er
      refine se_of (pe_callB (cr_max k.calm) hg hm b_max (pa_one hs) hn hd (star_cons hs) hpl_one) (go fun F1 m1 H1 v st g1 r1 => ?_)
      obtain ⟨p', vs, rfl, i1, hq⟩ := lseq_ok g1 r1 hsq
      have ev' := i1.intsOf eb
      subst ev'
      obtain ⟨z1, z2⟩ := maxL_mem ez
      refine ⟨p', bs, rfl, hq, List.length_pos_of_mem z1, fun w hw hle => ?_⟩
      have : w = z := Int.le_antisymm (z2 w hw) (hle z z1)
      rw [this]
      exact q F1 m1 H1 _ st g1 rv_int
    · cases er
  | min =>
    simp only [biR] at er
    split at er
    · rename_i ds hsq
      simp only [Option.bind_eq_some_iff, Option.map_eq_some_iff] at er
      obtain ⟨bs, eb, z, ez, rfl⟩ := er
      refine se_of (pe_callB (cr_min k.calm) hg hm b_min (pa_one hs) hn hd (star_cons hs) hpl_one) (go fun F1 m1 H1 v st g1 r1 => ?_)
      obtain ⟨p', vs, rfl, i1, hq⟩ := lseq_ok g1 r1 hsq
      have ev' := i1.intsOf eb
      subst ev'
      obtain ⟨z1, z2⟩ := minL_mem ez
      refine ⟨p', bs, rfl, hq, List.length_pos_of_mem z1, fun w hw hle => ?_⟩
      have : w = z := Int.le_antisymm (hle z z1) (z2 w hw)
      rw [this]
      exact q F1 m1 H1 _ st g1 rv_int
    · cases er
  | sorted =>
    simp only [biR] at er
    split at er
    · rename_i ds hsq
      simp only [Option.map_eq_some_iff] at er
      obtain ⟨bs, eb, rfl⟩ := er
      refine se_of (pe_callB cr_sortedI hg hm b_sorted (pa_one hs) hn hd (star_cons hs) hpl_one) (go fun F1 m1 H1 v st g1 r1 => ?_)
      obtain ⟨p', vs, rfl, i1, hq⟩ := lseq_ok g1 r1 hsq
      have ev' := i1.intsOf eb
      subst ev'
      refine ⟨p', bs, rfl, hq, fun ns' p2 hp hs hnew => ?_⟩
      have := sorted_one hp hs
      subst this
      obtain ⟨s3, g3, h3⟩ := mk_lst g1 (IsA.ofInts (K := X.K) (F := F1) (m := m1) (bs.mergeSort (fun a b => decide (a ≤ b)))) hnew (st.none hnew)
      exact q _ m1 _ _ (st.trans s3) g3 h3
    · cases er
end
end Co
end

section
set_option maxHeartbeats 0
set_option Elab.async false
set_option linter.all false
set_option maxRecDepth 100000
/-! Co7: two-place built-ins, isinstance, calls, instances, dict displays. -/
namespace Co
open PySem L2
section
variable {X : Cx} {c : Ctx} {cl : List Addr} {g : Gm} {a b e : Expr} {ca cb ce : CE} {τ : Env} {S S' S1 S2 S3 : Store} {F : Hp} {m : List Addr} {σ : St} {H : Hp} {x y r : Rv} {d : D} {ds : List D}

theorem snd_bi2 {f : Str} {fb : Bi2} {p pos : Pos} (k : Kn c cl g X) (hf : (fb = .max ∧ f = "max" ∧ g.isBi f = true) ∨ (fb = .min ∧ f = "min" ∧ g.isBi f = true) ∨ (fb = .gcd ∧ f = "gcd" ∧ g.isGl f = true ∧ g.gcd = true)) (hs : isStar a = false) (hs2 : isStar b = false) (sa : SndE X c cl a ca) (sb : SndE X c cl b cb) :
    SndE X c cl (.Call (.Name f p) [a, b] [] pos) (.bi2 fb ca cb) := by
  intro τ S r S' he F m σ H gg ev Q q
  simp only [evE] at he
  split at he
  rotate_left
  · cases he
  rename_i x S1 ea
  split at he
  rotate_left
  · cases he
  rename_i y S2 eb
  split at he
  rotate_left
  · cases he
  rename_i d ed
  cases he
  have h2 : (backTo pos (starEach [b] X.env)).any (·.1) = false := star_none (by simpa using hs2)
  have go : ∀ {rd : List V → Hp → VK → Prop}, (∀ F1 m1 H1 v w, Stp F m H F1 m1 H1 → G X.K cl F1 m1 S' H1 → RvOk X.K H F1 m1 H1 x v → RvOk X.K H F1 m1 H1 y w → rd [v, w] H1 Q) → tCB rd (tCons (SE X a) (tCons (SE X b) tNil)) σ H Q := fun hr => two sa sb ea eb gg ev hr
  rcases hf with ⟨rfl, rfl, hb⟩ | ⟨rfl, rfl, hb⟩ | ⟨rfl, rfl, hb, hgc⟩
  · obtain ⟨hg, hm, hd, hn⟩ := bi_ok k hb
    simp only [bi2R] at ed
    split at ed
    · rename_i i j h0
      cases h0; cases ed
      refine se_of (pe_callB (call_max2 k.calm) hg hm b_max (pa_two hs hs2) hn hd (star_cons hs) h2) (go fun F1 m1 H1 v w st g1 r1 r2 => ?_)
      rw [rvi_int r1, rvi_int r2]
      exact ⟨i, j, rfl, q F1 m1 H1 _ st g1 rv_int⟩
    all_goals first | (rename_i h0; cases h0) | (rename_i h0 _ _; cases h0) | cases ed
  · obtain ⟨hg, hm, hd, hn⟩ := bi_ok k hb
    simp only [bi2R] at ed
    split at ed
    all_goals first | (rename_i h0; cases h0; done) | skip
    all_goals first
      | (rename_i i j h0
         cases ed
         refine se_of (pe_callB (call_min2 k.calm) hg hm b_min (pa_two hs hs2) hn hd (star_cons hs) h2) (go fun F1 m1 H1 v w st g1 r1 r2 => ?_)
         rw [rvi_int r1, rvi_int r2]
         exact ⟨i, j, rfl, q F1 m1 H1 _ st g1 rv_int⟩)
      | cases ed
  · obtain ⟨hg, hd, hn⟩ := gl_ok k hb
    simp only [bi2R] at ed
    split at ed
    all_goals first | (rename_i h0; cases h0; done) | skip
    all_goals first
      | (rename_i i j h0
         cases ed
         refine se_of (pe_callBfun cr_gcd hg (k.gcd hgc) (pa_two hs hs2) hd (star_cons hs) h2) (go fun F1 m1 H1 v w st g1 r1 r2 => ?_)
         rw [rvi_int r1, rvi_int r2]
         exact ⟨i, j, rfl, q F1 m1 H1 _ st g1 rv_int⟩)
      | cases ed

/-! ### isinstance -/
/-- a value's class, as a name or an own one -/
def tyOfRv (cl : List Addr) (S : Store) : Rv → Option Value
  | .fz .non => some (.type "NoneType") | .fz (.bl _) => some (.type "bool") | .fz (.int _) => some (.type "int") | .fz (.str _) => some (.type "str")
  | .fz (.tup _) => some (.type "tuple") | .fz (.lst _) => some (.type "list") | .fz (.scr _) => some (.type "list") | .fr _ => some (.type "list") | .rd _ => some (.type "list")
  | .fz (.obj n) => match S[n]? with
    | some (.dk _) => some (.type "dict")
    | some (.ins c _) => (cl[c]?).map .ref
    | none => none
theorem tyx_of {v : V} {S : Store} {H0 : Hp} (k : Kn c cl g X) (gg : G X.K cl F m S H) (h : RvOk X.K H0 F m H x v) {b : Bool} {t : Ty} (hb : isTy S x t = some b) : ∃ tv, tyOfRv cl S x = some tv ∧ TyX X.K H v tv := by
  have lst : ∀ {p : Addr} {vs : List V}, SqL X.K H p vs → TyX X.K H (.ref p) (.type "list") := by
    intro p vs hq
    rcases hq with (hq | ⟨o, hq⟩) | ⟨o, its, n, hk, hc, _⟩
    · exact .base (.lst hq)
    · exact .base (.frz hq)
    · exact .kList hk hc
  cases x with
  | fz d =>
    cases d with
    | non => exact ⟨_, rfl, by rw [rvi_non h]; exact .base .non⟩
    | bl b => exact ⟨_, rfl, by rw [rvi_bl h]; exact .base (.bl b)⟩
    | int i => exact ⟨_, rfl, by rw [rvi_int h]; exact .base (.int i)⟩
    | str s => exact ⟨_, rfl, by rw [rvi_str h]; exact .base (.str s)⟩
    | tup ds =>
      have h : Is X.K F m _ v := h
      simp only [Is] at h
      obtain ⟨p, vs, rfl, k1, i1⟩ := h
      refine ⟨_, rfl, ?_⟩
      rcases same_t gg.sub k1 with (hq | ⟨o, hq⟩) | ⟨o, its, n, hk, hc, _⟩
      · exact .base (.tup hq)
      · exact .fTuple hq
      · exact .kTuple hk hc
    | lst ds =>
      have h : Is X.K F m _ v := h
      simp only [Is] at h
      obtain ⟨p, vs, rfl, k1, i1⟩ := h
      exact ⟨_, rfl, .base (.lst (gg.sub _ _ k1))⟩
    | scr ds =>
      have h : Is X.K F m _ v := h
      simp only [Is] at h
      obtain ⟨p, vs, rfl, k1, i1⟩ := h
      exact ⟨_, rfl, lst (same_l gg.sub k1)⟩
    | obj n =>
      have h : Is X.K F m _ v := h
      simp only [Is] at h
      obtain ⟨p, rfl, hp⟩ := h
      cases en : S[n]? with
      | none => simp only [isTy, en, reduceCtorEq] at hb
      | some o =>
        obtain ⟨_, q2⟩ := gg.ob n p _ hp en
        cases o with
        | dk kvs =>
          obtain ⟨ws, q3, _⟩ := q2
          exact ⟨_, by simp [tyOfRv, en], .base (.dK q3)⟩
        | ins c fs =>
          obtain ⟨C, dx, ws, q3, q4, _⟩ := q2
          exact ⟨.ref C, by simp [tyOfRv, en, q3], .base (.ins q4 (k.clsOk.cls c C q3) (k.clsOk.cla c C q3) k.clsOk.clg k.clsOk.clt (k.clsOk.mro c C q3))⟩
  | fr ds =>
    obtain ⟨p, vs, rfl, h3, _⟩ := h
    exact ⟨_, rfl, .base (.lst h3)⟩
  | rd ds =>
    obtain ⟨p, vs, rfl, h3, _⟩ := h
    exact ⟨_, rfl, .base (.lst h3)⟩
/-- the answer for one class -/
theorem kit_of_ty {S : Store} {tv : Value} {t : Ty} {b : Bool} {v u : _} (k : Kn c cl g X) (h1 : tyOfRv cl S x = some tv) (h2 : isTy S x t = some b) (h3 : tyV cl t = some (v, u)) : PySem.W.kitOne X.K tv u = some b := by
  have bb : ∀ {n : String} {w : Bool}, tv = .type n → (match t with | .int => kitB n "int" = some w | .bool => kitB n "bool" = some w | .str => kitB n "str" = some w | .tuple => kitB n "tuple" = some w | .list => kitB n "list" = some w | .own _ => False) → PySem.W.kitOne X.K tv u = some w := by
    rintro n w rfl hk
    cases t <;> simp only [tyV, Option.some.injEq, Prod.mk.injEq] at h3 hk
    all_goals first | (obtain ⟨_, rfl⟩ := h3; exact kit_ty hk) | exact hk.elim
  have own : ∀ {n : String} {cc : Nat}, tv = .type n → n ∈ ["int", "bool", "str", "tuple", "list", "NoneType", "dict"] → t = .own cc → PySem.W.kitOne X.K tv u = some false := by
    rintro n cc rfl hn rfl
    simp only [tyV, Option.map_eq_some_iff, Prod.mk.injEq] at h3
    obtain ⟨C, hC, _, rfl⟩ := h3
    exact k.clsOk.bo cc C n hC hn
  have fin : ∀ {n : String}, tv = .type n → n ∈ ["int", "bool", "str", "tuple", "list", "NoneType", "dict"] → (∀ t', t = t' → isTy S x t' = some b) → (match t with | .int => kitB n "int" = some b | .bool => kitB n "bool" = some b | .str => kitB n "str" = some b | .tuple => kitB n "tuple" = some b | .list => kitB n "list" = some b | .own _ => b = false) → PySem.W.kitOne X.K tv u = some b := by
    intro n e hn _ hm
    cases t with
    | own cc => simp only at hm; subst hm; exact own e hn rfl
    | int => exact bb e hm
    | bool => exact bb e hm
    | str => exact bb e hm
    | tuple => exact bb e hm
    | list => exact bb e hm
  cases x with
  | fz d =>
    cases d with
    | obj n =>
      simp only [tyOfRv] at h1
      simp only [isTy] at h2
      split at h1
      · rename_i kvs en
        rw [en] at h2
        simp only [Option.some.injEq] at h1 h2
        subst h2
        refine fin h1.symm (by simp) (fun _ _ => by simp [isTy, en]) ?_
        cases t <;> first | rfl | (show kitB _ _ = some false; decide +kernel)
      · rename_i cc fs en
        rw [en] at h2
        simp only [Option.map_eq_some_iff, Option.some.injEq] at h1 h2
        obtain ⟨C, hC, rfl⟩ := h1
        cases t with
        | own c2 =>
          simp only [tyV, Option.map_eq_some_iff, Prod.mk.injEq] at h3
          obtain ⟨C2, hC2, _, rfl⟩ := h3
          simp only at h2
          rw [k.clsOk.oo cc C c2 C2 hC hC2, ← h2]
        | int => simp only [tyV, Option.some.injEq, Prod.mk.injEq] at h3; obtain ⟨_, rfl⟩ := h3; simp only at h2; rw [k.clsOk.ob cc C "int" hC (by simp), ← h2]
        | bool => simp only [tyV, Option.some.injEq, Prod.mk.injEq] at h3; obtain ⟨_, rfl⟩ := h3; simp only at h2; rw [k.clsOk.ob cc C "bool" hC (by simp), ← h2]
        | str => simp only [tyV, Option.some.injEq, Prod.mk.injEq] at h3; obtain ⟨_, rfl⟩ := h3; simp only at h2; rw [k.clsOk.ob cc C "str" hC (by simp), ← h2]
        | tuple => simp only [tyV, Option.some.injEq, Prod.mk.injEq] at h3; obtain ⟨_, rfl⟩ := h3; simp only at h2; rw [k.clsOk.ob cc C "tuple" hC (by simp), ← h2]
        | list => simp only [tyV, Option.some.injEq, Prod.mk.injEq] at h3; obtain ⟨_, rfl⟩ := h3; simp only at h2; rw [k.clsOk.ob cc C "list" hC (by simp), ← h2]
      · cases h1
    | _ =>
      simp only [tyOfRv, Option.some.injEq] at h1
      simp only [isTy, Option.some.injEq] at h2
      refine fin h1.symm (by simp) (fun t' e => by subst e; simp only [isTy]; rw [h2]) ?_
      subst h2
      cases t <;> first | rfl | (show kitB _ _ = some _; decide +kernel)
  | fr ds =>
    simp only [tyOfRv, Option.some.injEq] at h1
    simp only [isTy, Option.some.injEq] at h2
    refine fin h1.symm (by simp) (fun t' e => by subst e; simp only [isTy]; rw [h2]) ?_
    subst h2
    cases t <;> first | rfl | (show kitB _ _ = some _; decide +kernel)
  | rd ds =>
    simp only [tyOfRv, Option.some.injEq] at h1
    simp only [isTy, Option.some.injEq] at h2
    refine fin h1.symm (by simp) (fun t' e => by subst e; simp only [isTy]; rw [h2]) ?_
    subst h2
    cases t <;> first | rfl | (show kitB _ _ = some _; decide +kernel)
theorem kits_of {S : Store} {tv : Value} (k : Kn c cl g X) (h1 : tyOfRv cl S x = some tv) : ∀ {ts : List Ty} {b : Bool} {us : List Value}, isTys S x ts = some b → Paired (fun t u => ∃ v, tyV cl t = some (v, u)) ts us → PySem.W.kitAny X.K tv us = some b
  | [], b, us, h, p => by cases p; simp [isTys] at h; subst h; exact kitAny_nil
  | t :: ts, b, us, h, p => by
    cases p with
    | cons p1 p2 =>
      obtain ⟨v, hv⟩ := p1
      simp only [isTys] at h
      split at h
      · rename_i z1 z2 e1 e2
        cases h
        exact kitAny_cons (kit_of_ty k h1 e1 hv) (fun e => by subst e; simpa using kits_of k h1 e2 p2) (fun e => by subst e; rfl)
      · cases h
/-- a class's name -/
theorem pe_ty {t : Str} {p : Pos} {ty : Ty} (k : Kn c cl g X) (h : clsTy g t = some ty) : ∃ v u, tyV cl ty = some (v, u) ∧ ClsV v u ∧ PE X (.Name t p) (tC v) := by
  unfold clsTy at h
  split at h
  · rename_i hb
    obtain ⟨hg, hm, hd, hn⟩ := bi_ok k hb
    unfold tyOf at h
    split at h
    · rename_i e; subst e; cases h; exact ⟨_, _, rfl, .ty _, pe_bltn hg hm b_int rfl hn hd⟩
    split at h
    · rename_i e; subst e; cases h; exact ⟨_, _, rfl, .ty _, pe_bltn hg hm b_bool rfl hn hd⟩
    split at h
    · rename_i e; subst e; cases h; exact ⟨_, _, rfl, .ty _, pe_bltn hg hm b_str rfl hn hd⟩
    split at h
    · rename_i e; subst e; cases h; exact ⟨_, _, rfl, .ty _, pe_bltn hg hm b_tuple rfl hn hd⟩
    split at h
    · rename_i e; subst e; cases h; exact ⟨_, _, rfl, .ty _, pe_bltn hg hm b_list rfl hn hd⟩
    · cases h
  · split at h
    · rename_i hb
      obtain ⟨hg, hd, hn⟩ := gl_ok k hb
      simp only [Option.map_eq_some_iff] at h
      obtain ⟨i, hi, rfl⟩ := h
      obtain ⟨C, hC, hm⟩ := k.cls t i hi
      exact ⟨.ref C, .ref C, by simp [tyV, hC], .own C, pe_glob hg hm rfl hd⟩
    · cases h
theorem pa_tys {g : Gm} (k : Kn c cl g X) : ∀ {ts : List Expr} {tys : List Ty}, tysOf g ts = some tys → ∃ (vs : List V) (us : List Value), Paired (fun t u => ∃ v, tyV cl t = some (v, u)) tys us ∧ Paired ClsV vs us ∧ PA X ts (fun _ H Q => Q vs H)
  | [], tys, h => by simp [tysOf] at h; subst h; exact ⟨[], [], .nil, .nil, pa_nil⟩
  | e :: ts, tys, h => by
    unfold tysOf at h
    split at h
    · cases ‹e :: ts = []›
    · rename_i t p r heq
      cases heq
      split at h
      · rename_i x y e1 e2
        cases h
        obtain ⟨v, u, h1, h2, h3⟩ := pe_ty (p := p) k e1
        obtain ⟨vs, us, p1, p2, p3⟩ := pa_tys k e2
        exact ⟨v :: vs, u :: us, .cons ⟨v, h1⟩ p1, .cons h2 p2, pa_cons h3 p3 (star_cons rfl)⟩
      · cases h
    · cases h
theorem snd_isi1 {t : Str} {ty : Ty} {p p2 pos : Pos} (k : Kn c cl g X) (hb : g.isBi "isinstance" = true) (ht : clsTy g t = some ty) (hs : isStar a = false) (sa : SndE X c cl a ca) :
    SndE X c cl (.Call (.Name "isinstance" p) [a, .Name t p2] [] pos) (.isi ca [ty]) := by
  intro τ S r S' he F m σ H gg ev Q q
  obtain ⟨hg, hm, hd, hn⟩ := bi_ok k hb
  simp only [evE] at he
  split at he
  rotate_left
  · cases he
  rename_i x S1 ea
  split at he
  rotate_left
  · cases he
  rename_i z ez
  cases he
  obtain ⟨v, u, h1, h2, h3⟩ := pe_ty (p := p2) k ht
  refine se_of (pe_callB call_isi hg hm b_isi (pa_cons pe_se (pa_cons h3 pa_nil (star_cons rfl)) (star_cons hs)) hn hd (star_cons hs) rfl) (sa τ S x _ ea F m σ H gg ev _ fun F1 m1 H1 w st g1 r1 => ?_)
  simp only [isTys] at ez
  split at ez
  · rename_i z1 z2 e1 e2
    cases ez
    cases e2
    obtain ⟨tv, h4, h5⟩ := tyx_of k g1 r1 e1
    exact ⟨w, v, tv, u, z1, rfl, h2, h5, kit_of_ty k h4 e1 h1, by have hh := q F1 m1 H1 (.bl (z1 || false)) st g1 rv_bl; simpa using hh⟩
  · cases ez
theorem snd_isiN {ts : List Expr} {tys : List Ty} {p p2 pos : Pos} {kk : Nat} (k : Kn c cl g X) (hb : g.isBi "isinstance" = true) (ht : tysOf g ts = some tys) (hz : tys.length ≤ 100) (hne : tys ≠ []) (hs : isStar a = false) (sa : SndE X c cl a ca) :
    SndE X c cl (.Call (.Name "isinstance" p) [a, .Tuple ts kk p2] [] pos) (.isi ca tys) := by
  intro τ S r S' he F m σ H gg ev Q q
  obtain ⟨hg, hm, hd, hn⟩ := bi_ok k hb
  simp only [evE] at he
  split at he
  rotate_left
  · cases he
  rename_i x S1 ea
  split at he
  rotate_left
  · cases he
  rename_i z ez
  cases he
  obtain ⟨vs, us, p1, p2', p3⟩ := pa_tys k ht
  refine se_of (pe_callB call_isiT hg hm b_isi (pa_cons pe_se (pa_cons (pe_tup p3) pa_nil (star_cons rfl)) (star_cons hs)) hn hd (star_cons hs) rfl) (sa τ S x _ ea F m σ H gg ev _ fun F1 m1 H1 w st g1 r1 => ?_)
  have hl : vs.length ≤ 100 := by rw [Paired.length p2', ← Paired.length p1]; exact hz
  refine ⟨Nat.le_trans hl (by decide), fun tp htp => ?_⟩
  obtain ⟨t, e1⟩ : ∃ b, isTy S' x (tys.head hne) = some b := by
    cases tys with
    | nil => exact absurd rfl hne
    | cons t ts' =>
      simp only [isTys] at ez
      split at ez
      · rename_i z1 z2 e1 e2; exact ⟨z1, e1⟩
      · cases ez
  have st2 := Stp.new (m := m1) (o := .tup vs) g1.sub htp
  have g2 := g1.new (o := .tup vs) htp
  obtain ⟨tv, h4, h5⟩ := tyx_of k g2 (r1.step st2) e1
  exact ⟨w, tp, vs, tv, us, z, rfl, upd_same, p2', h5, kits_of k h4 ez p1, q _ m1 _ _ (st.trans st2) g2 rv_bl⟩

/-! ### calls -/
theorem fn_body {i n : Nat} {E : XK} {es : List Expr} {cs : CA} {Q : VK} (sa : SndA X c cl es cs) (h6 : ∀ ds S r, c.call i ds S = some r → ds.length = n) (ea : evA c cs τ S = some (ds, S1)) (ed : c.call i ds S1 = some (d, S')) (gg : G X.K cl F m S H) (ev : EnvOk X.K F m τ σ H)
    (q : ∀ F' m' H' v, Stp F m H F' m' H' → G X.K cl F' m' S' H' → RvOk X.K H F' m' H' (.fz d) v → Q v H') : tCall (spC X.K cl c.call i n) [] E (SA X es) σ H Q := by
  refine sa τ S ds S1 ea F m σ H gg ev _ fun F1 m1 H1 vs st g1 i1 => ?_
  show spC X.K cl c.call i n (vs ++ []) H1 Q E
  rw [List.append_nil]
  exact ⟨ds, S1, d, S', F1, m1, h6 ds S1 _ ed, ed, g1, i1, fun F' m' H' v st' g' i' => q F' m' H' v (st.trans st') g' i'⟩
theorem snd_call {f : Str} {i : Nat} {e0 : Expr} {es : List Expr} {cs : CA} {p pos : Pos} (k : Kn c cl g X) (hg : g.isGl f = true) (hf : g.fns.lookup f = some i) (hst : ∀ e ∈ e0 :: es, isStar e = false) (sa : SndA X c cl (e0 :: es) cs) : SndE X c cl (.Call (.Name f p) (e0 :: es) [] pos) (.call i cs) := by
  intro τ S r S' he F m σ H gg ev Q q
  obtain ⟨hg, hd, hn⟩ := gl_ok k hg
  obtain ⟨fa, fd, ps, lev, h1, h2, h3, h4, h5, h6⟩ := k.fn f i hf
  simp only [evE] at he
  split at he
  rotate_left
  · cases he
  rename_i ds S1 ea
  split at he
  rotate_left
  · cases he
  rename_i d S2 ed
  cases he
  exact se_of (pe_call (E := E0) h5 h3 hg h1 h2 h4 .nil pass0 pa_sa hd (star_cons (hst e0 (by simp))) (star_none fun e' he' => hst e' (by simp [he']))) (fn_body sa h6 ea ed gg ev q)
theorem snd_call0 {f : Str} {i : Nat} {p pos : Pos} (k : Kn c cl g X) (hg : g.isGl f = true) (hf : g.fns.lookup f = some i) : SndE X c cl (.Call (.Name f p) [] [] pos) (.call i .nil) := by
  intro τ S r S' he F m σ H gg ev Q q
  obtain ⟨hg, hd, hn⟩ := gl_ok k hg
  obtain ⟨fa, fd, ps, lev, h1, h2, h3, h4, h5, h6⟩ := k.fn f i hf
  simp only [evE, evA] at he
  split at he
  rotate_left
  · cases he
  rename_i d S2 ed
  cases he
  refine se_of (pe_call0 (E := E0) h5 h3 hg h1 h2 h4 .nil pass0 hd) ?_
  exact ⟨[], S, d, S', F, m, h6 [] S _ ed, ed, gg, rfl, fun F' m' H' v st' g' i' => q F' m' H' v st' g' i'⟩

/-! ### a new object -/
theorem ObIs.grow {K : PySem.W.Frag} {o : Ob} {p a : Addr} {ho : HO} (h : ObIs K cl F m H a o) (ha : a ≠ p) (hq : ∀ a, H p ≠ some (.own a)) : ObIs K cl F (m ++ [p]) (upd H p ho) a o := by
  cases o with
  | dk kvs => obtain ⟨ws, h1, h2⟩ := h; exact ⟨ws, by rw [upd_ne ha]; exact h1, h2.mono (Same.refl _) ⟨[p], rfl⟩⟩
  | ins k fs =>
    obtain ⟨C, dx, ws, h0, h1, h2, h3, h4⟩ := h
    have hdx : dx ≠ p := fun e => hq a (e ▸ h2)
    exact ⟨C, dx, ws, h0, by rw [upd_ne ha]; exact h1, by rw [upd_ne hdx]; exact h2, by simp [h3, hdx], h4.mono (Same.refl _) ⟨[p], rfl⟩⟩
theorem G.join {K : PySem.W.Frag} {o : Ob} {p : Addr} {ho : HO} (gg : G K cl F m S H) (hp : p ∉ m) (fp : F p = none) (hq : ∀ a, H p ≠ some (.own a)) (hob : ObIs K cl F (m ++ [p]) (upd H p ho) p o) : G K cl F (m ++ [p]) (S ++ [o]) (upd H p ho) := by
  refine ⟨fun a u h => ?_, by simp [gg.len], ?_, fun i a o' h1 h2 => ?_⟩
  · rw [upd_ne (fun z => by rw [z, fp] at h; cases h)]; exact gg.sub a u h
  · rw [List.nodup_append]
    exact ⟨gg.nd, by simp, fun a ha b hb e => by simp at hb; subst hb; subst e; exact hp ha⟩
  · by_cases hi : i < m.length
    · rw [List.getElem?_append_left hi] at h1
      rw [List.getElem?_append_left (by rw [gg.len]; exact hi)] at h2
      obtain ⟨q1, q2⟩ := gg.ob i a o' h1 h2
      exact ⟨q1, q2.grow (fun z => hp (z ▸ List.mem_of_getElem? h1)) hq⟩
    · have hi' : m.length ≤ i := Nat.le_of_not_lt hi
      rw [List.getElem?_append_right hi'] at h1
      rw [List.getElem?_append_right (by rw [gg.len]; exact hi')] at h2
      rw [gg.len] at h2
      cases hz : i - m.length with
      | zero => rw [hz] at h1 h2; simp at h1 h2; subst h1; subst h2; exact ⟨fp, hob⟩
      | succ n => rw [hz] at h1; simp at h1
theorem Stp.join {F2 H2 : Hp} {m2 : List Addr} {p : Addr} {ho : HO} (st : Stp F m H F2 m2 H2) (hp : H p = Option.none) : Stp F m H F2 (m2 ++ [p]) (upd H2 p ho) := by
  refine ⟨st.sub, ?_, fun a o h hn => ?_, st.nof, fun a h => ?_, fun a h => ?_⟩
  · obtain ⟨l, rfl⟩ := st.pre
    exact ⟨l ++ [p], by simp⟩
  · rw [upd_ne (fun z => by rw [z, hp] at h; cases h)]; exact st.keep a o h hn
  · rcases List.mem_append.mp h with h | h
    · exact st.newm a h
    · simp at h; subst h; exact .inr hp
  · by_cases e : a = p
    · subst e; rw [upd_same]; exact fun z => nomatch z
    · rw [upd_ne e]; exact st.stay a h

/-! ### instances -/
theorem made {K : PySem.W.Frag} {C x dx : Addr} {kc : Nat} (gg : G K cl F m S H) (hC : cl[kc]? = some C) (hx : H x = none) (hd : H dx = none) (hne : dx ≠ x) :
    Stp F m H F (m ++ [x]) (upd (upd H dx (.own x)) x (.ins C dx [])) ∧ G K cl F (m ++ [x]) (S ++ [.ins kc []]) (upd (upd H dx (.own x)) x (.ins C dx [])) ∧ (m ++ [x])[S.length]? = some x := by
  have g1 := gg.lay (o := .own x) hd
  have st1 : Stp F m H F m (upd H dx (.own x)) := Stp.lay hd
  have hx1 : (upd H dx (.own x)) x = none := by rw [upd_ne (Ne.symm hne)]; exact hx
  have fx : F x = none := by
    cases q : F x with
    | none => rfl
    | some u => rw [gg.sub x u q] at hx; cases hx
  refine ⟨st1.join hx, g1.join (gg.notin hx) fx (fun a => by rw [hx1]; exact fun z => nomatch z) ⟨C, dx, [], hC, upd_same, by rw [upd_ne hne]; exact upd_same, ?_, rfl⟩, by rw [gg.len]; simp⟩
  have h1 := gg.notin hd
  simp [h1, hne]
theorem snd_mk0 {f : Str} {i : Nat} {p pos : Pos} (k : Kn c cl g X) (hg : g.isGl f = true) (hf : g.clss.lookup f = some i) : SndE X c cl (.Call (.Name f p) [] [] pos) (.mk i .nil) := by
  intro τ S r S' he F m σ H gg ev Q q
  obtain ⟨hg, hd, hn⟩ := gl_ok k hg
  simp only [evE, evA] at he
  split at he
  · rename_i eio
    simp only [if_true, Option.some.injEq, Prod.mk.injEq] at he
    obtain ⟨rfl, rfl⟩ := he
    obtain ⟨C, hC, hm, mk, hi⟩ := k.mkc f i _ hf eio
    refine se_of (pe_makeN mk.makes hi mk.kp (k.clsOk.mro i C hC) hg hm hd) fun a dx h1 h2 h3 => ?_
    obtain ⟨st, g1, h4⟩ := made gg hC h1 h2 h3
    refine q _ _ _ _ st g1 ?_
    show Is _ _ _ _ _
    simp only [Is]
    exact ⟨a, rfl, h4⟩
  · rename_i j eio
    split at he
    · rename_i S2 ed
      cases he
      obtain ⟨C, hC, hm, mk, fa, fd, ps, lev, q1, q2, q3, q4, q5, q6⟩ := k.mkc f i _ hf eio
      refine se_of (pe_make0 (E := E0) ⟨mk.makes, q1, q2, mk.kp⟩ q5 q3 hg hm q4 .nil pass0 hd) fun x dx h1 h2 h3 => ?_
      obtain ⟨st, g1, h4⟩ := made gg hC h1 h2 h3
      refine ⟨[.obj S.length], _, .non, S', F, _, q6 _ _ _ ed, ed, g1, IsA.one (by simp only [Is]; exact ⟨x, rfl, h4⟩), fun F' m' H' v st' g' i' => ⟨is_non.mp i', ?_⟩⟩
      refine q F' m' H' _ (st.trans st') g' ?_
      exact st'.is (by simp only [Is]; exact ⟨x, rfl, h4⟩)
    · cases he
  · cases he
theorem snd_mk {f : Str} {i : Nat} {e0 : Expr} {es : List Expr} {ce : CE} {cs : CA} {p pos : Pos} (k : Kn c cl g X) (hg : g.isGl f = true) (hf : g.clss.lookup f = some i) (hst : ∀ e ∈ e0 :: es, isStar e = false) (sa : SndA X c cl (e0 :: es) (.cons ce cs)) : SndE X c cl (.Call (.Name f p) (e0 :: es) [] pos) (.mk i (.cons ce cs)) := by
  intro τ S r S' he F m σ H gg ev Q q
  obtain ⟨hg, hd, hn⟩ := gl_ok k hg
  simp only [evE] at he
  split at he
  rotate_left
  · cases he
  rename_i ds S1 ea
  have hne : ds ≠ [] := by
    rintro rfl
    simp only [evA] at ea
    split at ea
    · split at ea
      · split at ea <;> cases ea
      · cases ea
    · cases ea
  split at he
  · rw [if_neg hne] at he; cases he
  · rename_i j eio
    split at he
    · rename_i S2 ed
      cases he
      obtain ⟨C, hC, hm, mk, fa, fd, ps, lev, q1, q2, q3, q4, q5, q6⟩ := k.mkc f i _ hf eio
      refine se_of (pe_make (E := E0) ⟨mk.makes, q1, q2, mk.kp⟩ q5 q3 hg hm q4 .nil pass0 pa_sa hd (star_cons (hst e0 (by simp))) (star_none fun e' he' => hst e' (by simp [he']))) ?_
      refine sa τ S ds S1 ea F m σ H gg ev _ fun F1 m1 H1 vs st1 g1 i1 x dx h1 h2 h3 => ?_
      obtain ⟨st, g2, h4⟩ := made g1 hC h1 h2 h3
      have io : Is X.K F1 (m1 ++ [x]) (.obj S1.length) (.ref x) := by simp only [Is]; exact ⟨x, rfl, h4⟩
      refine ⟨.obj S1.length :: ds, _, .non, S', F1, _, q6 _ _ _ ed, ed, g2, ?_, fun F' m' H' v st' g' i' => ⟨is_non.mp i', ?_⟩⟩
      · rw [List.append_nil]
        exact (IsA.one io).app (st.isA i1)
      · exact q F' m' H' _ ((st1.trans st).trans st') g' (st'.is io)
    · cases he
  · cases he
theorem snd_attr {f : Str} {pos : Pos} (k : Kn c cl g X) (ho : okBase a = true) (hf : f ∈ g.atrs) (sa : SndE X c cl a ca) : SndE X c cl (.Attribute a f pos) (.attr ca f) := by
  intro τ S r S' he F m σ H gg ev Q q
  simp only [evE] at he
  split at he
  rotate_left
  · cases he
  rename_i n S1 ea
  split at he
  rotate_left
  · cases he
  rename_i kc fs en
  split at he
  rotate_left
  · cases he
  rename_i d ed
  cases he
  have hb : attributeBase a f X.env (eval a X.env) = eval a X.env := by
    cases a <;> first | rfl | (exact absurd ho Bool.false_ne_true)
  refine se_of (pe_fld pe_se hb) (sa τ S _ _ ea F m σ H gg ev _ fun F1 m1 H1 v st g1 r1 => ?_)
  have h : Is X.K F1 m1 (.obj n) v := r1
  simp only [Is] at h
  obtain ⟨p, rfl, hp⟩ := h
  obtain ⟨_, C, dx, ws, q3, q4, q5, q6, q7⟩ := g1.ob n p _ hp en
  obtain ⟨w, h1, h2⟩ := KIs.look q7 ed
  exact ⟨p, C, dx, ws, w, rfl, q4, k.clsOk.cls kc C q3, k.atr kc C f q3 hf, h1, q F1 m1 H1 w st g1 h2⟩

/-! ### dict displays -/
def SndL (X : Cx) (c : Ctx) (cl : List Addr) : List Expr → CA → Prop
  | [], .nil => True
  | e :: es, .cons ce cs => SndE X c cl e ce ∧ SndL X c cl es cs
  | _, _ => False
theorem snda_of : ∀ {es : List Expr} {cs : CA}, SndL X c cl es cs → (∀ e ∈ es, isStar e = false) → SndA X c cl es cs
  | [], .nil, _, _ => snda_nil
  | e :: es, .cons ce cs, h, hs => snda_cons (hs e (by simp)) h.1 (snda_of h.2 fun e' h' => hs e' (by simp [h']))
  | [], .cons _ _, h, _ => h.elim
  | _ :: _, .nil, h, _ => h.elim
def kT (X : Cx) : Key → TE
  | .inl i => tC (.int i)
  | .inr x => tC (.str x)
def dpT (X : Cx) : List Key → List Expr → List (TE × TE)
  | k :: ks, e :: es => (kT X k, SE X e) :: dpT X ks es
  | _, _ => []
theorem pps_of {pos : Pos} : ∀ {ks : List (Option Expr)} {keys : List Key} {vs : List Expr}, keysOf ks = some keys → keys.length = vs.length → PPs X pos ks vs (dpT X keys vs)
  | [], keys, vs, h, hl => by
    simp [keysOf] at h; subst h
    cases vs with
    | nil => exact pps_nil
    | cons _ _ => simp at hl
  | some e :: r, keys, vs, h, hl => by
    unfold keysOf at h
    split at h
    · cases ‹some e :: r = []›
    · rename_i x j p r' heq
      cases heq
      simp only [Option.map_eq_some_iff] at h
      obtain ⟨ks', h1, rfl⟩ := h
      cases vs with
      | nil => simp at hl
      | cons v vs => exact pps_cons pe_str pe_se (pps_of h1 (by simpa using hl))
    · rename_i x j p r' heq
      cases heq
      simp only [Option.map_eq_some_iff] at h
      obtain ⟨ks', h1, rfl⟩ := h
      cases vs with
      | nil => simp at hl
      | cons v vs => exact pps_cons pe_int pe_se (pps_of h1 (by simpa using hl))
    · cases h
  | none :: r, keys, vs, h, hl => by simp [keysOf] at h
theorem kT_ok {k : Key} {Q : VK} (q : Q (kV k) H) : kT X k σ H Q := by cases k <;> exact q
theorem pairs_ok : ∀ {keys : List Key} {es : List Expr} {cs : CA} {ds : List D} {S S' : Store} {F : Hp} {m : List Addr} {H : Hp} {R : List (V × V) → Hp → Prop}, SndL X c cl es cs → keys.length = es.length → evA c cs τ S = some (ds, S') → G X.K cl F m S H → EnvOk X.K F m τ σ H →
    (∀ F' m' H' (kws : List (Key × V)), Stp F m H F' m' H' → G X.K cl F' m' S' H' → KIs X.K F' m' (keys.zip ds) kws → kws.map (·.1) = keys → R (kws.map fun kv => (kV kv.1, kv.2)) H') → tPairs (dpT X keys es) σ H R
  | [], [], .nil, ds, S, S', F, m, H, R, _, _, ea, gg, ev, q => by
    simp only [evA, Option.some.injEq, Prod.mk.injEq] at ea
    obtain ⟨rfl, rfl⟩ := ea
    exact q F m H [] Stp.refl gg rfl rfl
  | k :: keys, e :: es, .cons ce cs, ds, S, S', F, m, H, R, hs, hl, ea, gg, ev, q => by
    simp only [evA] at ea
    split at ea
    rotate_left
    · cases ea
    rename_i x S1 ex
    split at ea
    rotate_left
    · cases ea
    rename_i d ed
    split at ea
    rotate_left
    · cases ea
    rename_i ds' S2 ea'
    cases ea
    refine kT_ok (Q := _) ?_
    refine hs.1 τ S x S1 ex F m σ H gg ev _ fun F1 m1 H1 v st g1 r1 => ?_
    obtain ⟨F1', st', g1', sub, i1⟩ := keep_ok st g1 r1 ed
    refine pairs_ok hs.2 (by simpa using hl) ea' g1' (ev.step st') fun F2 m2 H2 kws st2 g2 i2 ek => ?_
    exact q F2 m2 H2 ((k, v) :: kws) (st'.trans st2) g2 ⟨v, kws, rfl, st2.is i1, i2⟩ (by simp [ek])
  | [], _ :: _, _, _, _, _, _, _, _, _, _, hl, _, _, _, _ => by simp at hl
  | _ :: _, [], _, _, _, _, _, _, _, _, _, hl, _, _, _, _ => by simp at hl
  | [], [], .cons _ _, _, _, _, _, _, _, _, h, _, _, _, _, _ => h.elim
  | _ :: _, _ :: _, .nil, _, _, _, _, _, _, _, h, _, _, _, _, _ => h.elim
theorem putK_new {kvs : List (Key × V)} {k : Key} {v : V} (h : k ∉ kvs.map (·.1)) : putK kvs k v = kvs ++ [(k, v)] := by
  unfold putK
  rw [if_neg]
  intro z
  rw [List.any_eq_true] at z
  obtain ⟨kv, h1, h2⟩ := z
  exact h (List.mem_map.mpr ⟨kv, h1, by simpa using h2⟩)
theorem mergeK_new : ∀ {more kvs : List (Key × V)}, (kvs.map (·.1) ++ more.map (·.1)).Nodup → mergeK kvs more = kvs ++ more
  | [], kvs, _ => by simp [mergeK]
  | p :: more, kvs, h => by
    have hn : p.1 ∉ kvs.map (·.1) := by
      rw [List.nodup_append] at h
      exact fun z => h.2.2 _ z p.1 (by simp) rfl
    show mergeK (putK kvs p.1 p.2) more = _
    rw [putK_new hn, mergeK_new (by simpa using h)]
    simp
theorem keysOf_len : ∀ {ks : List (Option Expr)} {keys : List Key}, keysOf ks = some keys → ks.length = keys.length ∧ ks.all (·.isSome) = true
  | [], keys, h => by simp [keysOf] at h; subst h; exact ⟨rfl, rfl⟩
  | some e :: r, keys, h => by
    unfold keysOf at h
    split at h
    · cases ‹some e :: r = []›
    · rename_i heq
      cases heq
      simp only [Option.map_eq_some_iff] at h
      obtain ⟨ks', h1, rfl⟩ := h
      obtain ⟨q1, q2⟩ := keysOf_len h1
      exact ⟨by simp [q1], by simpa using q2⟩
    · rename_i heq
      cases heq
      simp only [Option.map_eq_some_iff] at h
      obtain ⟨ks', h1, rfl⟩ := h
      obtain ⟨q1, q2⟩ := keysOf_len h1
      exact ⟨by simp [q1], by simpa using q2⟩
    · cases h
  | none :: r, keys, h => by simp [keysOf] at h
theorem sndl_len : ∀ {es : List Expr} {cs : CA} {ds : List D} {S S' : Store}, SndL X c cl es cs → evA c cs τ S = some (ds, S') → ds.length = es.length
  | [], .nil, ds, S, S', _, e => by simp [evA] at e; rw [e.1]; rfl
  | e :: es, .cons ce cs, ds, S, S', h, ea => by
    simp only [evA] at ea
    split at ea
    rotate_left
    · cases ea
    split at ea
    rotate_left
    · cases ea
    split at ea
    rotate_left
    · cases ea
    rename_i ea'
    cases ea
    simp [sndl_len h.2 ea']
  | [], .cons _ _, _, _, _, h, _ => h.elim
  | _ :: _, .nil, _, _, _, h, _ => h.elim
theorem snd_dct {ks : List (Option Expr)} {keys : List Key} {es : List Expr} {cs : CA} {pos : Pos} (hk : keysOf ks = some keys) (hs : SndL X c cl es cs) : SndE X c cl (.Dict ks es pos) (.dct keys cs) := by
  intro τ S r S' he F m σ H gg ev Q q
  simp only [evE] at he
  split at he
  rotate_left
  · cases he
  rename_i ds S1 ea
  split at he <;> cases he
  rename_i hc
  obtain ⟨hl, h15, hnd⟩ := hc
  have hle := sndl_len hs ea
  obtain ⟨hkl, hall⟩ := keysOf_len hk
  by_cases h0 : ks = []
  · subst h0
    simp [keysOf] at hk; subst hk
    have e1 : ds = [] := List.eq_nil_of_length_eq_zero (by simpa using hl)
    subst e1
    have e2 : es = [] := List.eq_nil_of_length_eq_zero (by simpa using hle.symm)
    subst e2
    cases cs with
    | cons _ _ => exact hs.elim
    | nil =>
      simp [evA] at ea
      subst ea
      refine se_of pe_dnewK fun p hp => ?_
      have fp : F p = none := by
        cases h : F p with
        | none => rfl
        | some u => rw [gg.sub p u h] at hp; cases hp
      refine q F (m ++ [p]) _ _ (Stp.join .refl hp) (gg.join (gg.notin hp) fp (fun a => by rw [hp]; exact fun z => nomatch z) ⟨[], upd_same, rfl⟩) ?_
      show Is _ _ _ _ _
      simp only [Is]
      exact ⟨p, rfl, by rw [gg.len]; simp⟩
  · refine se_of (pe_disp (pps_of hk (by omega)) hall (by omega) h0 (by omega)) fun p hp => ?_
    have g1 := gg.lay (o := .dK []) hp
    have st1 : Stp F m H F m (upd H p (.dK [])) := Stp.lay hp
    refine pairs_ok hs (by omega) ea g1 (ev.step st1) fun F2 m2 H2 kws st2 g2 i2 ek => ?_
    have hpm : p ∉ m := gg.notin hp
    have fp : F p = none := by
      cases h : F p with
      | none => rfl
      | some u => rw [gg.sub p u h] at hp; cases hp
    have hp1 : (upd H p (.dK [])) p ≠ none := by rw [upd_same]; exact fun z => nomatch z
    have h2p : H2 p = some (.dK []) := st2.keep p _ upd_same hpm
    have fp2 : F2 p = none := st2.nof p hp1 fp
    have hpm2 : p ∉ m2 := fun z => (st2.newm p z).elim hpm hp1
    refine ⟨h2p, kws, rfl, by rw [← i2.len, List.length_zip]; omega, ?_⟩
    have em : mergeK [] kws = kws := by rw [mergeK_new (by simpa [ek] using hnd)]; rfl
    rw [em]
    refine q F2 (m2 ++ [p]) _ _ ((st1.trans st2).join hp) (g2.join hpm2 fp2 (fun a => by rw [h2p]; exact fun z => nomatch z) ⟨kws, upd_same, i2.mono (Same.refl _) ⟨[p], rfl⟩⟩) ?_
    show Is _ _ _ _ _
    simp only [Is]
    exact ⟨p, rfl, by rw [g2.len]; simp⟩
end
end Co
end

section
set_option maxHeartbeats 0
set_option Elab.async false
set_option linter.all false
set_option maxRecDepth 100000
/-! Co8: what a loop walks, targets, list comprehensions. -/
namespace Co
open PySem L2

/-! ### reading an iterable -/
def SI (X : Cx) (tg it : Expr) : TI := fun σ H R => ∀ pins s, Inv X pins σ H s → wpAny (model X.prog X.w) X.A (eval it X.env) (fun v s1 => wpAny (model X.prog X.w) X.A (pyIter v) (PIE X pins σ tg R) X.xe s1) X.xe s
section
variable {X : Cx} {tg it : Expr} {σ : St} {H : Hp}
theorem pi_si : PI X tg it (SI X tg it) := ⟨fun pins s _ _ _ I h => h pins s I⟩
theorem si_of {wi : TI} (h : PI X tg it wi) {R : It → Hp → Prop} (q : wi σ H R) : SI X tg it σ H R := fun pins s I => h.run pins s σ H R I q
end
/-- what a walk's source asks of a later heap -/
def Stay (b : Bool) (F : Hp) (m : List Addr) (H H2 : Hp) : Prop := Same F H2 ∧ (b = false → ∀ a o, H a = some o → a ∉ m → H2 a = some o)
def Wk (K : PySem.W.Frag) (cl : List Addr) (b : Bool) (ds : List D) (F' : Hp) (m' : List Addr) (H' : Hp) (J : It) : Prop :=
  ∃ Gd Y, Walk J ds.length Gd Y ∧ (∀ H2, Stay b F' m' H' H2 → Gd H2) ∧
    ∀ F2 m2 S2 H2 i x H3, Same F' F2 → (∃ l, m2 = m' ++ l) → G K cl F2 m2 S2 H2 → i < ds.length → Y i H2 x H3 → ∃ d F3, ds[i]? = some d ∧ Stp F2 m2 H2 F3 m2 H3 ∧ G K cl F3 m2 S2 H3 ∧ Is K F3 m2 d x
def SndI (X : Cx) (c : Ctx) (cl : List Addr) (tg : Expr) (b : Bool) (e : Expr) (ci : CI) : Prop := ∀ τ S ds S', evI c b ci τ S = some (ds, S') → ∀ F m σ H, G X.K cl F m S H → EnvOk X.K F m τ σ H →
  ∀ R : It → Hp → Prop, (∀ F' m' H' J, Stp F m H F' m' H' → G X.K cl F' m' S' H' → Wk X.K cl b ds F' m' H' J → R J H') → SI X tg e σ H R

section
variable {X : Cx} {c : Ctx} {cl : List Addr} {g : Gm} {a e tg : Expr} {ca cb ce : CE} {τ : Env} {S S' S1 S2 S3 : Store} {F F' H' H0 F0 F1 H1 : Hp} {m m' m0 m1 : List Addr} {σ : St} {H : Hp} {x y r : Rv} {d : D} {ds es : List D} {b : Bool} {K : PySem.W.Frag} {v : V} {vs ws : List V}

/-- its items, kept -/
theorem seqB_ok (st : Stp F0 m0 H0 F m H) (g : G K cl F m S H) (h : RvOk K H0 F m H x v) (e : x.seqB b = some ds) : ∃ F' a vs, Stp F0 m0 H0 F' m H ∧ G K cl F' m S H ∧ Same F F' ∧ v = .ref a ∧ IsA K F' m ds vs ∧
    ((x.isT = false ∧ ∀ H2, Stay b F' m H H2 → SqL K H2 a vs) ∨ (x.isT = true ∧ ∀ H2, Stay b F' m H H2 → SqT K H2 a vs)) := by
  cases x with
  | fz z =>
    cases z <;> simp [Rv.seqB, Rv.seq] at e
    · subst e
      have h : Is K F m _ v := h
      simp only [Is] at h
      obtain ⟨a, vs, rfl, h1, h2⟩ := h
      exact ⟨F, a, vs, st, g, Same.refl _, rfl, h2, .inr ⟨rfl, fun H2 hs => same_t hs.1 h1⟩⟩
    · subst e
      have h : Is K F m _ v := h
      simp only [Is] at h
      obtain ⟨a, vs, rfl, h1, h2⟩ := h
      exact ⟨F, a, vs, st, g, Same.refl _, rfl, h2, .inl ⟨rfl, fun H2 hs => .of (hs.1 _ _ h1)⟩⟩
    · subst e
      have h : Is K F m _ v := h
      simp only [Is] at h
      obtain ⟨a, vs, rfl, h1, h2⟩ := h
      exact ⟨F, a, vs, st, g, Same.refl _, rfl, h2, .inl ⟨rfl, fun H2 hs => same_l hs.1 h1⟩⟩
  | fr z =>
    simp [Rv.seqB, Rv.seq] at e; subst e
    obtain ⟨p, us, rfl, h3, h1, h2, h0, h4⟩ := h
    exact ⟨upd F p (.lst us), p, us, st.frz h3 h1 h0, g.frz h3 h1 h2, same_new h1, rfl, IsA.mono (same_new h1) ⟨[], by simp⟩ _ _ h4, .inl ⟨rfl, fun H2 hs => .of (hs.1 _ _ upd_same)⟩⟩
  | rd z =>
    simp only [Rv.seqB] at e
    split at e
    · cases e
    rename_i hb
    simp only [Option.some.injEq] at e; subst e
    obtain ⟨p, us, rfl, h3, h1, h2, h4⟩ := h
    exact ⟨F, p, us, st, g, Same.refl _, rfl, h4, .inl ⟨rfl, fun H2 hs => .of (hs.2 (by simpa using hb) p _ h3 h2)⟩⟩

/-! ### walks -/
theorem wk_at {J : It} {Gd : Hp → Prop} (w : Walk J vs.length Gd (YAt vs)) (hi : IsA K F' m' ds vs) (hg : ∀ H2, Stay b F' m' H' H2 → Gd H2) : Wk K cl b ds F' m' H' J := by
  refine ⟨Gd, YAt vs, by rw [hi.len]; exact w, hg, fun F2 m2 S2 H2 i x H3 hs hp g2 hl hy => ?_⟩
  obtain ⟨rfl, h1⟩ := hy
  have hd : ds[i]? = some ds[i] := by simp [hl]
  obtain ⟨w, h2, h3⟩ := hi.get hd
  rw [h1] at h2; cases h2
  exact ⟨ds[i], F2, hd, Stp.refl, g2, Is.mono hs hp _ _ h3⟩
theorem wk_pair {J : It} {Gd : Hp → Prop} {xs ys : Nat → Option V} {n : Nat} (w : Walk J n Gd (YPair xs ys)) (hn : ds.length = n) (hg : ∀ H2, Stay b F' m' H' H2 → Gd H2)
    (hi : ∀ i, i < n → ∃ d1 d2, ds[i]? = some (.tup [d1, d2]) ∧ (∀ v, xs i = some v → Is K F' m' d1 v) ∧ (∀ v, ys i = some v → Is K F' m' d2 v)) : Wk K cl b ds F' m' H' J := by
  refine ⟨Gd, YPair xs ys, by rw [hn]; exact w, hg, fun F2 m2 S2 H2 i x H3 hs hp g2 hl hy => ?_⟩
  obtain ⟨T, u, w, rfl, h1, rfl, h2, h3⟩ := hy
  obtain ⟨d1, d2, e, q1, q2⟩ := hi i (by omega)
  refine ⟨_, upd F2 T (.tup [u, w]), e, Stp.new g2.sub h1, g2.new h1, ?_⟩
  have sm : Same F2 (upd F2 T (.tup [u, w])) := (Stp.new (m := m2) (o := .tup [u, w]) g2.sub h1).sub
  simp only [Is]
  refine ⟨T, [u, w], rfl, .of upd_same, ?_⟩
  simp only [IsA]
  exact ⟨u, [w], rfl, Is.mono (hs.trans sm) hp _ _ (q1 u h2), w, [], rfl, Is.mono (hs.trans sm) hp _ _ (q2 w h3), rfl⟩
theorem walk_zipT {a b : Addr} {xs ys : List V} {n : Nat} (hn : n = min xs.length ys.length) : Walk (RZ.ItzT K a b) n (fun H => SqT K H a xs ∧ SqT K H b ys) (YPair (fun i => xs[i]?) (fun i => ys[i]?)) := by
  subst hn
  refine ⟨fun i _ hi q => ?_, fun _ q => ⟨xs, ys, q.1, q.2, by omega⟩, fun i H v H' _ q y => ?_⟩
  · have h1 : i < xs.length := by omega
    have h2 : i < ys.length := by omega
    exact ⟨xs, ys, xs[i], ys[i], q.1, q.2, by simp [h1], by simp [h2]⟩
  · obtain ⟨T, x, z, h1, h2, h3, h4, h5⟩ := y
    exact ⟨T, x, z, h1, h2, h3, h4 xs q.1, h5 ys q.2⟩
theorem wk_range {lo : Int} {n : Nat} : Wk K cl b ((List.range n).map fun k : Nat => D.int (lo + (k : Int))) F' m' H' (Itr lo n) := by
  refine ⟨_, _, by simpa using (walk_range (lo := lo) (n := n)), fun _ _ => True.intro, fun F2 m2 S2 H2 i x H3 hs hp g2 hl hy => ?_⟩
  obtain ⟨rfl, rfl⟩ := hy
  have hl' : i < n := by simpa using hl
  exact ⟨_, F2, by simp [hl'], Stp.refl, g2, is_int.mpr rfl⟩

/-! ### iterables -/
theorem stay_refl (gg : G K cl F m S H) : Stay b F m H H := ⟨gg.sub, fun _ a o h _ => h⟩
theorem sndi_seq (se : SndE X c cl e ce) : SndI X c cl tg b e (.seq ce) := by
  intro τ S ds S' he F m σ H gg ev R q
  simp only [evI] at he
  split at he
  rotate_left
  · cases he
  rename_i x S1 ex
  split at he
  rotate_left
  · cases he
  rename_i ds' ed
  cases he
  cases ht : x.isT with
  | false =>
    refine si_of (pi_list pe_se) (se τ S x _ ex F m σ H gg ev _ fun F1 m1 H1 v st g1 r1 => ?_)
    obtain ⟨F2, a, vs, st2, g2, sm, rfl, hi, hh⟩ := seqB_ok st g1 r1 ed
    rcases hh with ⟨_, hh⟩ | ⟨h2, _⟩
    · exact ⟨a, rfl, ⟨vs, hh _ (stay_refl g2)⟩, q F2 m1 H1 _ st2 g2 (wk_at walk_list hi hh)⟩
    · rw [ht] at h2; cases h2
  | true =>
    refine si_of (pi_tup pe_se) (se τ S x _ ex F m σ H gg ev _ fun F1 m1 H1 v st g1 r1 => ?_)
    obtain ⟨F2, a, vs, st2, g2, sm, rfl, hi, hh⟩ := seqB_ok st g1 r1 ed
    rcases hh with ⟨h2, _⟩ | ⟨_, hh⟩
    · rw [ht] at h2; cases h2
    · exact ⟨a, rfl, ⟨vs, hh _ (stay_refl g2)⟩, q F2 m1 H1 _ st2 g2 (wk_at walk_tup hi hh)⟩
theorem sndi_rng1 {p pos : Pos} (k : Kn c cl g X) (hb : g.isBi "range" = true) (hs : isStar a = false) (sa : SndE X c cl a ca) : SndI X c cl tg b (.Call (.Name "range" p) [a] [] pos) (.rng1 ca) := by
  intro τ S ds S' he F m σ H gg ev R q
  obtain ⟨hg, hm, hd, hn⟩ := bi_ok k hb
  simp only [evI] at he
  split at he
  rotate_left
  · cases he
  rename_i j S1 ex
  split at he
  rotate_left
  · cases he
  rename_i hj
  cases he
  refine si_of (pi_range1 hg hm (pa_cons pe_se pa_nil (star_cons hs)) (star_cons hs)) (sa τ S _ _ ex F m σ H gg ev _ fun F1 m1 H1 v st g1 r1 => ?_)
  rw [rvi_int r1]
  refine ⟨j, rfl, hj.1, hj.2, q F1 m1 H1 _ st g1 ?_⟩
  have := wk_range (K := X.K) (cl := cl) (b := b) (F' := F1) (m' := m1) (H' := H1) (lo := 0) (n := j.toNat)
  simpa using this
theorem sndi_rng2 {a2 : Expr} {p pos : Pos} (k : Kn c cl g X) (hb : g.isBi "range" = true) (hs : isStar a = false) (hs2 : isStar a2 = false) (sa : SndE X c cl a ca) (sb : SndE X c cl a2 cb) : SndI X c cl tg b (.Call (.Name "range" p) [a, a2] [] pos) (.rng2 ca cb) := by
  intro τ S ds S' he F m σ H gg ev R q
  obtain ⟨hg, hm, hd, hn⟩ := bi_ok k hb
  simp only [evI] at he
  split at he
  rotate_left
  · cases he
  rename_i i S1 ex
  split at he
  rotate_left
  · cases he
  rename_i j S2 ey
  split at he
  rotate_left
  · cases he
  rename_i hj
  cases he
  have e2 : starEach [a2] X.env = [(false, eval a2 X.env)] := star_cons hs2
  refine si_of (pi_range2 hg hm (pa_cons pe_se (pa_cons pe_se pa_nil (star_cons hs2)) (star_cons hs)) (by rw [star_cons hs, e2]) e2) (two sa sb ex ey gg ev fun F1 m1 H1 v w st g1 r1 r2 => ?_)
  rw [rvi_int r1, rvi_int r2]
  exact ⟨i, j, rfl, ⟨hj.1.1, hj.1.2, hj.2.1, hj.2.2⟩, q F1 m1 H1 _ st g1 wk_range⟩
theorem sndi_enum {elts : List Expr} {kk : Nat} {tpos p pos : Pos} (k : Kn c cl g X) (hb : g.isBi "enumerate" = true) (hs : isStar a = false) (sa : SndE X c cl a ca) : SndI X c cl (.Tuple elts kk tpos) b (.Call (.Name "enumerate" p) [a] [] pos) (.enum ca) := by
  intro τ S ds S' he F m σ H gg ev R q
  obtain ⟨hg, hm, hd, hn⟩ := bi_ok k hb
  simp only [evI] at he
  split at he
  rotate_left
  · cases he
  rename_i x S1 ex
  split at he
  rotate_left
  · cases he
  rename_i xs ed
  cases he
  refine si_of (pi_enumA hg hm (pa_cons pe_se pa_nil (star_cons hs)) (star_cons hs)) (sa τ S _ _ ex F m σ H gg ev _ fun F1 m1 H1 v st g1 r1 => ?_)
  obtain ⟨F2, p, vs, st2, g2, sm, rfl, hi, hh⟩ := seqB_ok st g1 r1 ed
  have hp : ∀ i, i < vs.length → ∃ d1 d2, (xs.mapIdx fun (k : Nat) d => D.tup [.int (k : Int), d])[i]? = some (.tup [d1, d2]) ∧ (∀ v, some (V.int (i : Nat)) = some v → Is X.K F2 m1 d1 v) ∧ (∀ v, vs[i]? = some v → Is X.K F2 m1 d2 v) := by
    intro i hl
    have hd : xs[i]? = some (xs[i]'(by rw [hi.len]; exact hl)) := by simp [hi.len, hl]
    obtain ⟨w, h2, h3⟩ := hi.get hd
    refine ⟨.int i, _, by rw [List.getElem?_mapIdx, hd]; rfl, fun v e => by cases e; exact is_int.mpr rfl, fun v e => ?_⟩
    rw [h2] at e; cases e; exact h3
  refine ⟨p, vs, rfl, ?_⟩
  rcases hh with ⟨_, hh⟩ | ⟨_, hh⟩
  · exact .inl ⟨hh _ (stay_refl g2), q F2 m1 H1 _ st2 g2 (wk_pair walk_enum (by simp [hi.len]) hh hp)⟩
  · exact .inr ⟨hh _ (stay_refl g2), q F2 m1 H1 _ st2 g2 (wk_pair walk_enumT (by simp [hi.len]) hh hp)⟩
theorem stay_step {F2 H2 : Hp} {m2 : List Addr} {H3 : Hp} (st : Stp F m H F2 m2 H2) (h : Stay b F2 m2 H2 H3) : Stay b F m H H3 :=
  ⟨st.sub.trans h.1, fun e a o ha hn => h.2 e a o (st.keep a o ha hn) fun z => (st.newm a z).elim hn fun q => by rw [q] at ha; cases ha⟩
theorem stay_frz {F2 : Hp} {H3 : Hp} (sm : Same F F2) (h : Stay b F2 m H H3) : Stay b F m H H3 := ⟨sm.trans h.1, h.2⟩
theorem sndi_zip {a2 : Expr} {elts : List Expr} {kk : Nat} {tpos p pos : Pos} (k : Kn c cl g X) (hb : g.isBi "zip" = true) (hs : isStar a = false) (hs2 : isStar a2 = false) (sa : SndE X c cl a ca) (sb : SndE X c cl a2 cb) :
    SndI X c cl (.Tuple elts kk tpos) b (.Call (.Name "zip" p) [a, a2] [] pos) (.zip ca cb) := by
  intro τ S ds S' he F m σ H gg ev R q
  obtain ⟨hg, hm, hd, hn⟩ := bi_ok k hb
  simp only [evI] at he
  split at he
  rotate_left
  · cases he
  rename_i x S1 ex
  split at he
  rotate_left
  · cases he
  rename_i y S2 ey
  split at he
  rotate_left
  · cases he
  rename_i xs ys ed1 ed2
  split at he
  rotate_left
  · cases he
  rename_i hl
  cases he
  obtain ⟨hl, ht⟩ := hl
  have h2 : (backTo pos (starEach [a2] X.env)).any (·.1) = false := star_none (by simpa using hs2)
  refine si_of (RZ.pi_zipA hg hm (pa_cons pe_se (pa_cons pe_se pa_nil (star_cons hs2)) (star_cons hs)) (star_cons hs) h2) ?_
  refine sa τ S x S1 ex F m σ H gg ev _ fun F1 m1 H1 v st1 g1 r1 => ?_
  obtain ⟨F1', p1, vs1, st1', g1', sm1, rfl, i1, h1⟩ := seqB_ok st1 g1 r1 ed1
  refine sb τ S1 y _ ey F1' m1 σ H1 g1' (ev.step st1') _ fun F2 m2 H2 w st2 g2 r2 => ?_
  obtain ⟨F2', p2, vs2, st2', g2', sm2, rfl, i2, h3⟩ := seqB_ok st2 g2 r2 ed2
  have i1' := st2'.isA i1
  have el : vs1.length = vs2.length := by rw [← i1.len, ← i2.len]; exact hl
  have hp : ∀ i, i < vs1.length → ∃ d1 d2, (List.zipWith (fun u v => D.tup [u, v]) xs ys)[i]? = some (.tup [d1, d2]) ∧ (∀ v, vs1[i]? = some v → Is X.K F2' m2 d1 v) ∧ (∀ v, vs2[i]? = some v → Is X.K F2' m2 d2 v) := by
    intro i hli
    have hx : xs[i]? = some (xs[i]'(by rw [i1.len]; exact hli)) := by simp [i1.len, hli]
    have hy : ys[i]? = some (ys[i]'(by rw [← hl, i1.len]; exact hli)) := by simp [← hl, i1.len, hli]
    obtain ⟨w1, q1, q2⟩ := i1'.get hx
    obtain ⟨w2, q3, q4⟩ := i2.get hy
    refine ⟨_, _, by rw [List.getElem?_zipWith, hx, hy], fun v e => ?_, fun v e => ?_⟩
    · rw [q1] at e; cases e; exact q2
    · rw [q3] at e; cases e; exact q4
  have hn1 : (List.zipWith (fun u v => D.tup [u, v]) xs ys).length = vs1.length := by simp [i1.len, ← hl]
  have hmin : vs1.length = min vs1.length vs2.length := by omega
  refine ⟨p1, p2, vs1, vs2, rfl, ?_⟩
  rcases h1 with ⟨t1, h1⟩ | ⟨t1, h1⟩
  · rcases h3 with ⟨t2, h3⟩ | ⟨t2, h3⟩
    · refine .inl ⟨h1 _ (stay_step st2' (stay_refl g2')), h3 _ (stay_refl g2'), q F2' m2 H2 _ (st1'.trans st2') g2' ?_⟩
      exact wk_pair (walk_zip hmin) hn1 (fun H3 hs3 => ⟨h1 _ (stay_step st2' hs3), h3 _ hs3⟩) hp
    · rw [t1, t2] at ht; cases ht
  · rcases h3 with ⟨t2, h3⟩ | ⟨t2, h3⟩
    · rw [t1, t2] at ht; cases ht
    · refine .inr ⟨h1 _ (stay_step st2' (stay_refl g2')), h3 _ (stay_refl g2'), q F2' m2 H2 _ (st1'.trans st2') g2' ?_⟩
      exact wk_pair (walk_zipT hmin) hn1 (fun H3 hs3 => ⟨h1 _ (stay_step st2' hs3), h3 _ hs3⟩) hp

/-! ### targets -/
def SG (X : Cx) (tg : Expr) : TG := fun v σ H Q => ∀ pins s u, Inv X pins σ H s → RelV v u → wpAny (model X.prog X.w) X.A (assign tg X.env u) (fun _ s' => ∃ σ' H', Inv X pins σ' H' s' ∧ Q σ' H') X.xe s
theorem pg_sg : PG X tg (SG X tg) := ⟨fun pins s _ _ _ u _ I r h => h pins s u I r⟩
theorem sg_of {t : TG} (h : PG X tg t) {Q : L2.St → Hp → Prop} (q : t v σ H Q) : SG X tg v σ H Q := fun pins s u I r => h.run pins s σ H v u Q I r q
/-- own lists are younger than H0 -/
def Own (H0 : Hp) (τ : Env) (σ : L2.St) : Prop := ∀ (i : Nat) (p : Addr), isOwn τ[i]? = true → σ[i]? = some (some (.ref p)) → H0 p = none
theorem isOwn_set {i j : Nat} {d : D} (h : isOwn (τ.set i (.val d))[j]? = true) : j ≠ i ∧ isOwn τ[j]? = true := by
  by_cases e : i = j
  · subst e
    rw [List.getElem?_set] at h
    split at h
    · split at h <;> cases h
    · exact absurd rfl ‹_›
  · rw [List.getElem?_set_ne e] at h
    exact ⟨Ne.symm e, h⟩
theorem EnvOk.setVal {i : Nat} (ev : EnvOk K F m τ σ H) (hv : Is K F m d v) : EnvOk K F m (τ.set i (.val d)) (σ.set i (some v)) H := by
  refine ⟨by simp [ev.len], fun j s e => ?_, fun j k p hne h1 h2 e1 e2 => ?_⟩
  · by_cases hj : i = j
    · subst hj
      rw [List.getElem?_set] at e
      simp only [if_true] at e
      split at e
      · cases e
        rename_i hl
        have hl2 : i < σ.length := by rw [← ev.len]; exact hl
        exact ⟨v, by rw [List.getElem?_set]; simp [hl2], hv⟩
      · cases e
    · rw [List.getElem?_set_ne hj] at e ⊢
      exact ev.sl j s e
  · obtain ⟨n1, o1⟩ := isOwn_set h1
    obtain ⟨n2, o2⟩ := isOwn_set h2
    rw [List.getElem?_set_ne (Ne.symm n1)] at e1
    rw [List.getElem?_set_ne (Ne.symm n2)] at e2
    exact ev.apart j k p hne o1 o2 e1 e2
theorem Own.setVal {i : Nat} {o : Option V} (ho : Own H0 τ σ) : Own H0 (τ.set i (.val d)) (σ.set i o) := fun j p h e => by
  obtain ⟨n1, o1⟩ := isOwn_set h
  rw [List.getElem?_set_ne (Ne.symm n1)] at e
  exact ho j p o1 e
/-- wiped slots -/
theorem wipe_get : ∀ {vs : List Nat} {σ : St} {i : Nat}, (wipe σ vs)[i]? = if i ∈ vs then σ[i]?.map (fun _ => Option.none) else σ[i]?
  | [], σ, i => by simp [wipe]
  | v :: vs, σ, i => by
    unfold wipe
    rw [List.getElem?_set, wipe_length]
    by_cases h : v = i
    · subst h
      simp only [if_true, List.mem_cons, true_or]
      by_cases hl : v < σ.length <;> simp [hl]
    · rw [if_neg h, wipe_get]
      have : i ≠ v := fun e => h e.symm
      simp [this]
theorem wipe_set {vs : List Nat} {i : Nat} {o : Option V} (h : i ∈ vs) : wipe (σ.set i o) vs = wipe σ vs := by
  apply List.ext_getElem?
  intro j
  rw [wipe_get, wipe_get, List.getElem?_set]
  by_cases hj : i = j
  · subst hj
    simp only [h, if_true]
    by_cases hl : i < σ.length <;> simp [hl]
  · rw [if_neg hj]
theorem wipe_idem {vs : List Nat} : wipe (wipe σ vs) vs = wipe σ vs := by
  apply List.ext_getElem?
  intro j
  rw [wipe_get, wipe_get]
  split
  · cases σ[j]? <;> rfl
  · rfl
theorem wipeE_get : ∀ {vs : List Nat} {τ : Env} {i : Nat}, (wipeE τ vs)[i]? = if i ∈ vs then τ[i]?.map (fun _ => Slot.non) else τ[i]?
  | [], τ, i => by simp [wipeE]
  | v :: vs, τ, i => by
    have hl0 : ∀ (vs : List Nat), (wipeE τ vs).length = τ.length := by
      intro vs
      induction vs with
      | nil => rfl
      | cons a b ih => unfold wipeE; rw [List.length_set, ih]
    unfold wipeE
    rw [List.getElem?_set, hl0]
    by_cases h : v = i
    · subst h
      simp only [if_true, List.mem_cons, true_or]
      by_cases hl : v < τ.length <;> simp [hl]
    · rw [if_neg h, wipeE_get]
      have : i ≠ v := fun e => h e.symm
      simp [this]
theorem wipeE_len : ∀ {vs : List Nat}, (wipeE τ vs).length = τ.length
  | [] => rfl
  | v :: vs => by unfold wipeE; rw [List.length_set, wipeE_len]
theorem EnvOk.wipe {vs : List Nat} (ev : EnvOk K F m τ σ H) : EnvOk K F m (wipeE τ vs) (L2.wipe σ vs) H := by
  have own : ∀ {i}, isOwn (wipeE τ vs)[i]? = true → i ∉ vs ∧ isOwn τ[i]? = true := fun {i} h => by
    rw [wipeE_get] at h
    split at h
    · cases q : τ[i]? <;> rw [q] at h <;> cases h
    · exact ⟨‹_›, h⟩
  refine ⟨by rw [wipeE_len, wipe_length]; exact ev.len, fun j s e => ?_, fun j k p hne h1 h2 e1 e2 => ?_⟩
  · rw [wipeE_get] at e
    rw [wipe_get]
    split at e
    · cases q : τ[j]? <;> rw [q] at e <;> cases e
      exact True.intro
    · rename_i hj
      rw [if_neg hj]
      exact ev.sl j s e
  · obtain ⟨n1, o1⟩ := own h1
    obtain ⟨n2, o2⟩ := own h2
    rw [wipe_get, if_neg n1] at e1
    rw [wipe_get, if_neg n2] at e2
    exact ev.apart j k p hne o1 o2 e1 e2

def SndP (X : Cx) (cl : List Addr) (tg : Expr) (p : Pat) : Prop := ∀ d τ τ', p.asg d τ = some τ' → ∀ F m S σ H v, G X.K cl F m S H → EnvOk X.K F m τ σ H → Is X.K F m d v →
  ∀ Q : L2.St → Hp → Prop, (∀ σ', EnvOk X.K F m τ' σ' H → (∀ H0, Own H0 τ σ → Own H0 τ' σ') → (∀ ws, (∀ i ∈ p.slots, i ∈ ws) → wipe σ' ws = wipe σ ws) → Q σ' H) → SG X tg v σ H Q
def SndPs (X : Cx) (cl : List Addr) (es : List Expr) (p : Pat) : Prop := ∃ t : TGs, PGs X es t ∧ ∀ ds τ τ', p.asg (.tup ds) τ = some τ' → ds.length = es.length ∧ ∀ F m S σ H vs, G X.K cl F m S H → EnvOk X.K F m τ σ H → IsA X.K F m ds vs →
  ∀ Q : L2.St → Hp → Prop, (∀ σ', EnvOk X.K F m τ' σ' H → (∀ H0, Own H0 τ σ → Own H0 τ' σ') → (∀ ws, (∀ i ∈ p.slots, i ∈ ws) → wipe σ' ws = wipe σ ws) → Q σ' H) → t vs σ H Q
theorem asg_cons {e : Expr} {es : List Expr} {env : PySem.Env} (h : isStar e = false) : assignEach (e :: es) env = (false, assign e env) :: assignEach es env := by
  cases e <;> first | rfl | (simp [isStar] at h)
theorem asg_len {env : PySem.Env} : ∀ {es : List Expr}, (∀ e ∈ es, isStar e = false) → (assignEach es env).length = es.length ∧ (assignEach es env).findIdx? (·.1) = none
  | [], _ => ⟨rfl, rfl⟩
  | e :: es, h => by
    obtain ⟨h1, h2⟩ := asg_len (env := env) (es := es) fun e' he => h e' (by simp [he])
    rw [asg_cons (h e (by simp))]
    exact ⟨by simp [h1], by simp [List.findIdx?_cons, h2]⟩
theorem patOf_snd (k : Kn c cl g X) : ∀ n, (∀ e p, patOf g n e = some p → isStar e = false ∧ SndP X cl e p) ∧ (∀ es p, patOf.go g n es = some p → (∀ e ∈ es, isStar e = false) ∧ SndPs X cl es p)
  | 0 => ⟨fun e p h => (by have h : (none : Option Pat) = some p := h; cases h), fun es p h => (by have h : (none : Option Pat) = some p := h; cases h)⟩
  | n + 1 => by
    obtain ⟨ih1, ih2⟩ := patOf_snd k n
    refine ⟨fun e p h => ?_, fun es p h => ?_⟩
    · unfold patOf at h
      split at h
      · rename_i x pos
        simp only [Option.map_eq_some_iff] at h
        obtain ⟨i, hi, rfl⟩ := h
        obtain ⟨h1, h2, h3⟩ := stor_ok k hi
        refine ⟨rfl, fun d τ τ' ha F m S σ H v gg ev hv Q q => ?_⟩
        simp only [Pat.asg, Option.some.injEq] at ha
        subst ha
        exact sg_of (pg_name k.nd h1 h2 h3) (q _ (ev.setVal hv) (fun H0 ho => ho.setVal) fun ws hw => wipe_set (hw i (by simp [Pat.slots])))
      · rename_i es kk pos
        obtain ⟨h1, t, h2, h3⟩ := ih2 es p h
        refine ⟨rfl, fun d τ τ' ha F m S σ H v gg ev hv Q q => ?_⟩
        obtain ⟨l1, l2⟩ := asg_len (env := X.env) h1
        have hd : ∃ ds, d = .tup ds := by
          cases p with
          | nm i =>
            exfalso
            cases n with
            | zero => have h : (none : Option Pat) = _ := h; cases h
            | succ n =>
              cases es with
              | nil => have h : some Pat.tnil = _ := h; cases h
              | cons e es =>
                have h : (if isStar e = true then none else match patOf g n e, patOf.go g n es with | some p, some r => some (Pat.tcons p r) | _, _ => none) = some (Pat.nm i) := h
                split at h
                · cases h
                · split at h <;> cases h
          | tnil => cases d <;> first | exact ⟨_, rfl⟩ | cases ha
          | tcons p r => cases d <;> first | exact ⟨_, rfl⟩ | cases ha
        obtain ⟨ds, rfl⟩ := hd
        obtain ⟨l3, h4⟩ := h3 ds τ τ' ha
        simp only [Is] at hv
        obtain ⟨a, vs, rfl, hq, hi⟩ := hv
        refine sg_of (pg_tup k.calm h2 rfl l2) ⟨a, vs, rfl, same_t gg.sub hq, by rw [l1, ← l3, hi.len], h4 F m S σ H vs gg ev hi Q q⟩
      · cases h
    · cases es with
      | nil =>
        have h : some Pat.tnil = some p := h
        cases h
        refine ⟨by simp, gNil, pgs_nil, fun ds τ τ' ha => ?_⟩
        cases ds with
        | cons _ _ => simp [Pat.asg] at ha
        | nil =>
          simp only [Pat.asg, Option.some.injEq] at ha
          subst ha
          refine ⟨rfl, fun F m S σ H vs gg ev hi Q q => ?_⟩
          simp only [IsA] at hi
          exact ⟨hi, q σ ev (fun _ h => h) fun _ _ => rfl⟩
      | cons e es =>
        have h : (if isStar e = true then none else match patOf g n e, patOf.go g n es with | some p, some r => some (Pat.tcons p r) | _, _ => none) = some p := h
        split at h
        · cases h
        rename_i hst
        split at h
        · rename_i p1 p2 e1 e2
          cases h
          obtain ⟨s1, h1⟩ := ih1 e p1 e1
          obtain ⟨s2, t, h2, h3⟩ := ih2 es p2 e2
          refine ⟨fun e' he => ?_, gCons (SG X e) t, pgs_cons pg_sg h2 (by rw [asg_cons s1]; rfl), fun ds τ τ' ha => ?_⟩
          · rcases List.mem_cons.mp he with rfl | he
            · exact s1
            · exact s2 e' he
          cases ds with
          | nil => simp [Pat.asg] at ha
          | cons d ds =>
            simp only [Pat.asg] at ha
            split at ha
            · rename_i τ1 ha1
              obtain ⟨l3, h4⟩ := h3 ds τ1 τ' ha
              refine ⟨by simp [l3], fun F m S σ H vs gg ev hi Q q => ?_⟩
              simp only [IsA] at hi
              obtain ⟨v, us, rfl, i1, i2⟩ := hi
              refine ⟨v, us, rfl, h1 d τ τ1 ha1 F m S σ H v gg ev i1 _ fun σ1 ev1 ow1 wp1 => ?_⟩
              refine h4 F m S σ1 H us gg ev1 i2 Q fun σ2 ev2 ow2 wp2 => q σ2 ev2 (fun H0 h => ow2 H0 (ow1 H0 h)) fun ws hw => ?_
              rw [wp2 ws fun i hi => hw i (by simp [Pat.slots, hi]), wp1 ws fun i hi => hw i (by simp [Pat.slots, hi])]
            · cases ha
        · cases h
end
end Co
end

section
set_option maxHeartbeats 0
set_option Elab.async false
set_option linter.all false
set_option maxRecDepth 100000
/-! Co9: list comprehensions; every expression that coE takes. -/
namespace Co
open PySem L2
section
variable {X : Cx} {c : Ctx} {cl : List Addr} {g : Gm} {a e tg it elt : Expr} {ca cb ce : CE} {ci : CI} {ct : CT} {τ : Env} {S S' S1 S2 S3 : Store} {F F' H' H0 F0 F1 H1 : Hp} {m m' m0 m1 : List Addr} {σ : St} {H : Hp} {x y r : Rv} {d : D} {ds es : List D} {b : Bool} {K : PySem.W.Frag} {v : V} {vs ws : List V}

theorem Stp.updNew {p : Addr} {o : HO} (st : Stp F0 m0 H0 F m H) (h0 : H0 p = Option.none) : Stp F0 m0 H0 F m (upd H p o) := by
  refine ⟨st.sub, st.pre, fun a u h hn => ?_, st.nof, st.newm, fun a h => ?_⟩
  · rw [upd_ne (fun z => by rw [z, h0] at h; cases h)]; exact st.keep a u h hn
  · by_cases e : a = p
    · subst e; rw [upd_same]; exact fun z => nomatch z
    · rw [upd_ne e]; exact st.stay a h
theorem G.updOwn {p : Addr} {o : HO} (gg : G K cl F m S H) (hp : p ∉ m) (fp : F p = none) (hq : ∀ a, H p ≠ some (.own a)) : G K cl F m S (upd H p o) := by
  refine ⟨fun a u h => ?_, gg.len, gg.nd, fun i a o' h1 h2 => ?_⟩
  · rw [upd_ne (fun z => by rw [z, fp] at h; cases h)]; exact gg.sub a u h
  · obtain ⟨q1, q2⟩ := gg.ob i a o' h1 h2
    have hne : a ≠ p := fun z => hp (z ▸ List.mem_of_getElem? h1)
    exact ⟨q1, q2.keep (Same.refl _) (upd_ne hne) fun dx h => by rw [upd_ne (fun z : dx = p => hq a (by rw [← z]; exact h))]; exact h⟩

/-! ### a comprehension's block -/
theorem kn_blk {s : Scope} (k : Kn c cl g X) (ok : s.kind = .function) (s0 : Shared) (H0 : Hp) (C : Addr) (cl' : List (Str × Addr)) (fp : List Addr) : Kn c cl (g.blk s) (X.blk s0 H0 s (compEnvC s cl' C X.env) fp) where
  N := k.N
  nd := k.nd
  sc := by show relS s X.env.scope = relS s g.sc; rw [k.sc]
  kd := ok
  calm := k.calm
  fnc := fun x h => by show (s.names.lookup x == some .cell) = true; rw [h s rfl]; rfl
  free := k.free
  glob := k.glob
  fn := k.fn
  cls := k.cls
  mkc := k.mkc
  atr := k.atr
  clsOk := k.clsOk
  gcd := k.gcd
  hu := k.hu
def bG (X : Cx) (s : Scope) (tg : Expr) : TG := fun v σ H Q => ∀ (s0 : Shared) (H0 : Hp) (C : Addr) (cl' : List (Str × Addr)) (fp : List Addr), SG (X.blk s0 H0 s (compEnvC s cl' C X.env) fp) tg v σ H Q
def bT (X : Cx) (s : Scope) (t : Expr) : TT := fun σ H Q => ∀ (s0 : Shared) (H0 : Hp) (C : Addr) (cl' : List (Str × Addr)) (fp : List Addr), ST (X.blk s0 H0 s (compEnvC s cl' C X.env) fp) t σ H Q
def bE (X : Cx) (s : Scope) (t : Expr) : TE := fun σ H Q => ∀ (s0 : Shared) (H0 : Hp) (C : Addr) (cl' : List (Str × Addr)) (fp : List Addr), SE (X.blk s0 H0 s (compEnvC s cl' C X.env) fp) t σ H Q
/-- one turn -/
def lcF (c : Ctx) (p : Pat) (vs : List Nat) (t : CT) (e : CE) (σ : Env) : D → Store → Option (Option D × Store) := fun d S => match p.asg d (wipeE σ vs) with
  | some σ' => match evT c t σ' S with
    | some (true, S2) => match evE c e σ' S2 with
      | some (r, S3) => match r.d with | some x => some (some x, S3) | none => none
      | none => none
    | some (false, S2) => some (none, S2)
    | none => none
  | none => none
/-- the comprehension's walk, as a reading -/
theorem lc_snd {s : Scope} {p : Pat} {tt : TT} (k : Kn c cl g X) (ok : s.kind = .function) (hp : patOf (g.blk s) 8 tg = some p) (hi : SndI X c cl tg false it ci)
    (he : ∀ (s0 : Shared) (H0 : Hp) (C : Addr) (cl' : List (Str × Addr)) (fp : List Addr), SndE (X.blk s0 H0 s (compEnvC s cl' C X.env) fp) c cl elt ce)
    (htt : ∀ τ S b S', evT c ct τ S = some (b, S') → ∀ F m σ H, G X.K cl F m S H → EnvOk X.K F m τ σ H → ∀ Q : Bool → Hp → Prop, (∀ F' m' H', Stp F m H F' m' H' → G X.K cl F' m' S' H' → Q b H') → tt σ H Q)
    (hev : evE c (.lc p p.slots ci ct ce) τ S = some (r, S')) (gg : G X.K cl F m S H) (ev : EnvOk X.K F m τ σ H) (Q : VK) (q : ∀ F' m' H' v, Stp F m H F' m' H' → G X.K cl F' m' S' H' → RvOk X.K H F' m' H' r v → Q v H') :
    tLc (SI X tg it) (bG X s tg) tt (bE X s elt) p.slots σ H Q := by
  simp only [evE] at hev
  split at hev
  rotate_left
  · cases hev
  rename_i ds S1 ei
  split at hev
  rotate_left
  · cases hev
  rename_i rs S2 el
  cases hev
  have el : lcGo (lcF c p p.slots ct ce τ) ds [] S1 = some (rs, S') := el
  refine hi τ S ds S1 ei F m σ H gg ev _ fun F1 m1 H1 J st g1 wk D hD => ?_
  obtain ⟨Gd, Y, w, hgd, hy⟩ := wk
  have f1D : F1 D = none := by
    cases h : F1 D with
    | none => rfl
    | some u => rw [g1.sub D u h] at hD; cases hD
  refine lc_it w (fun i H2 => ∃ F2 m2 S2 acc avs, Stp F1 m1 H1 F2 m2 H2 ∧ G X.K cl F2 m2 S2 H2 ∧ H2 D = some (.lst avs) ∧ F2 D = none ∧ D ∉ m2 ∧ IsA X.K F2 m2 acc avs ∧ lcGo (lcF c p p.slots ct ce τ) (ds.drop i) acc S2 = some (rs, S')) ?_ ?_ ?_ ?_
  · exact ⟨F1, m1, S1, [], [], Stp.lay hD, g1.lay hD, upd_same, f1D, g1.notin hD, rfl, el⟩
  · rintro i H2 _ ⟨F2, m2, S2, acc, avs, st2, g2, _⟩
    exact hgd H2 ⟨st2.sub.trans g2.sub, fun _ a o h hn => st2.keep a o h hn⟩
  · rintro i x H2 H3 hl ⟨F2, m2, S2, acc, avs, st2, g2, hD2, fD2, nD2, ia, el2⟩ hY
    obtain ⟨d, F3, hd, st3, g3, is3⟩ := hy F2 m2 S2 H2 i x H3 st2.sub st2.pre g2 hl hY
    have edrop : ds.drop i = d :: ds.drop (i + 1) := by
      have hx : ds[i]'hl = d := by rw [List.getElem?_eq_getElem hl] at hd; exact Option.some.inj hd
      rw [← hx]; exact List.drop_eq_getElem_cons hl
    rw [edrop] at el2
    simp only [lcGo] at el2
    have ev3 : EnvOk X.K F3 m2 (wipeE τ p.slots) (wipe σ p.slots) H3 := (((ev.step st).step st2).step st3).wipe
    cases eF : lcF c p p.slots ct ce τ d S2 with
    | none => rw [eF] at el2; cases el2
    | some o =>
      rw [eF] at el2
      unfold lcF at eF
      split at eF
      rotate_left
      · cases eF
      rename_i τ1 ea
      intro s0 H0 C cl' fp
      refine ((patOf_snd (kn_blk k ok s0 H0 C cl' fp) 8).1 tg p hp).2 d _ τ1 ea F3 m2 S2 _ H3 x g3 ev3 is3 _ fun σ2 ev2 _ wp2 => ⟨by rw [wp2 _ (fun i hi => hi), wipe_idem], ?_⟩
      split at eF
      · rename_i S3 et
        refine htt τ1 S2 true S3 et F3 m2 σ2 H3 g3 ev2 _ fun F4 m4 H4 st4 g4 => ?_
        rw [if_pos rfl]
        split at eF
        rotate_left
        · cases eF
        rename_i rx S4 ee
        split at eF
        rotate_left
        · cases eF
        rename_i dx edx
        cases eF
        simp only at el2
        split at el2
        rotate_left
        · cases el2
        rename_i hz
        intro s0 H0 C cl' fp
        refine he s0 H0 C cl' fp τ1 S3 rx S4 ee F4 m4 σ2 H4 g4 (ev2.step st4) _ fun F5 m5 H5 y st5 g5 r5 => ?_
        obtain ⟨F6, st6, g6, sm6, i6⟩ := keep_ok st5 g5 r5 edx
        have stt : Stp F2 m2 H2 F6 m5 H5 := (st3.trans st4).trans st6
        have hDne : H2 D ≠ none := by rw [hD2]; exact fun z => nomatch z
        have hD5 : H5 D = some (.lst avs) := stt.keep D _ hD2 nD2
        have fD6 : F6 D = none := stt.nof D hDne fD2
        have nD5 : D ∉ m5 := fun z => (stt.newm D z).elim nD2 hDne
        refine ⟨avs, hD5, by rw [← ia.len]; exact hz, F6, m5, S4, acc ++ [dx], avs ++ [y], (st2.trans stt).updNew hD, g6.updOwn nD5 fD6 (fun a => by rw [hD5]; exact fun z => nomatch z), upd_same, fD6, nD5, (stt.isA ia).app (.one i6), el2⟩
      · rename_i S3 et
        cases eF
        refine htt τ1 S2 false S3 et F3 m2 σ2 H3 g3 ev2 _ fun F4 m4 H4 st4 g4 => ?_
        rw [if_neg Bool.false_ne_true]
        have stt : Stp F2 m2 H2 F4 m4 H4 := st3.trans st4
        have hDne : H2 D ≠ none := by rw [hD2]; exact fun z => nomatch z
        exact ⟨F4, m4, S3, acc, avs, st2.trans stt, g4, stt.keep D _ hD2 nD2, stt.nof D hDne fD2, fun z => (stt.newm D z).elim nD2 hDne, stt.isA ia, el2⟩
      · cases eF
  · rintro H2 ⟨F2, m2, S2, acc, avs, st2, g2, hD2, fD2, nD2, ia, el2⟩
    rw [List.drop_length] at el2
    simp only [lcGo, Option.some.injEq, Prod.mk.injEq] at el2
    obtain ⟨rfl, rfl⟩ := el2
    exact q F2 m2 H2 _ (st.trans st2) g2 ⟨D, avs, rfl, hD2, fD2, nD2, st.none hD, ia⟩
end

/-! ### every expression -/
theorem coE_star {g : Gm} {n : Nat} {e : Expr} {ce : CE} (h : coE g n e = some ce) : isStar e = false := by
  cases e <;> first | rfl | (cases n <;> (have h : (none : Option CE) = some ce := h; cases h))
theorem coE_slice {g : Gm} {n : Nat} {e : Expr} {ce : CE} (h : coE g n e = some ce) : ∀ lo hi st p, e ≠ .Slice lo hi st p := by
  rintro lo hi st p rfl
  cases n <;> (have h : (none : Option CE) = some ce := h; cases h)
theorem coE_set {g : Gm} {n : Nat} {e : Expr} {ce : CE} {op : CmpOp} (h : coE g n e = some ce) : behindInMarks op e = false := by
  cases e <;> first | rfl | (cases n <;> (have h : (none : Option CE) = some ce := h; cases h))
theorem coI_set {g : Gm} {n : Nat} {t : Bool} {e : Expr} {ci : CI} {env : PySem.Env} (h : coI g n t e = some ci) : ∀ x, foldedSetIterable e env x = pure x := by
  intro x
  cases e <;> first | rfl | (cases n with
    | zero => (have h : (none : Option CI) = some ci := h; cases h)
    | succ n => cases n <;> (have h : (none : Option CI) = some ci := h; cases h))
def isBo : Expr → Bool
  | .BoolOp .. => true | _ => false
structure Snd (c : Ctx) (cl : List Addr) (n : Nat) : Prop where
  E : ∀ {g : Gm} {X : Cx} (k : Kn c cl g X) {e : Expr} {ce : CE}, coE g n e = some ce → SndE X c cl e ce
  T : ∀ {g : Gm} {X : Cx} (k : Kn c cl g X) {e : Expr} {ct : CT}, coT g n e = some ct → SndT X c cl e ct ∧ (isBo e = true → SndW X c cl e ct)
  A : ∀ {g : Gm} {X : Cx} (k : Kn c cl g X) {es : List Expr} {cs : CA}, coA g n es = some cs → (∀ e ∈ es, isStar e = false) ∧ SndL X c cl es cs
  I : ∀ {g : Gm} {X : Cx} (k : Kn c cl g X) {tg : Expr} {b : Bool} {e : Expr} {ci : CI}, coI g n (isTup tg) e = some ci → SndI X c cl tg b e ci
section
variable {c : Ctx} {cl : List Addr} {g : Gm} {X : Cx}
theorem co_A {n : Nat} (ih : Snd c cl n) (k : Kn c cl g X) {es : List Expr} {cs : CA} (h : coA g (n + 1) es = some cs) : (∀ e ∈ es, isStar e = false) ∧ SndL X c cl es cs := by
  unfold coA at h
  split at h
  · cases h
  · cases h; exact ⟨by simp, True.intro⟩
  · rename_i n' e es heq
    cases heq
    split at h
    · cases h
    rename_i hs
    split at h
    · rename_i x y e1 e2
      cases h
      obtain ⟨h1, h2⟩ := ih.A k e2
      refine ⟨fun e' he => ?_, ih.E k e1, h2⟩
      rcases List.mem_cons.mp he with rfl | he
      · simpa using hs
      · exact h1 e' he
    · cases h
theorem co_I {n : Nat} (ih : Snd c cl n) (k : Kn c cl g X) {tg : Expr} {b : Bool} {e : Expr} {ci : CI} (h : coI g (n + 1) (isTup tg) e = some ci) : SndI X c cl tg b e ci := by
  have sq : ∀ {e : Expr} {ci : CI}, (coE g n e).map .seq = some ci → SndI X c cl tg b e ci := by
    intro e ci h
    simp only [Option.map_eq_some_iff] at h
    obtain ⟨x, h1, rfl⟩ := h
    exact sndi_seq (ih.E k h1)
  have tp : isTup tg = true → ∃ es kk p, tg = .Tuple es kk p := by
    intro h; cases tg <;> first | exact ⟨_, _, _, rfl⟩ | cases h
  unfold coI at h
  split at h
  · rename_i f p args pos
    split at h
    · rename_i hc
      obtain ⟨hb, rfl⟩ := hc
      split at h
      · rename_i a
        split at h
        · cases h
        rename_i hs
        simp only [Option.map_eq_some_iff] at h
        obtain ⟨x, h1, rfl⟩ := h
        exact sndi_rng1 k hb (by simpa using hs) (ih.E k h1)
      · rename_i a a2
        split at h
        · cases h
        rename_i hs
        simp only [Bool.or_eq_true, not_or, Bool.not_eq_true] at hs
        split at h
        · rename_i x y e1 e2
          cases h
          exact sndi_rng2 k hb hs.1 hs.2 (ih.E k e1) (ih.E k e2)
        · cases h
      · cases h
    · split at h
      · rename_i hc
        obtain ⟨hb, rfl⟩ := hc
        split at h
        · rename_i a
          split at h
          · rename_i hs
            simp only [Bool.and_eq_true, Bool.not_eq_true'] at hs
            simp only [Option.map_eq_some_iff] at h
            obtain ⟨x, h1, rfl⟩ := h
            obtain ⟨es, kk, p, rfl⟩ := tp hs.1
            exact sndi_enum k hb hs.2 (ih.E k h1)
          · cases h
        · cases h
      · split at h
        · rename_i hc
          obtain ⟨hb, rfl⟩ := hc
          split at h
          · rename_i a a2
            split at h
            · rename_i hs
              simp only [Bool.and_eq_true, Bool.not_eq_true'] at hs
              split at h
              · rename_i x y e1 e2
                cases h
                obtain ⟨es, kk, p, rfl⟩ := tp hs.1.1
                exact sndi_zip k hb hs.1.2 hs.2 (ih.E k e1) (ih.E k e2)
              · cases h
            · cases h
          · cases h
        · exact sq h
  · exact sq h
theorem coE_cmp {n : Nat} {a : Expr} {ops : List CmpOp} {bs : List Expr} {p : Pos} {x : CE} (h : coE g (n + 1) (.Compare a ops bs p) = some x) :
    (∃ op b ca cb, ops = [op] ∧ bs = [b] ∧ coE g n a = some ca ∧ coE g n b = some cb ∧ x = .cmp (copOf op) ca cb) ∨
    (∃ op op' b d ca cb cd, ops = [op, op'] ∧ bs = [b, d] ∧ coE g n a = some ca ∧ coE g n b = some cb ∧ coE g n d = some cd ∧ x = .chain (copOf op) (copOf op') ca cb cd) := by
  rcases ops with _ | ⟨op, _ | ⟨op', _ | ⟨op'', ops⟩⟩⟩ <;> rcases bs with _ | ⟨b, _ | ⟨d, _ | ⟨d', bs⟩⟩⟩
  all_goals first
    | (have h : (none : Option CE) = some x := h
       cases h
       done)
    | (have h : (match coE g n a, coE g n b with | some x, some y => some (CE.cmp (copOf op) x y) | _, _ => none) = some x := h
       split at h
       · rename_i ca cb e1 e2
         cases h
         exact .inl ⟨op, b, ca, cb, rfl, rfl, e1, e2, rfl⟩
       · cases h)
    | (have h : (match coE g n a, coE g n b, coE g n d with | some x, some y, some z => some (CE.chain (copOf op) (copOf op') x y z) | _, _, _ => none) = some x := h
       split at h
       · rename_i ca cb cd e1 e2 e3
         cases h
         exact .inr ⟨op, op', b, d, ca, cb, cd, rfl, rfl, e1, e2, e3, rfl⟩
       · cases h)
theorem co_T {n : Nat} (ih : ∀ m, m ≤ n → Snd c cl m) (k : Kn c cl g X) {e : Expr} {ct : CT} (h : coT g (n + 1) e = some ct) : SndT X c cl e ct ∧ (isBo e = true → SndW X c cl e ct) := by
  unfold coT at h
  split at h
  · rename_i op a p
    have w := sndw_one (op := op) (pos := p) ((ih n (Nat.le_refl _)).T k h).1
    exact ⟨sndt_w w, fun _ => w⟩
  · rename_i a b r p
    split at h
    · rename_i x y e1 e2
      cases h
      have w := sndw_and ((ih n (Nat.le_refl _)).T k e1).1 (((ih n (Nat.le_refl _)).T k e2).2 rfl)
      exact ⟨sndt_w w, fun _ => w⟩
    · cases h
  · rename_i a b r p
    split at h
    · rename_i x y e1 e2
      cases h
      have w := sndw_or ((ih n (Nat.le_refl _)).T k e1).1 (((ih n (Nat.le_refl _)).T k e2).2 rfl)
      exact ⟨sndt_w w, fun _ => w⟩
    · cases h
  · rename_i a p
    simp only [Option.map_eq_some_iff] at h
    obtain ⟨x, h1, rfl⟩ := h
    exact ⟨sndt_not ((ih n (Nat.le_refl _)).T k h1).1, fun z => nomatch z⟩
  · cases h
  · cases h
  · rename_i h1 h2 h3 h4 h5 h6
    simp only [Option.map_eq_some_iff] at h
    obtain ⟨x, hx, rfl⟩ := h
    have se := (ih n (Nat.le_refl _)).E k hx
    refine ⟨?_, fun z => ?_⟩
    · cases e with
      | UnaryOp op a p =>
        cases op with
        | Not => exact (h4 a p rfl).elim
        | USub => exact sndt_tr (fun _ => rfl) se
        | _ => exact sndt_tr (fun _ => rfl) se
      | BoolOp op vs p => exact (h6 op vs p rfl).elim
      | IfExp t a b p => exact (h5 t a b p rfl).elim
      | Compare a ops bs p =>
        cases n with
        | zero => (have hx : (none : Option CE) = some x := hx; cases hx)
        | succ n =>
          have i2 := ih n (by omega)
          rcases coE_cmp hx with ⟨op, b, ca, cb, rfl, rfl, e1, e2, rfl⟩ | ⟨op, op', b, d, ca, cb, cd, rfl, rfl, e1, e2, e3, rfl⟩
          · exact sndt_cmp k (coE_set e2) (i2.E k e1) (i2.E k e2)
          · exact sndt_chain k (coE_set e3) (i2.E k e1) (i2.E k e2) (i2.E k e3)
      | _ => exact sndt_tr (fun _ => rfl) se
    · cases e <;> first | exact (h6 _ _ _ rfl).elim | cases z
theorem coE_sub_eq {n : Nat} {a s : Expr} {p : Pos} : coE g (n + 1) (.Subscript a s p) = (match coE g n a with
      | none => none
      | some x => match s with
        | .Slice none none (some (.UnaryOp .USub (.Constant (.int 1) _ _) _)) _ => some (CE.rev x)
        | .Slice (some lo) (some hi) none _ => match coE g n lo, coE g n hi with | some l, some h => some (.sl2 x l h) | _, _ => none
        | .Slice (some lo) none none _ => (coE g n lo).map (.slL x)
        | .Slice none (some hi) none _ => (coE g n hi).map (.slH x)
        | .Slice .. => none
        | b => (coE g n b).map (.idx x)) := rfl
theorem co_sub {n : Nat} (ih : Snd c cl n) (k : Kn c cl g X) {a s : Expr} {p : Pos} {ce : CE} (h : coE g (n + 1) (.Subscript a s p) = some ce) : SndE X c cl (.Subscript a s p) ce := by
  rw [coE_sub_eq] at h
  split at h
  · cases h
  rename_i x ex
  have sa := ih.E k ex
  split at h
  · cases h
    exact snd_rev sa
  · split at h
    · rename_i e1 e2
      cases h
      exact snd_sl2 sa (ih.E k e1) (ih.E k e2)
    · cases h
  · simp only [Option.map_eq_some_iff] at h
    obtain ⟨l, h1, rfl⟩ := h
    exact snd_slL sa (ih.E k h1)
  · simp only [Option.map_eq_some_iff] at h
    obtain ⟨l, h1, rfl⟩ := h
    exact snd_slH sa (ih.E k h1)
  · cases h
  · simp only [Option.map_eq_some_iff] at h
    obtain ⟨l, h1, rfl⟩ := h
    exact snd_idx k (coE_slice h1) sa (ih.E k h1)
theorem coE_call_eq {n : Nat} {f : Str} {p pos : Pos} {args : List Expr} : coE g (n + 1) (.Call (.Name f p) args [] pos) = (if g.isBi f = true then
        if f = ("isinstance" : Str) then match args with
          | [a, .Name t _] => match coE g n a, clsTy g t with | some x, some ty => some (CE.isi x [ty]) | _, _ => none
          | [a, .Tuple ts _ _] => match coE g n a, tysOf g ts with | some x, some tys => if (decide (0 < tys.length) && decide (tys.length ≤ 100)) = true then some (.isi x tys) else none | _, _ => none
          | _ => none
        else match args with
          | [a] => match biOf f, coE g n a with | some b, some x => some (.bi b x) | _, _ => none
          | [a, b] => match coE g n a, coE g n b with
            | some x, some y => if f = ("max" : Str) then some (.bi2 .max x y) else if f = ("min" : Str) then some (.bi2 .min x y) else none
            | _, _ => none
          | _ => none
      else if g.isGl f = true then
        if f = ("gcd" : Str) ∧ g.gcd = true then match args with
          | [a, b] => match coE g n a, coE g n b with | some x, some y => some (.bi2 .gcd x y) | _, _ => none
          | _ => none
        else match g.fns.lookup f, g.clss.lookup f, coA g n args with
          | some i, none, some as => some (.call i as)
          | none, some i, some as => some (.mk i as)
          | _, _, _ => none
      else none) := rfl
theorem co_call {n : Nat} (ih : Snd c cl n) (k : Kn c cl g X) {f : Str} {p pos : Pos} {args : List Expr} {ce : CE} (h : coE g (n + 1) (.Call (.Name f p) args [] pos) = some ce) : SndE X c cl (.Call (.Name f p) args [] pos) ce := by
  rw [coE_call_eq] at h
  split at h
  · rename_i hb
    split at h
    · rename_i hf
      subst hf
      split at h
      · rename_i a t p2
        split at h
        · rename_i x ty e1 e2
          cases h
          exact snd_isi1 k hb e2 (coE_star e1) (ih.E k e1)
        · cases h
      · rename_i a ts kk p2
        split at h
        · rename_i x tys e1 e2
          split at h
          · rename_i hc
            cases h
            simp only [Bool.and_eq_true, decide_eq_true_eq] at hc
            exact snd_isiN k hb e2 hc.2 (fun e => by rw [e] at hc; exact absurd hc.1 (by simp)) (coE_star e1) (ih.E k e1)
          · cases h
        · cases h
      · cases h
    · split at h
      · rename_i a
        split at h
        · rename_i b x e1 e2
          cases h
          exact snd_bi k hb e1 (coE_star e2) (ih.E k e2)
        · cases h
      · rename_i a b
        split at h
        · rename_i x y e1 e2
          split at h
          · rename_i hf
            cases h
            exact snd_bi2 k (.inl ⟨rfl, hf, hb⟩) (coE_star e1) (coE_star e2) (ih.E k e1) (ih.E k e2)
          · split at h
            · rename_i hf
              cases h
              exact snd_bi2 k (.inr (.inl ⟨rfl, hf, hb⟩)) (coE_star e1) (coE_star e2) (ih.E k e1) (ih.E k e2)
            · cases h
        · cases h
      · cases h
  · split at h
    · rename_i hg
      split at h
      · rename_i hf
        split at h
        · rename_i a b
          split at h
          · rename_i x y e1 e2
            cases h
            exact snd_bi2 k (.inr (.inr ⟨rfl, hf.1, hg, hf.2⟩)) (coE_star e1) (coE_star e2) (ih.E k e1) (ih.E k e2)
          · cases h
        · cases h
      · split at h
        · rename_i i as e1 e2 e3
          cases h
          obtain ⟨h1, h2⟩ := ih.A k e3
          cases args with
          | nil => cases as with
            | nil => exact snd_call0 k hg e1
            | cons _ _ => exact h2.elim
          | cons e es => exact snd_call k hg e1 h1 (snda_of h2 h1)
        · rename_i i as e1 e2 e3
          cases h
          obtain ⟨h1, h2⟩ := ih.A k e3
          cases args with
          | nil => cases as with
            | nil => exact snd_mk0 k hg e2
            | cons _ _ => exact h2.elim
          | cons e es => cases as with
            | nil => exact h2.elim
            | cons _ _ => exact snd_mk k hg e2 h1 (snda_of h2 h1)
        · cases h
    · cases h
theorem own_slots (N : List Str) (is : List Nat) : (is.map fun i => (N.getD i ⟨#[]⟩, i)).map (·.2) = is := by
  rw [List.map_map]
  show is.map (fun i => i) = is
  simp
/-- what a comprehension's text tells -/
theorem coE_lc_eq {n : Nat} {elt tg it : Expr} {ifs : List Expr} {s : Scope} {p : Pos} : coE g (n + 1) (.ListComp elt [⟨tg, it, ifs, 0⟩] s p) = (match patOf (g.blk s) 8 tg, coI g n (isTup tg) it, coE (g.blk s) n elt with
      | some p, some it, some e => if (decide (p.slots.Nodup) && blkC g.N g.sc s (p.slots.map fun i => (g.N.getD i ⟨#[]⟩, i))) = true then (match ifs with
          | [] => some (CE.lc p p.slots it .yes e)
          | [t] => (coT (g.blk s) n t).map fun t => .lc p p.slots it t e
          | _ => none) else none
      | _, _, _ => none) := rfl
theorem co_lcInv {n : Nat} {elt tg it : Expr} {ifs : List Expr} {s : Scope} {p : Pos} {ce : CE} (h : coE g (n + 1) (.ListComp elt [⟨tg, it, ifs, 0⟩] s p) = some ce) :
    ∃ pt ci ee ct, ce = .lc pt pt.slots ci ct ee ∧ patOf (g.blk s) 8 tg = some pt ∧ coI g n (isTup tg) it = some ci ∧ coE (g.blk s) n elt = some ee ∧ blkC g.N g.sc s (pt.slots.map fun i => (g.N.getD i ⟨#[]⟩, i)) = true ∧
      ((ifs = [] ∧ ct = .yes) ∨ ∃ t, ifs = [t] ∧ coT (g.blk s) n t = some ct) := by
  rw [coE_lc_eq] at h
  split at h
  · rename_i pt ci ee e1 e2 e3
    split at h
    · rename_i hc
      simp only [Bool.and_eq_true, decide_eq_true_eq] at hc
      split at h
      · cases h
        exact ⟨pt, ci, ee, .yes, rfl, e1, e2, e3, hc.2, .inl ⟨rfl, rfl⟩⟩
      · rename_i t
        simp only [Option.map_eq_some_iff] at h
        obtain ⟨ct, h1, rfl⟩ := h
        exact ⟨pt, ci, ee, ct, rfl, e1, e2, e3, hc.2, .inr ⟨t, rfl, h1⟩⟩
      · cases h
    · cases h
  · cases h
/-- what is to be shown of a comprehension: pe_lc and ps_setLc ask it -/
theorem lc_parts {n : Nat} (ih : Snd c cl n) (k : Kn c cl g X) {elt tg it : Expr} {ifs : List Expr} {s : Scope} {p : Pos} {ce : CE} (h : coE g (n + 1) (.ListComp elt [⟨tg, it, ifs, 0⟩] s p) = some ce) :
    ∃ (tt : TT) (own : List (Str × Nat)), BlkOk X.N X.env.scope s own ∧ (∀ (s0 : Shared) (H0 : Hp) (C : Addr) (cl' : List (Str × Addr)) (fp : List Addr), PTs (X.blk s0 H0 s (compEnvC s cl' C X.env) fp) ifs tt) ∧ (∀ x, foldedSetIterable it X.env x = pure x) ∧
      ∀ τ S r S', evE c ce τ S = some (r, S') → ∀ F m σ H, G X.K cl F m S H → EnvOk X.K F m τ σ H → ∀ Q : VK, (∀ F' m' H' v, Stp F m H F' m' H' → G X.K cl F' m' S' H' → RvOk X.K H F' m' H' r v → Q v H') →
        tLc (SI X tg it) (bG X s tg) tt (bE X s elt) (own.map (·.2)) σ H Q := by
  obtain ⟨pt, ci, ee, ct, rfl, e1, e2, e3, hb, ht⟩ := co_lcInv h
  have ok := blkOk_by hb
  have hbe : ∀ (s0 : Shared) (H0 : Hp) (C : Addr) (cl' : List (Str × Addr)) (fp : List Addr), SndE (X.blk s0 H0 s (compEnvC s cl' C X.env) fp) c cl elt ee := fun s0 H0 C cl' fp => ih.E (kn_blk k ok.kind s0 H0 C cl' fp) e3
  have ok' : BlkOk X.N X.env.scope s (pt.slots.map fun i => (g.N.getD i ⟨#[]⟩, i)) := by rw [k.N, k.sc]; exact ok
  rcases ht with ⟨rfl, rfl⟩ | ⟨t, rfl, e4⟩
  · refine ⟨tYes, _, ok', fun _ _ _ _ _ => pts_nil, coI_set e2, fun τ S r S' hev F m σ H gg ev Q q => ?_⟩
    rw [own_slots]
    refine lc_snd k ok.kind e1 (ih.I k e2) hbe (fun τ S b S' he F m σ H gg ev Q q => ?_) hev gg ev Q q
    simp only [evT, Option.some.injEq, Prod.mk.injEq] at he
    obtain ⟨rfl, rfl⟩ := he
    exact q F m H Stp.refl gg
  · refine ⟨bT X s t, _, ok', fun s0 H0 C cl' fp => pts_one ⟨fun pins s1 σ H Q I h => h s0 H0 C cl' fp pins s1 I⟩, coI_set e2, fun τ S r S' hev F m σ H gg ev Q q => ?_⟩
    rw [own_slots]
    refine lc_snd k ok.kind e1 (ih.I k e2) hbe (fun τ S b S' he F m σ H gg ev Q q => ?_) hev gg ev Q q
    intro s0 H0 C cl' fp
    exact (ih.T (kn_blk k ok.kind s0 H0 C cl' fp) e4).1 τ S b S' he F m σ H gg ev Q q
theorem pg_b {s : Scope} {tg : Expr} (s0 : Shared) (H0 : Hp) (C : Addr) (cl' : List (Str × Addr)) (fp : List Addr) : PG (X.blk s0 H0 s (compEnvC s cl' C X.env) fp) tg (bG X s tg) := ⟨fun pins s1 σ H v u Q I r h => h s0 H0 C cl' fp pins s1 u I r⟩
theorem pe_b {s : Scope} {elt : Expr} (s0 : Shared) (H0 : Hp) (C : Addr) (cl' : List (Str × Addr)) (fp : List Addr) : PE (X.blk s0 H0 s (compEnvC s cl' C X.env) fp) elt (bE X s elt) := ⟨fun pins s1 σ H Q I h => h s0 H0 C cl' fp pins s1 I⟩
theorem co_E {n : Nat} (ih : Snd c cl n) (k : Kn c cl g X) {e : Expr} {ce : CE} (h : coE g (n + 1) e = some ce) : SndE X c cl e ce := by
  have h0 := h
  have mp : ∀ {α β : Type} {o : Option α} {f : α → β} {y : β}, o.map f = some y → ∃ x, o = some x ∧ f x = y := fun h => Option.map_eq_some_iff.mp h
  unfold coE at h
  split at h
  · obtain ⟨x, h1, rfl⟩ := mp h
    exact snd_const h1
  · split at h
    · rename_i i hi
      cases h
      exact snd_var k hi
    · split at h
      · rename_i hg
        obtain ⟨x, h1, rfl⟩ := mp h
        exact snd_glob k hg h1
      · cases h
  · split at h
    · rename_i o x y e1 e2 e3
      cases h
      exact snd_bin e1 (ih.E k e2) (ih.E k e3)
    · cases h
  · obtain ⟨x, h1, rfl⟩ := mp h
    exact snd_neg (ih.E k h1)
  · obtain ⟨x, h1, rfl⟩ := mp h
    exact snd_not (ih.E k h1)
  · exact snd_one (ih.E k h)
  · split at h
    · rename_i x y e1 e2
      cases h
      exact snd_and (ih.E k e1) (ih.E k e2)
    · cases h
  · split at h
    · rename_i x y e1 e2
      cases h
      exact snd_or (ih.E k e1) (ih.E k e2)
    · cases h
  · split at h
    · rename_i x y e1 e2
      cases h
      exact snd_cmp k (coE_set e2) (ih.E k e1) (ih.E k e2)
    · cases h
  · split at h
    · rename_i x y z e1 e2 e3
      cases h
      exact snd_chain k (coE_set e3) (ih.E k e1) (ih.E k e2) (ih.E k e3)
    · cases h
  · split at h
    · rename_i x y z e1 e2 e3
      cases h
      exact snd_ite (ih.T k e1).1 (ih.E k e2) (ih.E k e3)
    · cases h
  · obtain ⟨x, h1, rfl⟩ := mp h
    obtain ⟨q1, q2⟩ := ih.A k h1
    exact snd_tup (snda_of q2 q1)
  · obtain ⟨x, h1, rfl⟩ := mp h
    obtain ⟨q1, q2⟩ := ih.A k h1
    exact snd_lst (snda_of q2 q1)
  · exact co_sub ih k h0
  · split at h
    · rename_i hc
      simp only [Bool.and_eq_true, decide_eq_true_eq] at hc
      obtain ⟨x, h1, rfl⟩ := mp h
      exact snd_attr k hc.2 hc.1 (ih.E k h1)
    · cases h
  · exact co_call ih k h0
  · obtain ⟨tt, own, q1, q2, q3, q4⟩ := lc_parts ih k h0
    intro τ S r S' he F m σ H gg ev Q q
    exact se_of (pe_lc k.calm k.nd pi_si q1 pg_b q2 pe_b q3) (q4 τ S r S' he F m σ H gg ev Q q)
  · split at h
    · rename_i e1 e2
      cases h
      exact snd_dct e1 (ih.A k e2).2
    · cases h
  · cases h
theorem co_snd : ∀ n, Snd c cl n := by
  intro n
  induction n using Nat.strongRecOn with
  | ind n ih =>
    cases n with
    | zero => exact ⟨fun k e ce h => (by have h : (none : Option CE) = some ce := h; cases h), fun k e ct h => (by have h : (none : Option CT) = some ct := h; cases h), fun k es cs h => (by have h : (none : Option CA) = some cs := h; cases h), fun k tg b e ci h => (by have h : (none : Option CI) = some ci := h; cases h)⟩
    | succ n => exact ⟨fun k e ce h => co_E (ih n (by omega)) k h, fun k e ct h => co_T (fun m hm => ih m (by omega)) k h, fun k es cs h => co_A (ih n (by omega)) k h, fun k tg b e ci h => co_I (ih n (by omega)) k h⟩
end
end Co
end

section
set_option maxHeartbeats 0
set_option Elab.async false
set_option linter.all false
set_option maxRecDepth 100000
/-! Co10: statements, one kind at a time. -/
namespace Co
open PySem L2

def SS (X : Cx) (s : Stmt) : TS := fun D σ H => ∀ pins s0, Inv X pins σ H s0 → wpAny (model X.prog X.w) X.A (exec s X.env) (SP X pins D) X.xe s0
def SSs (X : Cx) (ss : List Stmt) : TS := fun D σ H => ∀ pins s0, Inv X pins σ H s0 → wpAny (model X.prog X.w) X.A (execs ss X.env) (SP X pins D) X.xe s0
section
variable {X : Cx} {s : Stmt} {ss : List Stmt} {D : Ends} {σ : St} {H : Hp}
theorem ps_ss : PS X s (SS X s) := ⟨fun pins s0 _ _ _ I h => h pins s0 I⟩
theorem pss_sss : PSs X ss (SSs X ss) := ⟨fun pins s0 _ _ _ I h => h pins s0 I⟩
theorem ss_of {t : TS} (h : PS X s t) (q : t D σ H) : SS X s D σ H := fun pins s0 I => h.run pins s0 σ H D I q
theorem sss_of {t : TS} (h : PSs X ss t) (q : t D σ H) : SSs X ss D σ H := fun pins s0 I => h.run pins s0 σ H D I q
end

/-- how things stand between two statements; F0, m0, H0: at the def's entry -/
structure StOk (K : PySem.W.Frag) (cl : List Addr) (F0 : Hp) (m0 : List Addr) (H0 F : Hp) (m : List Addr) (H : Hp) (τ : Env) (σ : L2.St) (S : Store) : Prop where
  st : Stp F0 m0 H0 F m H
  g : G K cl F m S H
  ev : EnvOk K F m τ σ H
  own : Own H0 τ σ
def Post (K : PySem.W.Frag) (cl : List Addr) (F0 : Hp) (m0 : List Addr) (H0 F : Hp) (m : List Addr) (D : Ends) : Out → Prop
  | .nx τ S => ∀ F' m' σ' H', Same F F' → (∃ l, m' = m ++ l) → StOk K cl F0 m0 H0 F' m' H' τ σ' S → D.nx σ' H'
  | .brk τ S => ∀ F' m' σ' H', Same F F' → (∃ l, m' = m ++ l) → StOk K cl F0 m0 H0 F' m' H' τ σ' S → D.bk σ' H'
  | .ct τ S => ∀ F' m' σ' H', Same F F' → (∃ l, m' = m ++ l) → StOk K cl F0 m0 H0 F' m' H' τ σ' S → D.ct σ' H'
  | .ret d S => ∀ F' m' H' v, Same F F' → (∃ l, m' = m ++ l) → Stp F0 m0 H0 F' m' H' → G K cl F' m' S H' → Is K F' m' d v → D.rt v H'
def SndS (X : Cx) (c : Ctx) (cl : List Addr) (s : Stmt) (cs : CS) : Prop := ∀ τ S o, exS c cs τ S = some o → ∀ F0 m0 H0 F m σ H, StOk X.K cl F0 m0 H0 F m H τ σ S → ∀ D, Post X.K cl F0 m0 H0 F m D o → SS X s D σ H
def SndB (X : Cx) (c : Ctx) (cl : List Addr) (ss : List Stmt) (cb : CB) : Prop := ∀ τ S o, exB c cb τ S = some o → ∀ F0 m0 H0 F m σ H, StOk X.K cl F0 m0 H0 F m H τ σ S → ∀ D, Post X.K cl F0 m0 H0 F m D o → SSs X ss D σ H

section
variable {X : Cx} {c : Ctx} {cl : List Addr} {g : Gm} {a e tg it : Expr} {ca ce : CE} {ci : CI} {ct : CT} {τ τ' : Env} {S S' S1 S2 : Store} {F F' H' H0 F0 F1 F2 H1 H2 : Hp} {m m' m0 m1 m2 : List Addr} {σ σ' : St} {H : Hp} {x y r : Rv} {d : D} {ds es : List D} {b : Bool} {K : PySem.W.Frag} {v : V} {vs ws : List V} {D' : Ends} {o : Out} {pos : Pos}

theorem pre_trans (p : ∃ l, m1 = m ++ l) (q : ∃ l, m2 = m1 ++ l) : ∃ l, m2 = m ++ l := by
  obtain ⟨l, rfl⟩ := p
  obtain ⟨l2, rfl⟩ := q
  exact ⟨l ++ l2, by simp⟩
theorem pre_refl : ∃ l, m = m ++ l := ⟨[], by simp⟩
theorem Post.later (h : Post K cl F0 m0 H0 F m D' o) (s : Same F F1) (p : ∃ l, m1 = m ++ l) : Post K cl F0 m0 H0 F1 m1 D' o := by
  cases o with
  | nx τ S => exact fun F' m' σ' H' q r k => h F' m' σ' H' (s.trans q) (pre_trans p r) k
  | brk τ S => exact fun F' m' σ' H' q r k => h F' m' σ' H' (s.trans q) (pre_trans p r) k
  | ct τ S => exact fun F' m' σ' H' q r k => h F' m' σ' H' (s.trans q) (pre_trans p r) k
  | ret d S => exact fun F' m' H' v q r k1 k2 k3 => h F' m' H' v (s.trans q) (pre_trans p r) k1 k2 k3
theorem StOk.step (h : StOk K cl F0 m0 H0 F m H τ σ S) (st : Stp F m H F1 m1 H1) (g1 : G K cl F1 m1 S1 H1) : StOk K cl F0 m0 H0 F1 m1 H1 τ σ S1 := ⟨h.st.trans st, g1, h.ev.step st, h.own⟩
theorem StOk.setVal {i : Nat} (h : StOk K cl F0 m0 H0 F m H τ σ S) (hv : Is K F m d v) : StOk K cl F0 m0 H0 F m H (τ.set i (.val d)) (σ.set i (some v)) S := ⟨h.st, h.g, h.ev.setVal hv, h.own.setVal⟩
theorem isOwn_setO {i j : Nat} {ds : List D} (h : isOwn (τ.set i (.own ds))[j]? = true) : (j = i ∧ i < τ.length) ∨ (j ≠ i ∧ isOwn τ[j]? = true) := by
  by_cases e : i = j
  · subst e
    by_cases hl : i < τ.length
    · exact .inl ⟨rfl, hl⟩
    · rw [List.getElem?_eq_none (by simpa using hl)] at h; cases h
  · rw [List.getElem?_set_ne e] at h
    exact .inr ⟨Ne.symm e, h⟩
/-- a new list of its own -/
theorem StOk.setOwn {i : Nat} {p : Addr} (h : StOk K cl F0 m0 H0 F m H τ σ S) (st : Stp F m H F1 m1 H1) (g1 : G K cl F1 m1 S1 H1) (hp : H p = none) (h1 : H1 p = some (.lst vs)) (fp : F1 p = none) (pm : p ∉ m1) (hi : IsA K F1 m1 ds vs) :
    StOk K cl F0 m0 H0 F1 m1 H1 (τ.set i (.own ds)) (σ.set i (some (.ref p))) S1 := by
  have e1 := h.ev.step st
  have far : ∀ {j : Nat}, isOwn τ[j]? = true → σ[j]? ≠ some (some (.ref p)) := fun {j} ho e => by
    cases q : τ[j]? with
    | none => rw [q] at ho; cases ho
    | some s =>
      cases s with
      | own ds' =>
        obtain ⟨p', vs', k1, k2, k3, k4, k5⟩ := h.ev.sl j _ q
        rw [e] at k1; cases k1
        rw [hp] at k4; cases k4
      | _ => rw [q] at ho; cases ho
  refine ⟨h.st.trans st, g1, ⟨by simp [e1.len], fun j s e => ?_, fun j k q hne o1 o2 e2 e3 => ?_⟩, fun j q o1 e2 => ?_⟩
  · by_cases hj : i = j
    · subst hj
      rw [List.getElem?_set] at e
      simp only [if_true] at e
      split at e
      · cases e
        rename_i hl
        have hl2 : i < σ.length := by rw [← h.ev.len]; exact hl
        exact ⟨p, vs, by rw [List.getElem?_set]; simp [hl2], fp, pm, h1, hi⟩
      · cases e
    · rw [List.getElem?_set_ne hj] at e ⊢
      exact e1.sl j s e
  · rcases isOwn_setO o1 with ⟨rfl, hl⟩ | ⟨n1, o1⟩
    · rcases isOwn_setO o2 with ⟨rfl, _⟩ | ⟨n2, o2⟩
      · exact hne rfl
      · rw [List.getElem?_set] at e2
        rw [List.getElem?_set_ne (Ne.symm n2)] at e3
        simp only [if_true] at e2
        split at e2
        · cases e2; exact far o2 e3
        · cases e2
    · rw [List.getElem?_set_ne (Ne.symm n1)] at e2
      rcases isOwn_setO o2 with ⟨ek, _⟩ | ⟨n2, o2⟩
      · rw [ek, List.getElem?_set] at e3
        simp only [if_true] at e3
        split at e3
        · cases e3; exact far (by assumption) e2
        · cases e3
      · rw [List.getElem?_set_ne (Ne.symm n2)] at e3
        exact e1.apart j k q hne (by assumption) (by assumption) e2 e3
  · rcases isOwn_setO o1 with ⟨rfl, hl⟩ | ⟨n1, o1⟩
    · rw [List.getElem?_set] at e2
      simp only [if_true] at e2
      split at e2
      · cases e2; exact h.st.none hp
      · cases e2
    · rw [List.getElem?_set_ne (Ne.symm n1)] at e2
      exact h.own j q o1 e2
theorem asg_ok {i : Nat} (h : StOk K cl F0 m0 H0 F m H τ σ S) (st : Stp F m H F1 m1 H1) (g1 : G K cl F1 m1 S1 H1) (hr : RvOk K H F1 m1 H1 x v) (e : asgR i x τ = some τ') : StOk K cl F0 m0 H0 F1 m1 H1 τ' (σ.set i (some v)) S1 := by
  cases x with
  | fz d =>
    simp only [asgR, Option.some.injEq] at e
    subst e
    exact (h.step st g1).setVal hr
  | fr ds =>
    simp only [asgR, Option.some.injEq] at e
    subst e
    obtain ⟨p, vs, rfl, h1, fp, pm, hp, hi⟩ := hr
    exact h.setOwn st g1 hp h1 fp pm hi
  | rd ds => cases e
/-- where an own list stands -/
theorem own_at {i : Nat} (h : EnvOk K F m τ σ H) (e : ownAt τ i = some ds) : ∃ p vs, τ[i]? = some (.own ds) ∧ σ[i]? = some (some (.ref p)) ∧ F p = none ∧ p ∉ m ∧ H p = some (.lst vs) ∧ IsA K F m ds vs := by
  unfold ownAt at e
  split at e
  · rename_i ds' q
    cases e
    obtain ⟨p, vs, k1, k2, k3, k4, k5⟩ := h.sl i _ q
    exact ⟨p, vs, q, k1, k2, k3, k4, k5⟩
  · cases e
/-- an own list is changed -/
theorem StOk.updOwn {i : Nat} {p : Addr} {es : List D} {us : List V} (h : StOk K cl F0 m0 H0 F m H τ σ S) (ht : τ[i]? = some (.own ds)) (hs : σ[i]? = some (some (.ref p))) (fp : F p = none) (pm : p ∉ m) (hH : H p = some (.lst vs)) (hi : IsA K F m es us) :
    StOk K cl F0 m0 H0 F m (upd H p (.lst us)) (τ.set i (.own es)) σ S := by
  have hown : isOwn τ[i]? = true := by rw [ht]; rfl
  have h0 : H0 p = none := h.own i p hown hs
  have setO : ∀ {j}, isOwn (τ.set i (.own es))[j]? = true → isOwn τ[j]? = true := fun {j} o => by
    rcases isOwn_setO o with ⟨rfl, _⟩ | ⟨_, o⟩
    · exact hown
    · exact o
  refine ⟨h.st.updNew h0, h.g.updOwn pm fp (fun a => by rw [hH]; exact fun z => nomatch z), ⟨by simp [h.ev.len], fun j s e => ?_, fun j k q hne o1 o2 => h.ev.apart j k q hne (setO o1) (setO o2)⟩, fun j q o1 => h.own j q (setO o1)⟩
  by_cases hj : i = j
  · subst hj
    rw [List.getElem?_set] at e
    simp only [if_true] at e
    split at e
    · cases e
      exact ⟨p, us, hs, fp, pm, upd_same, hi⟩
    · cases e
  · rw [List.getElem?_set_ne hj] at e
    have q := h.ev.sl j s e
    cases s with
    | non => trivial
    | val d => exact q
    | own ds' =>
      obtain ⟨p', vs', k1, k2, k3, k4, k5⟩ := q
      have hne : p' ≠ p := fun z => h.ev.apart i j p hj hown (by rw [e]; rfl) hs (by rw [k1, z])
      exact ⟨p', vs', k1, k2, k3, by rw [upd_ne hne]; exact k4, k5⟩
/-- an object is changed -/
theorem StOk.setObj {n : Nat} {a : Addr} {ob : Ob} {ho : HO} (h : StOk K cl F0 m0 H0 F m H τ σ S) (ha : m[n]? = some a) (hq : ∀ b, H a ≠ some (.own b)) (hob : ObIs K cl F m (upd H a ho) a ob) (hl : n < S.length) : StOk K cl F0 m0 H0 F m (upd H a ho) τ σ (S.set n ob) := by
  have ham : a ∈ m := List.mem_of_getElem? ha
  have hfa : F a = none := by
    have : ∃ o, S[n]? = some o := ⟨S[n], by simp [hl]⟩
    obtain ⟨o, eo⟩ := this
    exact (h.g.ob n a o ha eo).1
  refine ⟨?_, ?_, ?_, h.own⟩
  · refine ⟨h.st.sub, h.st.pre, fun b u hb hn => ?_, h.st.nof, h.st.newm, fun b hb => ?_⟩
    · have hne : b ≠ a := fun z => (h.st.newm a ham).elim (fun q => hn (z ▸ q)) fun q => by rw [z, q] at hb; cases hb
      rw [upd_ne hne]; exact h.st.keep b u hb hn
    · by_cases e : b = a
      · subst e; rw [upd_same]; exact fun z => nomatch z
      · rw [upd_ne e]; exact h.st.stay b hb
  · refine ⟨fun b u hb => ?_, by simp [h.g.len], h.g.nd, fun j b o' h1 h2 => ?_⟩
    · rw [upd_ne (fun z => by rw [z, hfa] at hb; cases hb)]; exact h.g.sub b u hb
    · by_cases hj : n = j
      · subst hj
        rw [ha] at h1; cases h1
        rw [List.getElem?_set] at h2
        simp only [if_true, hl] at h2
        cases h2
        exact ⟨hfa, hob⟩
      · rw [List.getElem?_set_ne hj] at h2
        obtain ⟨q1, q2⟩ := h.g.ob j b o' h1 h2
        have hne : b ≠ a := fun z => by
          subst z
          have l1 := (List.getElem?_eq_some_iff.mp ha)
          have l2 := (List.getElem?_eq_some_iff.mp h1)
          obtain ⟨p1, e1⟩ := l1
          obtain ⟨p2, e2⟩ := l2
          exact hj ((List.getElem_inj h.g.nd).mp (e1.trans e2.symm))
        exact ⟨q1, q2.keep (Same.refl _) (upd_ne hne) fun dx h => by rw [upd_ne (fun z : dx = a => hq b (by rw [← z]; exact h))]; exact h⟩
  · refine ⟨h.ev.len, fun j s e => ?_, h.ev.apart⟩
    have q := h.ev.sl j s e
    cases s with
    | non => trivial
    | val d => exact q
    | own ds' =>
      obtain ⟨p', vs', k1, k2, k3, k4, k5⟩ := q
      exact ⟨p', vs', k1, k2, k3, by rw [upd_ne (fun z : p' = a => k3 (by rw [z]; exact ham))]; exact k4, k5⟩
/-- own lists let go -/
theorem frz_ok : ∀ {is : List Nat} {τ : Env} {F : Hp}, StOk K cl F0 m0 H0 F m H τ σ S → ∃ F1, Same F F1 ∧ StOk K cl F0 m0 H0 F1 m H (frz is τ) σ S
  | [], τ, F, h => ⟨F, Same.refl _, h⟩
  | i :: is, τ, F, h => by
    unfold frz
    split
    · rename_i ds q
      obtain ⟨p, vs, k1, k2, k3, k4, k5⟩ := h.ev.sl i _ q
      have hown : isOwn τ[i]? = true := by rw [q]; rfl
      have h0 : H0 p = none := h.own i p hown k1
      have sm : Same F (upd F p (.lst vs)) := same_new k2
      have new : StOk K cl F0 m0 H0 (upd F p (.lst vs)) m H (τ.set i (.val (.lst ds))) σ S := by
        refine ⟨h.st.frz k4 k2 h0, h.g.frz k4 k2 k3, ⟨by simp [h.ev.len], fun j s e => ?_, fun j k r hne o1 o2 => h.ev.apart j k r hne (isOwn_set o1).2 (isOwn_set o2).2⟩, fun j r o1 => h.own j r (isOwn_set o1).2⟩
        by_cases hj : i = j
        · subst hj
          rw [List.getElem?_set] at e
          simp only [if_true] at e
          split at e
          · cases e
            refine ⟨_, k1, ?_⟩
            simp only [Is]
            exact ⟨p, vs, rfl, upd_same, IsA.mono sm pre_refl _ _ k5⟩
          · cases e
        · rw [List.getElem?_set_ne hj] at e
          have q2 := h.ev.sl j s e
          cases s with
          | non => trivial
          | val d => obtain ⟨v, e1, e2⟩ := q2; exact ⟨v, e1, Is.mono sm pre_refl _ _ e2⟩
          | own ds' =>
            obtain ⟨p', vs', r1, r2, r3, r4, r5⟩ := q2
            have hne : p' ≠ p := fun z => h.ev.apart i j p hj hown (by rw [e]; rfl) k1 (by rw [r1, z])
            exact ⟨p', vs', r1, by rw [upd_ne hne]; exact r2, r3, r4, IsA.mono sm pre_refl _ _ r5⟩
      obtain ⟨F1, s1, h1⟩ := frz_ok (is := is) new
      exact ⟨F1, sm.trans s1, h1⟩
    · exact frz_ok h

/-! ### stores -/
theorem sw_false {t : Option Expr} {l : Nat} {env : PySem.Env} (h : isLC e = false) : swapsWith e t l env = pure false := by
  cases e <;> first | rfl | (cases h; done)
theorem snds_set {i : Nat} {xn : Str} {px : Pos} (k : Kn c cl g X) (hi : g.stor xn = some i) (hl : isLC e = false) (se : SndE X c cl e ce) : SndS X c cl (.Assign [.Name xn px] e pos) (.set i ce) := by
  intro τ S o he F0 m0 H0 F m σ H ok D P
  obtain ⟨h1, h2, h3⟩ := stor_ok k hi
  simp only [exS] at he
  split at he
  rotate_left
  · cases he
  rename_i x S1 ex
  split at he
  rotate_left
  · cases he
  rename_i τ' ea
  cases he
  refine ss_of (ps_set k.nd h1 h2 pe_se (sw_false hl) h3) (se τ S x S1 ex F m σ H ok.g ok.ev _ fun F1 m1 H1 v st g1 r1 => ?_)
  exact P F1 m1 _ H1 st.sub st.pre (asg_ok ok st g1 r1 ea)
theorem snds_setLc {n i : Nat} {xn : Str} {px p2 : Pos} {elt tg it : Expr} {ifs : List Expr} {s : Scope} (k : Kn c cl g X) (ih : Snd c cl n) (hi : g.stor xn = some i) (hs : lcSw g (.Name xn px) (.ListComp elt [⟨tg, it, ifs, 0⟩] s p2) = true) (h : coE g (n + 1) (.ListComp elt [⟨tg, it, ifs, 0⟩] s p2) = some ce) :
    SndS X c cl (.Assign [.Name xn px] (.ListComp elt [⟨tg, it, ifs, 0⟩] s p2) pos) (.set i ce) := by
  intro τ S o he F0 m0 H0 F m σ H ok D P
  obtain ⟨h1, h2, h3⟩ := stor_ok k hi
  simp only [exS] at he
  split at he
  rotate_left
  · cases he
  rename_i x S1 ex
  split at he
  rotate_left
  · cases he
  rename_i τ' ea
  cases he
  simp only [lcSw, Bool.and_eq_true, decide_eq_true_eq, Bool.not_eq_true'] at hs
  obtain ⟨⟨q1, q2⟩, q3⟩ := hs
  have hl : X.env.scope.names.lookup xn = some .local := by rw [k.sc]; exact q1
  obtain ⟨tt, own, r1, r2, r3, r4⟩ := lc_parts ih k h
  refine ss_of (ps_setLc k.calm k.nd h1 hl (sw_true (by rw [k.sc]; exact k.kd) hl (by simpa using q2) q3) pi_si r1 pg_b r2 pe_b r3) (r4 τ S x S1 ex F m σ H ok.g ok.ev _ fun F1 m1 H1 v st g1 rr => ?_)
  exact P F1 m1 _ H1 st.sub st.pre (asg_ok ok st g1 rr ea)
/-- a target takes a value that stands -/
theorem pat_ok {p : Pat} (sp : SndP X cl tg p) (ok : StOk X.K cl F0 m0 H0 F m H τ σ S) (ea : p.asg d τ = some τ') (hv : Is X.K F m d v) {D : Ends} (P : ∀ σ', StOk X.K cl F0 m0 H0 F m H τ' σ' S → D.nx σ' H) : SG X tg v σ H D.nx :=
  sp d τ τ' ea F m S σ H v ok.g ok.ev hv _ fun σ' ev ow _ => P σ' ⟨ok.st, ok.g, ev, ow _ ok.own⟩
theorem snds_setP {p : Pat} {ts : List Expr} {kk : Nat} {pt : Pos} (k : Kn c cl g X) (hp : SndP X cl (.Tuple ts kk pt) p) (hl : isLC e = false) (hw : swappedStores [.Tuple ts kk pt] e X.env = pure none) (se : SndE X c cl e ce) : SndS X c cl (.Assign [.Tuple ts kk pt] e pos) (.setP p ce) := by
  intro τ S o he F0 m0 H0 F m σ H ok D P
  simp only [exS] at he
  split at he
  rotate_left
  · cases he
  rename_i x S1 ex
  split at he
  rotate_left
  · cases he
  rename_i d ed
  split at he
  rotate_left
  · cases he
  rename_i τ' ea
  cases he
  refine ss_of (ps_asg pe_se pg_sg (show swapsWith e (some (.Tuple ts kk pt)) pos.line X.env = pure false from sw_false hl) hw) (se τ S x S1 ex F m σ H ok.g ok.ev _ fun F1 m1 H1 v st g1 r1 => ?_)
  obtain ⟨F2, st2, g2, sm, i2⟩ := keep_ok st g1 r1 ed
  exact pat_ok hp (ok.step st2 g2) ea i2 fun σ' ok' => P F2 m1 σ' H1 st2.sub st2.pre ok'
theorem snds_drop (hl : isLC e = false) (se : SndE X c cl e ce) : SndS X c cl (.Expr e pos) (.drop ce) := by
  intro τ S o he F0 m0 H0 F m σ H ok D P
  simp only [exS] at he
  split at he
  rotate_left
  · cases he
  rename_i x S1 ex
  cases he
  refine ss_of (ps_expr pe_se (sw_false hl)) (se τ S x S1 ex F m σ H ok.g ok.ev _ fun F1 m1 H1 v st g1 r1 => ?_)
  exact P F1 m1 _ H1 st.sub st.pre (ok.step st g1)
theorem snds_ret (se : SndE X c cl e ce) : SndS X c cl (.Return (some e) pos) (.ret ce) := by
  intro τ S o he F0 m0 H0 F m σ H ok D P
  simp only [exS] at he
  split at he
  rotate_left
  · cases he
  rename_i x S1 ex
  split at he
  rotate_left
  · cases he
  rename_i d ed
  cases he
  refine ss_of (ps_ret pe_se) (se τ S x S1 ex F m σ H ok.g ok.ev _ fun F1 m1 H1 v st g1 r1 => ?_)
  obtain ⟨F2, st2, g2, sm, i2⟩ := keep_ok st g1 r1 ed
  exact P F2 m1 H1 v st2.sub st2.pre (ok.st.trans st2) g2 i2
theorem snds_retN : SndS X c cl (.Return none pos) .retN := by
  intro τ S o he F0 m0 H0 F m σ H ok D P
  simp only [exS, Option.some.injEq] at he
  subst he
  exact ss_of ps_retN (P F m H _ (Same.refl _) pre_refl ok.st ok.g (by simp [Is]))
theorem snds_pass : SndS X c cl (.Pass pos) .pass := by
  intro τ S o he F0 m0 H0 F m σ H ok D P
  simp only [exS, Option.some.injEq] at he
  subst he
  exact ss_of ps_pass (P F m σ H (Same.refl _) pre_refl ok)
theorem snds_doc {z : Str} {j : Nat} {p : Pos} : SndS X c cl (.Expr (.Constant (.str z) j p) pos) .pass := by
  intro τ S o he F0 m0 H0 F m σ H ok D P
  simp only [exS, Option.some.injEq] at he
  subst he
  exact ss_of ps_doc (P F m σ H (Same.refl _) pre_refl ok)
theorem snds_brk : SndS X c cl (.Break pos) .brk := by
  intro τ S o he F0 m0 H0 F m σ H ok D P
  simp only [exS, Option.some.injEq] at he
  subst he
  exact ss_of ps_break (P F m σ H (Same.refl _) pre_refl ok)
theorem snds_cont : SndS X c cl (.Continue pos) .cont := by
  intro τ S o he F0 m0 H0 F m σ H ok D P
  simp only [exS, Option.some.injEq] at he
  subst he
  exact ss_of ps_continue (P F m σ H (Same.refl _) pre_refl ok)
theorem snds_never {s : Stmt} : SndS X c cl s .never := by
  intro τ S o he
  simp [exS] at he
theorem snds_if {t : Expr} {A B : List Stmt} {ba bb : CB} (st : SndT X c cl t ct) (ha : SndB X c cl A ba) (hb : SndB X c cl B bb) : SndS X c cl (.If t A B pos) (.ifs ct ba bb) := by
  intro τ S o he F0 m0 H0 F m σ H ok D P
  simp only [exS] at he
  split at he
  · rename_i S1 et
    refine ss_of (ps_if pt_st pss_sss pss_sss) (st τ S true S1 et F m σ H ok.g ok.ev _ fun F1 m1 H1 s1 g1 => ?_)
    rw [if_pos rfl]
    exact ha τ S1 o he F0 m0 H0 F1 m1 σ H1 (ok.step s1 g1) D (P.later s1.sub s1.pre)
  · rename_i S1 et
    refine ss_of (ps_if pt_st pss_sss pss_sss) (st τ S false S1 et F m σ H ok.g ok.ev _ fun F1 m1 H1 s1 g1 => ?_)
    rw [if_neg Bool.false_ne_true]
    exact hb τ S1 o he F0 m0 H0 F1 m1 σ H1 (ok.step s1 g1) D (P.later s1.sub s1.pre)
  · cases he
theorem sndb_nil : SndB X c cl [] .nil := by
  intro τ S o he F0 m0 H0 F m σ H ok D P
  simp only [exB, Option.some.injEq] at he
  subst he
  exact sss_of pss_nil (P F m σ H (Same.refl _) pre_refl ok)
theorem sndb_cons {s : Stmt} {ss : List Stmt} {cs : CS} {cb : CB} {fz : List Nat} (hs : SndS X c cl s cs) (hb : SndB X c cl ss cb) : SndB X c cl (s :: ss) (.cons fz cs cb) := by
  intro τ S o he F0 m0 H0 F m σ H ok D P
  obtain ⟨F1, sm, ok1⟩ := frz_ok (is := fz) ok
  have P1 := P.later sm pre_refl
  simp only [exB] at he
  refine sss_of (pss_cons ps_ss pss_sss) ?_
  cases e1 : exS c cs (frz fz τ) S with
  | none => rw [e1] at he; cases he
  | some o1 =>
    rw [e1] at he
    refine hs _ S o1 e1 F0 m0 H0 F1 m σ H ok1 _ ?_
    cases o1 with
    | nx τ' S' => exact fun F' m' σ' H' sm' pr ok' => hb τ' S' o he F0 m0 H0 F' m' σ' H' ok' D (P1.later sm' pr)
    | brk τ' S' => cases he; exact P1
    | ct τ' S' => cases he; exact P1
    | ret d S' => cases he; exact P1

/-! ### loops -/
theorem whD_some {t : Env → Store → Option (Bool × Store)} {b : Env → Store → Option Out} (h : whD t b τ S = some o) : ∃ n, whF t b n τ S = some o := by
  unfold whD at h
  split at h
  · rename_i q
    have := Classical.choose_spec (Classical.choose_spec q)
    simp only [Option.some.injEq] at h
    rw [h] at this
    exact ⟨_, this⟩
  · cases h
theorem snds_while {t : Expr} {B : List Stmt} {cb : CB} (hp : PassesOwn (model X.prog X.w) X.A X.env X.xe) (st : SndT X c cl t ct) (hb : SndB X c cl B cb) : SndS X c cl (.While t B [] pos) (.whl ct cb) := by
  intro τ S o he F0 m0 H0 F m σ H ok D P
  simp only [exS] at he
  obtain ⟨n, hn⟩ := whD_some he
  refine ss_of (ps_while hp pt_st pss_sss) ⟨fun k σ1 H1 => ∃ F1 m1 τ1 S1, Same F F1 ∧ (∃ l, m1 = m ++ l) ∧ StOk X.K cl F0 m0 H0 F1 m1 H1 τ1 σ1 S1 ∧ whF (evT c ct) (exB c cb) k τ1 S1 = some o, ⟨n, F, m, τ, S, Same.refl _, pre_refl, ok, hn⟩, ?_⟩
  rintro k σ1 H1 ⟨F1, m1, τ1, S1, sm, pr, ok1, hk⟩
  cases k with
  | zero => cases hk
  | succ k =>
    simp only [whF] at hk
    split at hk
    · rename_i S2 et
      cases hk
      refine st τ1 S1 false S2 et F1 m1 σ1 H1 ok1.g ok1.ev _ fun F2 m2 H2 s2 g2 => ?_
      rw [if_neg Bool.false_ne_true]
      exact P F2 m2 σ1 H2 (sm.trans s2.sub) (pre_trans pr s2.pre) (ok1.step s2 g2)
    · rename_i S2 et
      refine st τ1 S1 true S2 et F1 m1 σ1 H1 ok1.g ok1.ev _ fun F2 m2 H2 s2 g2 => ?_
      rw [if_pos rfl]
      have sm2 := sm.trans s2.sub
      have pr2 := pre_trans pr s2.pre
      refine ⟨fun σ' H' => ∃ F1 m1 τ1 S1, Same F F1 ∧ (∃ l, m1 = m ++ l) ∧ StOk X.K cl F0 m0 H0 F1 m1 H' τ1 σ' S1 ∧ whF (evT c ct) (exB c cb) k τ1 S1 = some o, fun σ' H' h => ⟨k, by omega, h⟩, ?_⟩
      cases e1 : exB c cb τ1 S2 with
      | none => rw [e1] at hk; cases hk
      | some o1 =>
        rw [e1] at hk
        refine hb τ1 S2 o1 e1 F0 m0 H0 F2 m2 σ1 H2 (ok1.step s2 g2) _ ?_
        cases o1 with
        | nx τ' S' => exact fun F' m' σ' H' sm' pr' ok' => ⟨F', m', τ', S', sm2.trans sm', pre_trans pr2 pr', ok', hk⟩
        | ct τ' S' => exact fun F' m' σ' H' sm' pr' ok' => ⟨F', m', τ', S', sm2.trans sm', pre_trans pr2 pr', ok', hk⟩
        | brk τ' S' => cases hk; exact fun F' m' σ' H' sm' pr' ok' => P F' m' σ' H' (sm2.trans sm') (pre_trans pr2 pr') ok'
        | ret d S' => cases hk; exact fun F' m' H' v sm' pr' k1 k2 k3 => P F' m' H' v (sm2.trans sm') (pre_trans pr2 pr') k1 k2 k3
    · cases hk
theorem snds_for {B : List Stmt} {cb : CB} {p : Pat} (k : Kn c cl g X) (hp : PassesOwn (model X.prog X.w) X.A X.env X.xe) (hi : SndI X c cl tg true it ci) (hf : ∀ x, foldedSetIterable it X.env x = pure x) (sp : SndP X cl tg p) (hb : SndB X c cl B cb) : SndS X c cl (.For tg it B [] pos) (.for p ci cb) := by
  intro τ S o he F0 m0 H0 F m σ H ok D P
  simp only [exS] at he
  split at he
  rotate_left
  · cases he
  rename_i ds S1 ei
  refine ss_of (ps_for hp k.calm pi_si pg_sg pss_sss hf) (hi τ S ds S1 ei F m σ H ok.g ok.ev _ fun F1 m1 H1 J st g1 wk => ?_)
  obtain ⟨Gd, Y, w, hgd, hy⟩ := wk
  refine for_it w (fun i σ2 H2 => ∃ F2 m2 τ2 S2, Same F1 F2 ∧ (∃ l, m2 = m1 ++ l) ∧ StOk X.K cl F0 m0 H0 F2 m2 H2 τ2 σ2 S2 ∧ forGo (fun d σ S => match p.asg d σ with | some σ' => exB c cb σ' S | none => none) (ds.drop i) τ2 S2 = some o) ?_ ?_ ?_ ?_
  · exact ⟨F1, m1, τ, S1, Same.refl _, pre_refl, ok.step st g1, he⟩
  · rintro i σ2 H2 _ ⟨F2, m2, τ2, S2, sm, pr, ok2, _⟩
    exact hgd H2 ⟨sm.trans ok2.g.sub, fun z => nomatch z⟩
  · rintro i x σ2 H2 H3 hl ⟨F2, m2, τ2, S2, sm, pr, ok2, el⟩ hY
    obtain ⟨d, F3, hd, st3, g3, is3⟩ := hy F2 m2 S2 H2 i x H3 sm pr ok2.g hl hY
    have edrop : ds.drop i = d :: ds.drop (i + 1) := by
      have hx : ds[i]'hl = d := by rw [List.getElem?_eq_getElem hl] at hd; exact Option.some.inj hd
      rw [← hx]; exact List.drop_eq_getElem_cons hl
    rw [edrop] at el
    simp only [forGo] at el
    have ok3 := ok2.step st3 g3
    cases ea : p.asg d τ2 with
    | none => rw [ea] at el; cases el
    | some τ3 =>
      rw [ea] at el
      simp only at el
      refine sp d τ2 τ3 ea F3 m2 S2 σ2 H3 x g3 ok3.ev is3 _ fun σ3 ev3 ow3 _ => ?_
      have ok4 : StOk X.K cl F0 m0 H0 F3 m2 H3 τ3 σ3 S2 := ⟨ok3.st, g3, ev3, ow3 _ ok3.own⟩
      have sm3 := sm.trans st3.sub
      cases e1 : exB c cb τ3 S2 with
      | none => rw [e1] at el; cases el
      | some o1 =>
        rw [e1] at el
        refine hb τ3 S2 o1 e1 F0 m0 H0 F3 m2 σ3 H3 ok4 _ ?_
        cases o1 with
        | nx τ' S' => exact fun F' m' σ' H' sm' pr' ok' => ⟨F', m', τ', S', sm3.trans sm', pre_trans pr pr', ok', el⟩
        | ct τ' S' => exact fun F' m' σ' H' sm' pr' ok' => ⟨F', m', τ', S', sm3.trans sm', pre_trans pr pr', ok', el⟩
        | brk τ' S' => cases el; exact fun F' m' σ' H' sm' pr' ok' => P F' m' σ' H' (st.sub.trans (sm3.trans sm')) (pre_trans st.pre (pre_trans pr pr')) ok'
        | ret d S' => cases el; exact fun F' m' H' v sm' pr' k1 k2 k3 => P F' m' H' v (st.sub.trans (sm3.trans sm')) (pre_trans st.pre (pre_trans pr pr')) k1 k2 k3
  · rintro σ2 H2 ⟨F2, m2, τ2, S2, sm, pr, ok2, el⟩
    rw [List.drop_length] at el
    simp only [forGo, Option.some.injEq] at el
    subst el
    exact P F2 m2 σ2 H2 (st.sub.trans sm) (pre_trans st.pre pr) ok2
end
end Co
end

section
set_option maxHeartbeats 0
set_option Elab.async false
set_option linter.all false
set_option maxRecDepth 100000
/-! Co11: stores into lists, dicts and objects; methods of lists; every statement that coS takes. -/
namespace Co
open PySem L2
section
variable {X : Cx} {c : Ctx} {cl : List Addr} {g : Gm} {a e tg it : Expr} {ca ce : CE} {ci : CI} {ct : CT} {τ τ' : Env} {S S' S1 S2 : Store} {F F' H' H0 F0 F1 F2 H1 H2 : Hp} {m m' m0 m1 m2 : List Addr} {σ σ' : St} {H : Hp} {x y r : Rv} {d : D} {ds es : List D} {b : Bool} {K : PySem.W.Frag} {v : V} {vs ws : List V} {D' : Ends} {o : Out} {pos : Pos}

theorem kis_put : ∀ {kvs : List (Key × D)} {ws : List (Key × V)} {k : Key}, KIs K F m kvs ws → Is K F m d v → KIs K F m (putD kvs k d) (putK ws k v) := by
  have anyEq : ∀ {kvs : List (Key × D)} {ws : List (Key × V)} {k : Key}, KIs K F m kvs ws → (kvs.any fun kv => decide (kv.1 = k)) = (ws.any fun kv => decide (kv.1 = k)) := by
    intro kvs
    induction kvs with
    | nil => intro ws k h; cases h; rfl
    | cons p r ih =>
      intro ws k h
      obtain ⟨q, z⟩ := p
      obtain ⟨v, us, rfl, h1, h2⟩ := h
      rw [List.any_cons, List.any_cons, ih h2]
  have mapOk : ∀ {kvs : List (Key × D)} {ws : List (Key × V)} {k : Key}, KIs K F m kvs ws → Is K F m d v → KIs K F m (kvs.map (fun kv => if kv.1 = k then (kv.1, d) else kv)) (ws.map (fun kv => if kv.1 = k then (kv.1, v) else kv)) := by
    intro kvs
    induction kvs with
    | nil => intro ws k h _; cases h; rfl
    | cons p r ih =>
      intro ws k h hv
      obtain ⟨q, z⟩ := p
      obtain ⟨w, us, rfl, h1, h2⟩ := h
      simp only [List.map_cons]
      by_cases e : q = k
      · simp only [e, if_true]
        exact ⟨v, _, rfl, hv, ih h2 hv⟩
      · simp only [if_neg e]
        exact ⟨w, _, rfl, h1, ih h2 hv⟩
  have appOk : ∀ {kvs : List (Key × D)} {ws : List (Key × V)} {k : Key}, KIs K F m kvs ws → Is K F m d v → KIs K F m (kvs ++ [(k, d)]) (ws ++ [(k, v)]) := by
    intro kvs
    induction kvs with
    | nil => intro ws k h hv; cases h; exact ⟨v, [], rfl, hv, rfl⟩
    | cons p r ih =>
      intro ws k h hv
      obtain ⟨q, z⟩ := p
      obtain ⟨w, us, rfl, h1, h2⟩ := h
      exact ⟨w, _, rfl, h1, ih h2 hv⟩
  intro kvs ws k h hv
  unfold putD putK
  rw [anyEq h]
  split
  · exact mapOk h hv
  · exact appOk h hv
theorem kis_setF {f : Str} : ∀ {fs : List (Str × D)} {ws : List (Str × V)}, KIs K F m fs ws → Is K F m d v → KIs K F m (setF f d fs) (putF f v ws)
  | [], ws, h, hv => by cases h; exact ⟨v, [], rfl, hv, rfl⟩
  | (q, z) :: r, ws, h, hv => by
    obtain ⟨w, us, rfl, h1, h2⟩ := h
    unfold setF putF
    by_cases e : q = f
    · rw [if_pos e, if_pos e]; exact ⟨v, us, rfl, hv, h2⟩
    · rw [if_neg e, if_neg e]; exact ⟨w, _, rfl, h1, kis_setF h2 hv⟩

theorem swst_sub {o i : Expr} {p : Pos} {env : PySem.Env} : swappedStores [.Subscript o i p] e env = pure none := by cases e <;> rfl
theorem swst_name {n : Str} {p : Pos} {env : PySem.Env} : swappedStores [.Name n p] e env = pure none := by cases e <;> rfl
theorem sub_asg {oe i : Expr} {p : Pos} {env : PySem.Env} (h : ∀ lo hi st p, i ≠ .Slice lo hi st p) : ∀ v, assign (.Subscript oe i p) env v = (do
      let ov ← holding [v] (eval oe env)
      let iv ← holding [v, ov] (eval i env)
      standAt p
      holding [v, ov, iv] (setItem ov iv v)
      release [v, ov, iv] []) := by
  intro v
  cases i <;> first | rfl | exact absurd rfl (h _ _ _ _)
/-- x[a] = e -/
theorem snds_put {xn : Str} {px pt : Pos} {i : Nat} (k : Kn c cl g X) (hx : g.slot xn = some i) (hl : isLC e = false) (hns : ∀ lo hi st p, a ≠ .Slice lo hi st p) (sa : SndE X c cl a ca) (se : SndE X c cl e ce) : SndS X c cl (.Assign [.Subscript (.Name xn px) a pt] e pos) (.put i ca ce) := by
  intro τ S o he F0 m0 H0 F m σ H ok D P
  obtain ⟨n1, n2, n3, n4⟩ := slot_ok k hx
  simp only [exS] at he
  split at he
  rotate_left
  · cases he
  rename_i x S1 ex
  split at he
  rotate_left
  · cases he
  rename_i d ed
  split at he
  rotate_left
  · cases he
  rename_i kd S2 ea
  split at he
  · rename_i ds et
    split at he
    rotate_left
    · cases he
    rename_i ki
    split at he
    rotate_left
    · cases he
    rename_i j ej
    cases he
    refine ss_of (ps_asg pe_se (pg_sub pe_se pe_se set_list (sub_asg hns)) (show swapsWith e (some (.Subscript (.Name xn px) a pt)) pos.line X.env = pure false from sw_false hl) swst_sub) (se τ S x S1 ex F m σ H ok.g ok.ev _ fun F1 m1 H1 v st1 g1 r1 => ?_)
    obtain ⟨F1', st1', g1', sm1, i1⟩ := keep_ok st1 g1 r1 ed
    have ok1 := ok.step st1' g1'
    obtain ⟨p, us, k1, k2, _⟩ := ok1.ev.sl i _ et
    refine se_of (pe_var n1 n2 n3 n4) ⟨_, k1, ?_⟩
    refine sa τ S1 _ S2 ea F1' m1 σ H1 g1' ok1.ev _ fun F2 m2 H2 w st2 g2 r2 => ?_
    rw [rvi_int r2]
    have ok2 := ok1.step st2 g2
    obtain ⟨p', us', k1', q2, q3, q4, q5⟩ := ok2.ev.sl i _ et
    rw [k1] at k1'; cases k1'
    refine ⟨p, us', ki, j, rfl, rfl, q4, by rw [← q5.len]; exact ej, ?_⟩
    exact P F2 m2 σ _ (st1'.trans st2).sub (st1'.trans st2).pre (ok2.updOwn et k1 q2 q3 q4 (q5.set j (st2.is i1)))
  · rename_i n et
    split at he
    rotate_left
    · cases he
    rename_i kvs key eo ek
    split at he
    rotate_left
    · cases he
    rename_i hz
    cases he
    refine ss_of (ps_dput (hu_of' k) pe_se pe_se pe_se (sw_false hl)) (se τ S x S1 ex F m σ H ok.g ok.ev _ fun F1 m1 H1 v st1 g1 r1 => ?_)
    obtain ⟨F1', st1', g1', sm1, i1⟩ := keep_ok st1 g1 r1 ed
    have ok1 := ok.step st1' g1'
    obtain ⟨u, k1, k2⟩ := ok1.ev.sl i _ et
    refine se_of (pe_var n1 n2 n3 n4) ⟨_, k1, ?_⟩
    refine sa τ S1 _ S2 ea F1' m1 σ H1 g1' ok1.ev _ fun F2 m2 H2 w st2 g2 r2 => ?_
    have ok2 := ok1.step st2 g2
    have k3 : Is X.K F2 m2 (.obj n) u := st2.is k2
    simp only [Is] at k3
    obtain ⟨p, rfl, hp⟩ := k3
    obtain ⟨fp, kws, q1, q2⟩ := g2.ob n p _ hp eo
    have ew : w = kV key := key_is r2 ek
    subst ew
    refine ⟨p, _, rfl, DPut.k q1 (by rw [← q2.len]; exact hz), ?_⟩
    refine P F2 m2 σ _ (st1'.trans st2).sub (st1'.trans st2).pre (ok2.setObj hp (fun b => by rw [q1]; exact fun z => nomatch z) ⟨_, upd_same, kis_put q2 (st2.is i1)⟩ ?_)
    exact (List.getElem?_eq_some_iff.mp eo).1
  · cases he
where hu_of' {X : Cx} {c : Ctx} {cl : List Addr} {g : Gm} (k : Kn c cl g X) : X.A.units + 1 < cLine := by have := k.hu.un; omega
/-- o.f = e -/
theorem snds_fset {oe : Expr} {f : Str} {pt : Pos} (k : Kn c cl g X) (hf : f ∈ g.atrs) (hl : isLC e = false) (so : SndE X c cl oe ca) (se : SndE X c cl e ce) : SndS X c cl (.Assign [.Attribute oe f pt] e pos) (.fset ca f ce) := by
  intro τ S o he F0 m0 H0 F m σ H ok D P
  simp only [exS] at he
  split at he
  rotate_left
  · cases he
  rename_i x S1 ex
  split at he
  rotate_left
  · cases he
  rename_i d ed
  split at he
  rotate_left
  · cases he
  rename_i n S2 eo
  split at he
  rotate_left
  · cases he
  rename_i kc fs en
  split at he
  rotate_left
  · cases he
  rename_i hz
  cases he
  refine ss_of (ps_fld pe_se pe_se (sw_false hl)) (se τ S x S1 ex F m σ H ok.g ok.ev _ fun F1 m1 H1 v st1 g1 r1 => ?_)
  obtain ⟨F1', st1', g1', sm1, i1⟩ := keep_ok st1 g1 r1 ed
  have ok1 := ok.step st1' g1'
  refine so τ S1 _ S2 eo F1' m1 σ H1 g1' ok1.ev _ fun F2 m2 H2 w st2 g2 r2 => ?_
  have ok2 := ok1.step st2 g2
  have k3 : Is X.K F2 m2 (.obj n) w := r2
  simp only [Is] at k3
  obtain ⟨p, rfl, hp⟩ := k3
  obtain ⟨fp, C, dx, ws, q1, q2, q3, q4, q5⟩ := g2.ob n p _ hp en
  refine ⟨p, C, dx, ws, rfl, q2, k.clsOk.cls kc C q1, k.atr kc C f q1 hf, by rw [← q5.len]; exact hz, ?_⟩
  have hne : dx ≠ p := fun z => by rw [z, q2] at q3; cases q3
  refine P F2 m2 σ _ (st1'.trans st2).sub (st1'.trans st2).pre (ok2.setObj hp (fun b => by rw [q2]; exact fun z => nomatch z) ⟨C, dx, _, q1, upd_same, by rw [upd_ne hne]; exact q3, q4, kis_setF q5 (st2.is i1)⟩ ?_)
  exact (List.getElem?_eq_some_iff.mp en).1
/-- x += e -/
theorem snds_aug {xn : Str} {px : Pos} {op : Operator} {p : Bop} {i : Nat} (k : Kn c cl g X) (hi : g.stor xn = some i) (hop : bopOf op = some p) (se : SndE X c cl e ce) : SndS X c cl (.AugAssign (.Name xn px) op e pos) (.aug i p ce) := by
  intro τ S o he F0 m0 H0 F m σ H ok D P
  obtain ⟨h1, h2, h3⟩ := stor_ok k hi
  have eo := bopOf_inv hop
  subst eo
  simp only [exS] at he
  split at he
  rotate_left
  · cases he
  rename_i a et
  split at he
  rotate_left
  · cases he
  rename_i b S1 ex
  obtain ⟨u, k1, k2⟩ := ok.ev.sl i _ et
  have eu := is_int.mp k2
  subst eu
  have core : ∀ {f : Int → Int → Int}, PIp X (bopTo p) (ipI f) → o = .nx (τ.set i (.val (.int (f a b)))) S1 → SS X (.AugAssign (.Name xn px) (bopTo p) e pos) D σ H := by
    intro f hp eo
    subst eo
    refine ss_of (ps_aug k.nd h1 h2 pe_se hp h3) ⟨_, k1, se τ S _ S1 ex F m σ H ok.g ok.ev _ fun F1 m1 H1 v st1 g1 r1 => ?_⟩
    exact ⟨a, b, rfl, rvi_int r1, P F1 m1 _ H1 st1.sub st1.pre ((ok.step st1 g1).setVal (is_int.mpr rfl))⟩
  cases p with
  | add => simp only [Option.some.injEq] at he; exact core ip_add he.symm
  | sub => simp only [Option.some.injEq] at he; exact core ip_sub he.symm
  | _ => cases he

/-! ### methods of lists -/
theorem few_one {cpos : Pos} {env : PySem.Env} (h : isStar a = false) : ((backTo cpos (starEach [a] env)).all (fun x => !x.1) && (backToKw cpos (keywordEach [] env)).all (fun x => x.1.isSome)
      && decide (([a] : List Expr).length + ([] : List Keyword).length + (if ([] : List Keyword).isEmpty then 0 else 1) < 30)) = true := by
  rw [star_cons h]; rfl
theorem snds_app {xn : Str} {px ap cp : Pos} {i : Nat} (k : Kn c cl g X) (hx : g.slot xn = some i) (hln : (ap.endLine == cp.line) = true) (hs : isStar a = false) (sa : SndE X c cl a ca) :
    SndS X c cl (.Expr (.Call (.Attribute (.Name xn px) "append" ap) [a] [] cp) pos) (.app i ca) := by
  intro τ S o he F0 m0 H0 F m σ H ok D P
  obtain ⟨n1, n2, n3, n4⟩ := slot_ok k hx
  simp only [exS] at he
  split at he
  rotate_left
  · cases he
  rename_i x S1 ex
  split at he
  rotate_left
  · cases he
  rename_i d ds ed eo
  split at he
  rotate_left
  · cases he
  rename_i hz
  cases he
  obtain ⟨p, us, et, k1, q2, q3, q4, q5⟩ := own_at ok.ev eo
  refine ss_of (ps_expr (pe_bm PySem.F.plainAttrs_list PySem.F.slot_list_append PySem.F.type_list_append mt_append (pe_var n1 n2 n3 n4) (pa_cons pe_se pa_nil (star_cons hs)) rfl (few_one hs) hln (star_cons hs) rfl) rfl) ?_
  refine ⟨_, k1, .inl ⟨rfl, us, .of q4⟩, ?_⟩
  refine sa τ S x S1 ex F m σ H ok.g ok.ev _ fun F1 m1 H1 v st1 g1 r1 => ?_
  obtain ⟨F2, st2, g2, sm, i2⟩ := keep_ok st1 g1 r1 ed
  have ok2 := ok.step st2 g2
  obtain ⟨p', us', k1', q2', q3', q4', q5'⟩ := ok2.ev.sl i _ et
  rw [k1] at k1'; cases k1'
  exact ⟨p, us', v, rfl, rfl, q4', by rw [← q5'.len]; exact hz, P F2 m1 σ _ st2.sub st2.pre (ok2.updOwn et k1 q2' q3' q4' (q5'.app (.one i2)))⟩
theorem snds_ext {xn : Str} {px ap cp : Pos} {i : Nat} (k : Kn c cl g X) (hx : g.slot xn = some i) (hln : (ap.endLine == cp.line) = true) (hs : isStar a = false) (sa : SndE X c cl a ca) :
    SndS X c cl (.Expr (.Call (.Attribute (.Name xn px) "extend" ap) [a] [] cp) pos) (.ext i ca) := by
  intro τ S o he F0 m0 H0 F m σ H ok D P
  obtain ⟨n1, n2, n3, n4⟩ := slot_ok k hx
  simp only [exS] at he
  split at he
  rotate_left
  · cases he
  rename_i x S1 ex
  split at he
  rotate_left
  · cases he
  rename_i xs ds ed eo
  split at he
  rotate_left
  · cases he
  rename_i hz
  cases he
  obtain ⟨p, us, et, k1, q2, q3, q4, q5⟩ := own_at ok.ev eo
  refine ss_of (ps_expr (pe_bm PySem.F.plainAttrs_list PySem.F.slot_list_extend PySem.F.type_list_extend mt_extend (pe_var n1 n2 n3 n4) (pa_cons pe_se pa_nil (star_cons hs)) rfl (few_one hs) hln (star_cons hs) rfl) rfl) ?_
  refine ⟨_, k1, .inl ⟨rfl, us, .of q4⟩, ?_⟩
  refine sa τ S x S1 ex F m σ H ok.g ok.ev _ fun F1 m1 H1 v st1 g1 r1 => ?_
  have ok2 := ok.step st1 g1
  obtain ⟨p', us', k1', q2', q3', q4', q5'⟩ := ok2.ev.sl i _ et
  rw [k1] at k1'; cases k1'
  obtain ⟨b, zs, rfl, i3, h3⟩ := tseq_ok g1 r1 ed
  exact ⟨p, b, us', zs, rfl, rfl, q4', h3, by rw [← q5'.len, ← i3.len]; exact hz, P F1 m1 σ _ st1.sub st1.pre (ok2.updOwn et k1 q2' q3' q4' (q5'.app i3))⟩
theorem isA_last : ∀ {ds : List D} {vs : List V}, IsA K F m ds vs → ds.getLast? = some d → ∃ v, vs[vs.length - 1]? = some v ∧ Is K F m d v := by
  intro ds vs h e
  rw [List.getLast?_eq_getElem?] at e
  obtain ⟨v, h1, h2⟩ := h.get e
  exact ⟨v, by rw [← h.len]; exact h1, h2⟩
theorem snds_pop {yn : Str} {py ap cp : Pos} {i : Nat} {p : Pat} (k : Kn c cl g X) (hx : g.slot yn = some i) (hln : (ap.endLine == cp.line) = true) (sp : SndP X cl tg p) (hw : swappedStores [tg] (.Call (.Attribute (.Name yn py) "pop" ap) [] [] cp) X.env = pure none) (h1 : (assignEach [tg] X.env).map (·.2) = [assign tg X.env]) :
    SndS X c cl (.Assign [tg] (.Call (.Attribute (.Name yn py) "pop" ap) [] [] cp) pos) (.pop p i) := by
  intro τ S o he F0 m0 H0 F m σ H ok D P
  obtain ⟨n1, n2, n3, n4⟩ := slot_ok k hx
  simp only [exS] at he
  split at he
  rotate_left
  · cases he
  rename_i ds eo
  split at he
  rotate_left
  · cases he
  rename_i d ed
  split at he
  rotate_left
  · cases he
  rename_i τ' ea
  cases he
  obtain ⟨q, us, et, k1, q2, q3, q4, q5⟩ := own_at ok.ev eo
  obtain ⟨v, hv, iv⟩ := isA_last q5 ed
  refine ss_of (ps_asg (pe_bm0 PySem.F.plainAttrs_list PySem.F.slot_list_pop PySem.F.type_list_pop mt_pop (pe_var n1 n2 n3 n4) rfl hln) pg_sg rfl hw h1) ?_
  refine ⟨_, k1, .inl ⟨rfl, us, .of q4⟩, q, us, v, rfl, rfl, q4, hv, ?_⟩
  have ok2 := ok.updOwn et k1 q2 q3 q4 q5.dropLast
  exact pat_ok sp ok2 ea iv fun σ' ok' => P F m σ' _ (Same.refl _) pre_refl ok'
end
end Co
end

section
set_option maxHeartbeats 0
set_option Elab.async false
set_option linter.all false
set_option maxRecDepth 100000
/-! Co12: a, b = x, y; every statement that coS takes, every block that coB takes. -/
namespace Co
open PySem L2
section
variable {X : Cx} {c : Ctx} {cl : List Addr} {g : Gm} {a e tg it : Expr} {ca ce : CE} {ci : CI} {ct : CT} {τ τ' : Env} {S S' S1 S2 : Store} {F F' H' H0 F0 F1 F2 H1 H2 : Hp} {m m' m0 m1 m2 : List Addr} {σ σ' : St} {H : Hp} {x y r : Rv} {d : D} {ds es : List D} {b : Bool} {K : PySem.W.Frag} {v : V} {vs ws : List V} {D' : Ends} {o : Out} {pos : Pos}

theorem star_fn : (fun (e : Expr) => match e with | .Starred .. => true | _ => false) = isStar := by
  funext e; cases e <;> rfl
theorem blkK (k : Kn c cl g X) : X.env.blockKind = .function := by
  have hk : X.env.scope.kind = .function := by rw [k.sc]; exact k.kd
  unfold Env.blockKind; rw [hk]; rfl
theorem ixOf_ne {x y : Str} {N : List Str} {i j : Nat} (h1 : ixOf x N 0 = some i) (h2 : ixOf y N 0 = some j) (h : i ≠ j) : x ≠ y := fun e => by
  subst e; rw [h1] at h2; exact h (Option.some.inj h2)
theorem swst_par2 {xn yn : Str} {px py pt p2 : Pos} {kt k2 : Nat} {a b : Expr} {env : PySem.Env} (hb : env.blockKind = .function) (hx : env.kindOf xn = some .local) (hy : env.kindOf yn = some .local) (hl : py.line = px.line) (hxy : xn ≠ yn)
    (hs : [a, b].any isStar = false) (h1 : [a, b].all (foldedForSure 8) = false) (h2 : [a, b].all (constantsAlone 8) = false) : swappedStores [.Tuple [.Name xn px, .Name yn py] kt pt] (.Tuple [a, b] k2 p2) env = pure (some [xn, yn]) := by
  unfold swappedStores
  rw [hb]
  have e2 : ([xn, yn] : List Str).eraseDups.length = 2 := by
    have : (yn == xn) = false := by simpa using fun e : yn = xn => hxy e.symm
    simp [List.eraseDups_cons, this]
  simp only [star_fn]
  show (if ([a, b].any isStar) = true then _ else _) = _
  rw [hs, if_neg Bool.false_ne_true]
  simp only [List.filterMap_cons, List.filterMap_nil, List.head?_cons, Option.map_some, Option.getD_some, hx, hy, hl, Expr.pos, beq_self_eq_true, Bool.and_self, if_true]
  rw [e2, h1, h2]
  rfl
theorem swst_par3 {xn yn zn : Str} {px py pz pt p2 : Pos} {kt k2 : Nat} {a b d : Expr} {env : PySem.Env} (hb : env.blockKind = .function) (hx : env.kindOf xn = some .local) (hy : env.kindOf yn = some .local) (hz : env.kindOf zn = some .local) (hl : py.line = px.line) (hl2 : pz.line = px.line) (hxy : xn ≠ yn) (hxz : xn ≠ zn) (hyz : yn ≠ zn)
    (hs : [a, b, d].any isStar = false) (h1 : [a, b, d].all (foldedForSure 8) = false) (h2 : [a, b, d].all (constantsAlone 8) = false) : swappedStores [.Tuple [.Name xn px, .Name yn py, .Name zn pz] kt pt] (.Tuple [a, b, d] k2 p2) env = pure (some [xn, yn, zn]) := by
  unfold swappedStores
  rw [hb]
  have e2 : ([xn, yn, zn] : List Str).eraseDups.length = 3 := by
    have h1 : (yn == xn) = false := by simpa using fun e : yn = xn => hxy e.symm
    have h2 : (zn == xn) = false := by simpa using fun e : zn = xn => hxz e.symm
    have h3 : (zn == yn) = false := by simpa using fun e : zn = yn => hyz e.symm
    simp [List.eraseDups_cons, h1, h2, h3]
  simp only [star_fn]
  show (if ([a, b, d].any isStar) = true then _ else _) = _
  rw [hs, if_neg Bool.false_ne_true]
  simp only [List.filterMap_cons, List.filterMap_nil, List.head?_cons, Option.map_some, Option.getD_some, hx, hy, hz, hl, hl2, Expr.pos, beq_self_eq_true, Bool.and_self, if_true]
  rw [e2, h1, h2]
  rfl
/-- stores that are surely not swapped -/
theorem swst_no {ts : List Expr} {kt : Nat} {pt : Pos} (k : Kn c cl g X) (h : noSwap g ts e = true) : swappedStores [.Tuple ts kt pt] e X.env = pure none := by
  cases e with
  | Tuple vs k2 p2 =>
    simp only [noSwap, Bool.or_eq_true] at h
    unfold swappedStores
    rw [blkK k]
    simp only
    by_cases h1 : (!(ts.length == 2 || ts.length == 3) || vs.length != ts.length) = true
    · rw [h1]; rfl
    · have h3 := h.resolve_left (by simpa using h1)
      rw [Bool.not_eq_true] at h1
      rw [h1]
      show (if (vs.any _) = true then _ else _) = _
      split
      · rfl
      · have len : ∀ (ts : List Expr) (l : Nat), (ts.any fun t => match t with | .Name x _ => decide (g.sc.names.lookup x ≠ some .local) | _ => true) = true →
            (ts.filterMap fun
              | .Name id pos => if (X.env.kindOf id == some .local && pos.line == l) = true then some id else none
              | _ => none).length < ts.length := by
          intro ts l
          have le : ∀ ts : List Expr, (ts.filterMap fun
              | .Name id pos => if (X.env.kindOf id == some .local && pos.line == l) = true then some id else none
              | _ => none).length ≤ ts.length := fun ts => List.length_filterMap_le _ _
          induction ts with
          | nil => intro h; cases h
          | cons t ts ih =>
            intro h
            rw [List.any_cons, Bool.or_eq_true] at h
            rw [List.filterMap_cons]
            split
            · exact Nat.lt_succ_of_le (le ts)
            · rename_i b hb
              rcases h with h | h
              · exfalso
                cases t <;> try cases hb
                rename_i x p
                have h : decide (g.sc.names.lookup x ≠ some .local) = true := h
                have h := of_decide_eq_true h
                have : X.env.kindOf x ≠ some .local := by
                  unfold Env.kindOf; rw [k.sc]; exact h
                have hb : (if (X.env.kindOf x == some .local && p.line == l) = true then some x else none) = some b := hb
                split at hb
                · rename_i q
                  simp only [Bool.and_eq_true, beq_iff_eq] at q
                  exact this q.1
                · cases hb
              · simpa using ih h
        have hlt := len ts (((ts.head?.map (·.pos.line)).getD 0)) h3
        have hne : ((ts.filterMap fun
              | .Name id pos => if (X.env.kindOf id == some .local && pos.line == ((ts.head?.map (·.pos.line)).getD 0)) = true then some id else none
              | _ => none).length != ts.length) = true := by
          simp only [bne_iff_ne, ne_eq]; omega
        rw [if_pos]
        rw [Bool.or_eq_true]
        exact .inl hne
  | _ => rfl
theorem kind_of (k : Kn c cl g X) {x : Str} (h : g.sc.names.lookup x = some .local) : X.env.kindOf x = some .local := by
  unfold Env.kindOf; rw [k.sc]; exact h
theorem snds_par2 {xn yn : Str} {px py pt p2 : Pos} {kt k2 i j : Nat} {a b : Expr} {as : CA} (k : Kn c cl g X) (hi : ixOf xn g.N 0 = some i) (hj : ixOf yn g.N 0 = some j) (hij : i ≠ j) (hx : g.sc.names.lookup xn = some .local) (hy : g.sc.names.lookup yn = some .local) (hl : py.line = px.line)
    (hs : [a, b].any isStar = false) (h1 : [a, b].all (foldedForSure 8) = false) (h2 : [a, b].all (constantsAlone 8) = false) (sa : SndA X c cl [a, b] as) :
    SndS X c cl (.Assign [.Tuple [.Name xn px, .Name yn py] kt pt] (.Tuple [a, b] k2 p2) pos) (.par [i, j] as) := by
  intro τ S o he F0 m0 H0 F m σ H ok D P
  simp only [exS] at he
  split at he
  rotate_left
  · cases he
  rename_i ds S1 ea
  split at he
  rotate_left
  · cases he
  rename_i τ' ep
  cases he
  refine ss_of (ps_par k.calm k.nd (by rw [k.N]; exact ixOf_at hi) (by rw [k.N]; exact ixOf_at hj) hij (kind_of k hx) (kind_of k hy) pa_sa (swst_par2 (blkK k) (kind_of k hx) (kind_of k hy) hl (ixOf_ne hi hj hij) hs h1 h2)) (sa τ S ds S1 ea F m σ H ok.g ok.ev _ fun F1 m1 H1 vs st1 g1 i1 => ?_)
  match ds, ep, i1 with
  | [d1, d2], ep, i1 =>
    simp only [parGo, Option.some.injEq] at ep
    subst ep
    simp only [IsA] at i1
    obtain ⟨v, _, rfl, q1, w, _, rfl, q2, rfl⟩ := i1
    exact ⟨v, w, rfl, P F1 m1 _ H1 st1.sub st1.pre (((ok.step st1 g1).setVal q1).setVal q2)⟩
  | [], ep, _ => simp [parGo] at ep
  | [_], ep, _ => simp [parGo] at ep
  | _ :: _ :: _ :: _, ep, _ => simp [parGo] at ep
theorem snds_par3 {xn yn zn : Str} {px py pz pt p2 : Pos} {kt k2 i j l : Nat} {a b d : Expr} {as : CA} (k : Kn c cl g X) (hi : ixOf xn g.N 0 = some i) (hj : ixOf yn g.N 0 = some j) (hk : ixOf zn g.N 0 = some l) (hij : i ≠ j) (hil : i ≠ l) (hjl : j ≠ l) (hx : g.sc.names.lookup xn = some .local) (hy : g.sc.names.lookup yn = some .local) (hz : g.sc.names.lookup zn = some .local) (hl : py.line = px.line) (hl2 : pz.line = px.line)
    (hs : [a, b, d].any isStar = false) (h1 : [a, b, d].all (foldedForSure 8) = false) (h2 : [a, b, d].all (constantsAlone 8) = false) (sa : SndA X c cl [a, b, d] as) :
    SndS X c cl (.Assign [.Tuple [.Name xn px, .Name yn py, .Name zn pz] kt pt] (.Tuple [a, b, d] k2 p2) pos) (.par [i, j, l] as) := by
  intro τ S o he F0 m0 H0 F m σ H ok D P
  simp only [exS] at he
  split at he
  rotate_left
  · cases he
  rename_i ds S1 ea
  split at he
  rotate_left
  · cases he
  rename_i τ' ep
  cases he
  refine ss_of (ps_par3 k.calm k.nd (by rw [k.N]; exact ixOf_at hi) (by rw [k.N]; exact ixOf_at hj) (by rw [k.N]; exact ixOf_at hk) hij hil hjl (kind_of k hx) (kind_of k hy) (kind_of k hz) pa_sa (swst_par3 (blkK k) (kind_of k hx) (kind_of k hy) (kind_of k hz) hl hl2 (ixOf_ne hi hj hij) (ixOf_ne hi hk hil) (ixOf_ne hj hk hjl) hs h1 h2)) (sa τ S ds S1 ea F m σ H ok.g ok.ev _ fun F1 m1 H1 vs st1 g1 i1 => ?_)
  match ds, ep, i1 with
  | [d1, d2, d3], ep, i1 =>
    simp only [parGo, Option.some.injEq] at ep
    subst ep
    simp only [IsA] at i1
    obtain ⟨v, _, rfl, q1, w, _, rfl, q2, u, _, rfl, q3, rfl⟩ := i1
    exact ⟨v, w, u, rfl, P F1 m1 _ H1 st1.sub st1.pre ((((ok.step st1 g1).setVal q1).setVal q2).setVal q3)⟩
  | [], ep, _ => simp [parGo] at ep
  | [_], ep, _ => simp [parGo] at ep
  | [_, _], ep, _ => simp [parGo] at ep
  | _ :: _ :: _ :: _ :: _, ep, _ => simp [parGo] at ep
theorem snds_par {ts vs : List Expr} {kt k2 : Nat} {pt p2 : Pos} {is : List Nat} {as : CA} (k : Kn c cl g X) (ht : (ts.length == 2 || ts.length == 3) = true) (hv : (vs.length == ts.length) = true) (hs : vs.any isStar = false)
    (hp : parNames g ts ((ts.head?.map (·.pos.line)).getD 0) = some is) (hn : is.Nodup) (h1 : vs.any (fun v => !foldedForSure 8 v) = true) (h2 : vs.all (constantsAlone 8) = false) (sa : SndA X c cl vs as) :
    SndS X c cl (.Assign [.Tuple ts kt pt] (.Tuple vs k2 p2) pos) (.par is as) := by
  have h1 : vs.all (foldedForSure 8) = false := by
    rw [List.any_eq_true] at h1
    obtain ⟨v, q1, q2⟩ := h1
    rw [Bool.eq_false_iff, ne_eq, List.all_eq_true]
    intro z
    rw [z v q1] at q2; cases q2
  have nm : ∀ {t : Expr} {ts : List Expr} {l : Nat} {is : List Nat}, parNames g (t :: ts) l = some is → ∃ x p i r, t = .Name x p ∧ is = i :: r ∧ g.sc.names.lookup x = some .local ∧ p.line = l ∧ ixOf x g.N 0 = some i ∧ parNames g ts l = some r := by
    intro t ts l is h
    cases t with
    | Name x p =>
      have h : (if g.sc.names.lookup x = some .local ∧ p.line = l then (match ixOf x g.N 0, parNames g ts l with | some i, some is => some (i :: is) | _, _ => none) else none) = some is := h
      split at h
      · rename_i q
        split at h
        · rename_i i r e1 e2
          cases h
          exact ⟨x, p, i, r, rfl, rfl, q.1, q.2, e1, e2⟩
        · cases h
      · cases h
    | _ => cases h
  match ts, vs, ht, hv, hp with
  | [t1, t2], [a, b], _, _, hp =>
    obtain ⟨x, px, i, r, rfl, rfl, q1, q2, q3, q4⟩ := nm hp
    obtain ⟨y, py, j, r2, rfl, rfl, q5, q6, q7, q8⟩ := nm q4
    have e : r2 = [] := by have h : some [] = some r2 := q8; cases h; rfl
    subst e
    have hij : i ≠ j := by simpa using hn
    exact snds_par2 k q3 q7 hij q1 q5 q6 hs h1 h2 sa
  | [t1, t2, t3], [a, b, d], _, _, hp =>
    obtain ⟨x, px, i, r, rfl, rfl, q1, q2, q3, q4⟩ := nm hp
    obtain ⟨y, py, j, r2, rfl, rfl, q5, q6, q7, q8⟩ := nm q4
    obtain ⟨z, pz, l, r3, rfl, rfl, q9, q10, q11, q12⟩ := nm q8
    have e : r3 = [] := by have h : some [] = some r3 := q12; cases h; rfl
    subst e
    have hh : (i ≠ j ∧ i ≠ l) ∧ j ≠ l := by simpa using hn
    exact snds_par3 k q3 q7 q11 hh.1.1 hh.1.2 hh.2 q1 q5 q9 q6 q10 hs h1 h2 sa
  | [], _, ht, _, _ => cases ht
  | [_], _, ht, _, _ => cases ht
  | _ :: _ :: _ :: _ :: _, _, ht, _, _ => simp at ht
  | [_, _], [], _, hv, _ => cases hv
  | [_, _], [_], _, hv, _ => cases hv
  | [_, _], _ :: _ :: _ :: _, _, hv, _ => simp at hv
  | [_, _, _], [], _, hv, _ => cases hv
  | [_, _, _], [_], _, hv, _ => cases hv
  | [_, _, _], [_, _], _, hv, _ => cases hv
  | [_, _, _], _ :: _ :: _ :: _ :: _, _, hv, _ => simp at hv

/-! ### all of them -/
theorem co_lcShape {n : Nat} {elt : Expr} {gs : List Comprehension} {s : Scope} {p : Pos} (h : coE g (n + 1) (.ListComp elt gs s p) = some ce) : ∃ tg it ifs, gs = [⟨tg, it, ifs, 0⟩] := by
  rcases gs with _ | ⟨⟨tg, it, ifs, as⟩, _ | ⟨g2, gs⟩⟩
  · have h : (none : Option CE) = some ce := h; cases h
  · rcases as with (_ | as) | as
    · exact ⟨tg, it, ifs, rfl⟩
    · have h : (none : Option CE) = some ce := h; cases h
    · have h : (none : Option CE) = some ce := h; cases h
  · rcases as with (_ | as) | as <;> (have h : (none : Option CE) = some ce := h; cases h)
theorem co_lcKind {n : Nat} (h : coE g (n + 1) e = some ce) (hl : isLC e = true) : ∃ elt tg it ifs s p, e = .ListComp elt [⟨tg, it, ifs, 0⟩] s p := by
  cases e with
  | ListComp elt gs s p => obtain ⟨tg, it, ifs, rfl⟩ := co_lcShape h; exact ⟨elt, tg, it, ifs, s, p, rfl⟩
  | SetComp => have h : (none : Option CE) = some ce := h; cases h
  | DictComp => have h : (none : Option CE) = some ce := h; cases h
  | _ => cases hl
theorem co_asgN {n i : Nat} {xn : Str} {px : Pos} {cs : CS} (k : Kn c cl g X)
    (h : (match g.stor xn, coE g 60 e with
        | some i, some c => if isLC e = true then (if lcSw g (.Name xn px) e = true then some (CS.set i c) else none) else some (.set i c)
        | _, _ => none) = some cs) : SndS X c cl (.Assign [.Name xn px] e pos) cs := by
  split at h
  · rename_i i ce e1 e2
    split at h
    · rename_i hl
      split at h
      · rename_i hs
        cases h
        obtain ⟨elt, tg, it, ifs, s, p, rfl⟩ := co_lcKind e2 hl
        exact snds_setLc k (co_snd 59) e1 hs e2
      · cases h
    · rename_i hl
      cases h
      exact snds_set k e1 (by simpa using hl) ((co_snd 60).E k e2)
  · cases h
theorem co_asgT {ts : List Expr} {kk : Nat} {pt : Pos} {cs : CS} (k : Kn c cl g X) (hl : isLC e = false) (hn : noSwap g ts e = true)
    (h : (match patOf g 8 (.Tuple ts kk pt), coE g 60 e with | some p, some c => some (CS.setP p c) | _, _ => none) = some cs) : SndS X c cl (.Assign [.Tuple ts kk pt] e pos) cs := by
  split at h
  · rename_i p ce e1 e2
    cases h
    exact snds_setP k ((patOf_snd k 8).1 _ p e1).2 hl (swst_no k hn) ((co_snd 60).E k e2)
  · cases h
theorem noSwap_other {ts : List Expr} (h : ∀ vs k p, e ≠ .Tuple vs k p) : noSwap g ts e = true := by
  cases e <;> first | rfl | exact absurd rfl (h _ _ _)
theorem coS_tup_eq {n : Nat} {ts : List Expr} {k : Nat} {pt : Pos} {e : Expr} : coS g (n + 1) (.Assign [.Tuple ts k pt] e pos) = (match e with
      | .Call (.Attribute (.Name y _) m ap) [] [] cp => if m = ("pop" : Str) ∧ (ap.endLine == cp.line) = true then (match patOf g 8 (.Tuple ts k pt), g.slot y with | some p, some i => some (.pop p i) | _, _ => none) else none
      | .Tuple vs k2 p2 => if (g.own.isNone && (ts.length == 2 || ts.length == 3) && vs.length == ts.length && !(vs.any isStar)) = true then
          match parNames g ts ((ts.head?.map (·.pos.line)).getD 0), coA g 60 vs with
          | some is, some as => if (decide (is.Nodup) && vs.any (fun v => !foldedForSure 8 v) && !(vs.all (constantsAlone 8))) = true then some (.par is as) else none
          | _, _ => if noSwap g ts (.Tuple vs k2 p2) = true then (match patOf g 8 (.Tuple ts k pt), coE g 60 (.Tuple vs k2 p2) with | some p, some c => some (.setP p c) | _, _ => none) else none
        else if noSwap g ts (.Tuple vs k2 p2) = true then (match patOf g 8 (.Tuple ts k pt), coE g 60 (.Tuple vs k2 p2) with | some p, some c => some (.setP p c) | _, _ => none) else none
      | e => if isLC e = true then none else match patOf g 8 (.Tuple ts k pt), coE g 60 e with | some p, some c => some (.setP p c) | _, _ => none) := by
  cases e with
  | Call f as ks p => cases f with
    | Attribute o m ap => cases o with
      | Name y py => cases as <;> cases ks <;> rfl
      | _ => rfl
    | _ => rfl
  | _ => rfl
theorem or3 {a b c : Bool} (h : ¬ (a || !b || !c) = true) : a = false ∧ b = true := by cases a <;> cases b <;> simp_all
theorem swst_call {ts : List Expr} {kk : Nat} {pt : Pos} {f : Expr} {as : List Expr} {ks : List Keyword} {p : Pos} {env : PySem.Env} : swappedStores [.Tuple ts kk pt] (.Call f as ks p) env = pure none := rfl
theorem co_S (hp : PassesOwn (model X.prog X.w) X.A X.env X.xe) (k : Kn c cl g X) : ∀ n, (∀ s cs, coS g n s = some cs → SndS X c cl s cs) ∧ (∀ ss cb, coB g n ss = some cb → SndB X c cl ss cb)
  | 0 => ⟨fun s cs h => (by have h : (none : Option CS) = some cs := h; cases h), fun ss cb h => (by have h : (none : Option CB) = some cb := h; cases h)⟩
  | n + 1 => by
    obtain ⟨ih1, ih2⟩ := co_S hp k n
    have mp : ∀ {α β : Type} {o : Option α} {f : α → β} {y : β}, o.map f = some y → ∃ x, o = some x ∧ f x = y := fun h => Option.map_eq_some_iff.mp h
    refine ⟨fun s cs h => ?_, fun ss cb h => ?_⟩
    · have h0 := h
      unfold coS at h
      split at h
      · -- x = e
        split at h
        · split at h
          · rename_i hc
            split at h
            · rename_i j i e1 e2
              cases h
              obtain ⟨rfl, hl⟩ := hc
              obtain ⟨q1, q2, q3⟩ := stor_ok k e1
              refine snds_pop k e2 hl (fun d τ τ' ha F m S σ H v gg ev hv Q q => ?_) swst_name rfl
              simp only [Pat.asg, Option.some.injEq] at ha
              subst ha
              exact sg_of (pg_name k.nd q1 q2 q3) (q _ (ev.setVal hv) (fun H0 ho => ho.setVal) fun ws hw => wipe_set (hw j (by simp [Pat.slots])))
            · cases h
          · cases h
        · exact co_asgN (n := n) (i := 0) k h
      · -- (..) = e
        rw [coS_tup_eq] at h0
        split at h0
        · split at h0
          · rename_i hc
            split at h0
            · rename_i p i e1 e2
              cases h0
              obtain ⟨rfl, hl⟩ := hc
              exact snds_pop k e2 hl ((patOf_snd k 8).1 _ p e1).2 swst_call rfl
            · cases h0
          · cases h0
        · split at h0
          · rename_i hc
            simp only [Bool.and_eq_true, Bool.not_eq_true'] at hc
            split at h0
            · rename_i is as e1 e2
              split at h0
              · rename_i hd
                simp only [Bool.and_eq_true, Bool.not_eq_true', decide_eq_true_eq] at hd
                cases h0
                obtain ⟨q1, q2⟩ := (co_snd 60).A k e2
                exact snds_par k hc.1.1.2 hc.1.2 hc.2 e1 hd.1.1 hd.1.2 hd.2 (snda_of q2 q1)
              · cases h0
            · split at h0
              · rename_i hn
                exact co_asgT k rfl hn h0
              · cases h0
          · split at h0
            · rename_i hn
              exact co_asgT k rfl hn h0
            · cases h0
        · rename_i hne
          split at h0
          · cases h0
          · rename_i hl
            exact co_asgT k (by simpa using hl) (noSwap_other fun vs k p e => hne vs k p e) h0
      · -- x[a] = e
        split at h
        · cases h
        rename_i hl
        split at h
        · rename_i j ca ce e1 e2 e3
          have hr : cs = .put j ca ce := by
            split at h
            · cases h
            · cases h
            · cases h; rfl
          subst hr
          exact snds_put k e1 (by simpa using hl) (coE_slice e2) ((co_snd 60).E k e2) ((co_snd 60).E k e3)
        · cases h
      · -- o.f = e
        split at h
        · cases h
        rename_i hl
        have hl := or3 hl
        split at h
        · rename_i ca ce e1 e2
          cases h
          exact snds_fset k (of_decide_eq_true hl.2) hl.1 ((co_snd 60).E k e1) ((co_snd 60).E k e2)
        · cases h
      · -- x += e
        split at h
        · rename_i i p ce e1 e2 e3
          cases h
          exact snds_aug k e1 e2 ((co_snd 60).E k e3)
        · cases h
      · cases h
        exact snds_doc
      · -- x.append(a)
        split at h
        · cases h
        rename_i hl
        have hl' := by simpa using hl
        split at h
        · rename_i hm
          subst hm
          split at h
          · rename_i i ca e1 e2
            cases h
            exact snds_app k e1 (by simpa using hl) (coE_star e2) ((co_snd 60).E k e2)
          · cases h
        · split at h
          · rename_i hm
            subst hm
            split at h
            · rename_i i ca e1 e2
              cases h
              exact snds_ext k e1 (by simpa using hl) (coE_star e2) ((co_snd 60).E k e2)
            · cases h
          · cases h
      · split at h
        · cases h
        rename_i hl
        obtain ⟨ce, h1, rfl⟩ := mp h
        exact snds_drop (by simpa using hl) ((co_snd 60).E k h1)
      · split at h
        · rename_i ct ba bb e1 e2 e3
          cases h
          exact snds_if ((co_snd 60).T k e1).1 (ih2 _ _ e2) (ih2 _ _ e3)
        · cases h
      · split at h
        · rename_i ct ba e1 e2
          cases h
          exact snds_while hp ((co_snd 60).T k e1).1 (ih2 _ _ e2)
        · cases h
      · split at h
        · rename_i p ci cb e1 e2 e3
          cases h
          exact snds_for k hp ((co_snd 60).I k e2) (coI_set e2) ((patOf_snd k 8).1 _ p e1).2 (ih2 _ _ e3)
        · cases h
      · obtain ⟨ce, h1, rfl⟩ := mp h
        exact snds_ret ((co_snd 60).E k h1)
      · cases h; exact snds_retN
      · cases h; exact snds_pass
      · cases h; exact snds_brk
      · cases h; exact snds_cont
      · cases h; exact snds_never
      · cases h
    · cases ss with
      | nil =>
        have h : some CB.nil = some cb := h
        cases h
        exact sndb_nil
      | cons s ss =>
        have h : (match coS g n s, coB g n ss with | some c, some cs => some (CB.cons (fzN g s) c cs) | _, _ => none) = some cb := h
        split at h
        · rename_i cs cb e1 e2
          cases h
          exact sndb_cons (ih1 _ _ e1) (ih2 _ _ e2)
        · cases h
end
end Co
end

section
set_option maxHeartbeats 0
set_option Elab.async false
set_option linter.all false
set_option maxRecDepth 100000
/-! Co13: all defs of a law at once. -/
namespace Co
open PySem L2

structure DefD where
  x : Str
  qual : Str
  st : Stmt
  N : List Str
  np : Nat
  body : CB
/-- a law's text, as data -/
structure Lw where
  defs : List DefD
  globs : List D
  inits : List (Option Nat)
  fns : List (Str × Nat)
  gl : List (Str × Nat)
  cls : List (Str × Nat)
  free : List Str
  gcd : Bool
  atrs : List Str
def Lw.gm (L : Lw) (N : List Str) (sc : Scope) : Gm := ⟨N, sc, none, L.fns, L.gl, L.cls, L.free, L.gcd, L.atrs⟩
def Lw.prg (L : Lw) : Prg := ⟨L.defs.map fun d => ⟨d.np, d.N.length, d.body⟩, L.globs, L.inits⟩
/-- the compiler's word of one def -/
structure DefOk (L : Lw) (d : DefD) : Prop where
  co : coB (L.gm d.N (defScope d.st)) 60 (defBody d.st) = some d.body
  sc : FnScope d.N (d.N.take d.np) (defScope d.st)
  np : d.np ≤ d.N.length
/-- the law's text as the top has made it -/
structure Lw.At (L : Lw) (K : PySem.W.Frag) (mg : Str → Option Value) (fa cl : List Addr) : Prop where
  ok : ∀ d ∈ L.defs, DefOk L d
  fn : Paired (fun (d : DefD) (f : Addr) => ∃ fd, L2.Fun K d.x d.qual d.st f fd ∧ Binds K fd (d.N.take d.np) []) L.defs fa
  fns : ∀ p ∈ L.fns, ∃ f, fa[p.2]? = some f ∧ mg p.1 = some (.ref f)
  gl : ∀ p ∈ L.gl, ∃ d u v, L.globs[p.2]? = some d ∧ mg p.1 = some u ∧ RelV v u ∧ ∀ F m, Is K F m d v
  cls : ∀ p ∈ L.cls, ∃ C, cl[p.2]? = some C ∧ mg p.1 = some (.ref C) ∧ MkOk K C ∧ ∀ io, L.inits[p.2]? = some io → (match io with
    | none => PySem.W.findIn K (.ref C) "__init__" = some (some (.builtin "object.__init__"))
    | some j => ∃ f, fa[j]? = some f ∧ PySem.W.findIn K (.ref C) "__init__" = some (some (.ref f)) ∧ PySem.W.isFn K (.ref f) = true)
  atr : ∀ (i : Nat) (C : Addr) (f : Str), cl[i]? = some C → f ∈ L.atrs → NoAttr K C f
  clsOk : ClsOk K cl
  gcd : L.gcd = true → mg "gcd" = some (.builtin "math.gcd")
  free : ∀ x ∈ L.free, mg x = none

theorem Paired.at {α β : Type} {R : α → β → Prop} {as : List α} {bs : List β} (h : Paired R as bs) : ∀ (i : Nat) (a : α), as[i]? = some a → ∃ b, bs[i]? = some b ∧ R a b := by
  induction h with
  | nil => intro i a e; simp at e
  | cons h1 h2 ih =>
    intro i a e
    cases i with
    | zero => simp at e; subst e; exact ⟨_, by simp, h1⟩
    | succ i => simp at e; obtain ⟨b, q1, q2⟩ := ih i a e; exact ⟨b, by simpa using q1, q2⟩
theorem callN_len {P : Prg} {n i : Nat} {ds : List D} {S : Store} {r : D × Store} {fd : Fd} (h : callN P n i ds S = some r) (hf : P.fns[i]? = some fd) : ds.length = fd.np := by
  cases n with
  | zero => simp [callN] at h
  | succ n =>
    simp only [callN, hf] at h
    split at h
    · assumption
    · cases h
section
variable {L : Lw} {P : Program} {w : World} {K : PySem.W.Frag} {mg : Str → Option Value} {base : Heap} {fa cl : List Addr}
/-- all defs to the depth n -/
def Lv (L : Lw) (P : Program) (w : World) (K : PySem.W.Frag) (mg : Str → Option Value) (base : Heap) (fa cl : List Addr) (n : Nat) : Prop :=
  ∀ (i : Nat) (d : DefD) (f : Addr) (fd : FuncData), L.defs[i]? = some d → fa[i]? = some f → L2.Fun K d.x d.qual d.st f fd → FnOk P w K mg base CX0 (2 * n) f fd (d.N.take d.np) (spC K cl (callN L.prg n) i d.np)
theorem kn_of (A : L.At K mg fa cl) {n : Nat} (lv : Lv L P w K mg base fa cl n) {d : DefD} (ok : DefOk L d) {f : Addr} {cdv : Value} {A' : Around} {outer : List PySem.Env} {s : Shared} {H : Hp} {E : XK}
    (hr : Room (2 * n + 1) (A'.deeper (PyProof.Rows.envOfC d.qual (defScope d.st) s.heap.objs.size f cdv))) :
    Kn ⟨callN L.prg n, L.globs, L.inits⟩ cl (L.gm d.N (defScope d.st)) (cxOf CX0 P w K mg base d.N d.qual (defScope d.st) f cdv A' outer s H E).nox where
  N := rfl
  nd := ok.sc.nd
  sc := rfl
  kd := ok.sc.kind
  calm := rfl
  fnc := fun _ _ => rfl
  free := fun x h => A.free x h
  glob := fun x i h => A.gl (x, i) (PySem.mem_of_lookup h)
  fn := fun x i h => by
    obtain ⟨f, h1, h2⟩ := A.fns (x, i) (PySem.mem_of_lookup h)
    have hi : i < fa.length := (List.getElem?_eq_some_iff.mp h1).1
    have hi2 : i < L.defs.length := by rw [Paired.length A.fn]; exact hi
    have hd : L.defs[i]? = some L.defs[i] := by simp [hi2]
    obtain ⟨f', q1, fd, q2, q3⟩ := Paired.at A.fn i _ hd
    have e : f' = f := by rw [q1] at h1; exact Option.some.inj h1
    subst e
    have hnp : (L.defs[i].N.take L.defs[i].np).length = L.defs[i].np := by
      rw [List.length_take]
      have := (A.ok L.defs[i] (List.getElem_mem hi2)).np
      omega
    refine ⟨f', fd, _, 2 * n, h2, q2.kp, hr.mono (by omega), q3, ?_, fun ds S r hc => ?_⟩
    · rw [hnp]
      exact lv i _ f' fd hd q1 q2
    · rw [hnp]
      exact callN_len hc (fd := ⟨L.defs[i].np, L.defs[i].N.length, L.defs[i].body⟩) (by simp [Lw.prg, hi2])
  cls := fun x i h => by
    obtain ⟨C, h1, h2, _⟩ := A.cls (x, i) (PySem.mem_of_lookup h)
    exact ⟨C, h1, h2⟩
  mkc := fun x i io h hio => by
    obtain ⟨C, h1, h2, h3, h4⟩ := A.cls (x, i) (PySem.mem_of_lookup h)
    refine ⟨C, h1, h2, h3, ?_⟩
    have h5 := h4 io hio
    cases io with
    | none => exact h5
    | some j =>
      obtain ⟨f, k1, k2, k3⟩ := h5
      have hi : j < fa.length := (List.getElem?_eq_some_iff.mp k1).1
      have hi2 : j < L.defs.length := by rw [Paired.length A.fn]; exact hi
      have hd : L.defs[j]? = some L.defs[j] := by simp [hi2]
      obtain ⟨f', q1, fd, q2, q3⟩ := Paired.at A.fn j _ hd
      have e : f' = f := by rw [q1] at k1; exact Option.some.inj k1
      subst e
      have hnp : (L.defs[j].N.take L.defs[j].np).length = L.defs[j].np := by
        rw [List.length_take]
        have := (A.ok L.defs[j] (List.getElem_mem hi2)).np
        omega
      refine ⟨f', fd, _, 2 * n, k2, k3, hr, q3, ?_, fun ds S r hc => ?_⟩
      · rw [hnp]
        exact lv j _ f' fd hd q1 q2
      · rw [hnp]
        exact callN_len hc (fd := ⟨L.defs[j].np, L.defs[j].N.length, L.defs[j].body⟩) (by simp [Lw.prg, hi2])
  atr := A.atr
  clsOk := A.clsOk
  gcd := A.gcd
  hu := hr.mono (by omega)
theorem env_start {F H : Hp} {m : List Addr} {ds : List D} {vs : List V} {N : List Str} {np : Nat} (hl : ds.length = np) (hn : np ≤ N.length) (hi : IsA K F m ds vs) : EnvOk K F m (ds.map Slot.val ++ List.replicate (N.length - np) Slot.non) (L2.start N vs) H ∧ ∀ H0, Own H0 (ds.map Slot.val ++ List.replicate (N.length - np) Slot.non) (L2.start N vs) := by
  have hlen := hi.len
  have own : ∀ i, isOwn (ds.map Slot.val ++ List.replicate (N.length - np) Slot.non)[i]? = false := fun i => by
    by_cases h : i < ds.length
    · rw [List.getElem?_append_left (by simpa using h)]
      simp [h, isOwn]
    · rw [List.getElem?_append_right (by simpa using h), List.getElem?_replicate]
      split <;> rfl
  refine ⟨⟨by unfold L2.start; simp [hl, ← hlen], fun i s e => ?_, fun i j p _ h _ => by rw [own i] at h; cases h⟩, fun H0 i p h => by rw [own i] at h; cases h⟩
  by_cases h : i < ds.length
  · rw [List.getElem?_append_left (by simpa using h)] at e
    rw [List.getElem?_map] at e
    have hd : ds[i]? = some ds[i] := by simp [h]
    rw [hd] at e
    cases e
    obtain ⟨v, h1, h2⟩ := hi.get hd
    refine ⟨v, ?_, h2⟩
    unfold L2.start
    have hv : i < (vs.map some).length := by rw [List.length_map, ← hlen]; exact h
    rw [List.getElem?_append_left hv, List.getElem?_map, h1]
    rfl
  · rw [List.getElem?_append_right (by simpa using h), List.getElem?_replicate] at e
    split at e
    · cases e; exact True.intro
    · cases e
theorem all_defs (A : L.At K mg fa cl) : ∀ n, Lv L P w K mg base fa cl n
  | 0 => fun i d f fd _ _ _ => ⟨fun vs H Q E h => by obtain ⟨ds, S, d', S', F, m, _, h2, _⟩ := h; simp [callN] at h2, fun A outer s H args us vs Q E _ _ _ _ h => by obtain ⟨ds, S, d', S', F, m, _, h2, _⟩ := h; simp [callN] at h2⟩
  | n + 1 => fun i d f fd hd hf F => by
    have ih := all_defs A n
    have ok := A.ok d (List.mem_of_getElem? hd)
    have hnp : (d.N.take d.np).length = d.np := by rw [List.length_take]; have := ok.np; omega
    have hfn : L.prg.fns[i]? = some ⟨d.np, d.N.length, d.body⟩ := by simp [Lw.prg, hd]
    refine F.ok (k := 2 * n + 1) ok.sc (fun vs H Q E h => ?_) (fun cdv A' outer s H vs Q E hr h => ?_)
    · obtain ⟨ds, S, d', S', F, m, h1, _, _, h4, _⟩ := h
      rw [hnp, ← h1, h4.len]
    · obtain ⟨ds, S, d', S', F, m, h1, h2, h3, h4, h5⟩ := h
      have k := kn_of A ih ok (outer := outer) (H := H) (E := E) hr
      refine ⟨_, pss_sss, ?_⟩
      simp only [callN, hfn, if_pos h1] at h2
      cases eo : exB ⟨callN L.prg n, L.globs, L.inits⟩ d.body (ds.map Slot.val ++ List.replicate (d.N.length - d.np) Slot.non) S with
      | none => unfold Lw.prg at eo; rw [show L.prg.globs = L.globs from rfl, show L.prg.inits = L.inits from rfl] at h2; rw [show callN L.prg n = callN ⟨L.defs.map fun d => ⟨d.np, d.N.length, d.body⟩, L.globs, L.inits⟩ n from rfl, eo] at h2; cases h2
      | some o =>
        have h2 : (match (some o : Option Out) with | some (.nx _ S') => some (D.non, S') | some (.ret d S') => some (d, S') | _ => none) = some (d', S') := by rw [← eo]; exact h2
        obtain ⟨ev, ow⟩ := env_start (H := H) h1 ok.np h4
        refine (co_S PassesOwn.never k 60).2 (defBody d.st) d.body ok.co _ S o eo F m H F m _ H ⟨Stp.refl, h3, ev, ow H⟩ _ ?_
        cases o with
        | nx τ' S2 =>
          cases h2
          exact fun F' m' σ' H' _ _ ok' => h5 F' m' H' .non ok'.st ok'.g (by simp [Is])
        | ret d2 S2 =>
          cases h2
          exact fun F' m' H' v _ _ k1 k2 k3 => h5 F' m' H' v k1 k2 k3
        | brk _ _ => cases h2
        | ct _ _ => cases h2
end
end Co
end

section
set_option maxHeartbeats 0
set_option Elab.async false
set_option linter.all false
set_option maxRecDepth 100000
/-! Co14: the classes' facts from words of the written part; the law's own promise. -/
namespace Co
open PySem L2
structure ClsF (K : PySem.W.Frag) (C : Addr) : Prop where
  c : Cls K C
  cla : PySem.W.findIn K (.ref C) "__class__" = some (some (.builtin "object.__class__"))
  mro : PySem.W.mroIn K C (.type "object") = some true
  ty : PySem.W.typeIn K (.ref C) = some (.type "type")
  ci : (PySem.W.clsIn K C).isSome = true
  sb : ∀ n ∈ (["int", "bool", "str", "tuple", "list"] : List String), PySem.W.subIn K (.ref C) (.type n) = some false
  eqn : PySem.W.findIn K (.ref C) "__eq__" = some (some (.builtin "object.__eq__")) ∧ PySem.W.findIn K (.ref C) "__ne__" = some (some (.builtin "object.__ne__"))
theorem kitRef {K : PySem.W.Frag} {t : Value} {C : Addr} {b : Bool} (hne : (t == Value.ref C) = false) (ci : (PySem.W.clsIn K C).isSome = true) (ty : PySem.W.typeIn K (.ref C) = some (.type "type")) (sb : PySem.W.subIn K t (.ref C) = some b) : PySem.W.kitOne K t (.ref C) = some b := by
  unfold PySem.W.kitOne
  rw [hne, if_neg Bool.false_ne_true]
  unfold PySem.W.kitCls
  simp only
  rw [ci, ty]
  simpa using sb
theorem sub_bi {K : PySem.W.Frag} {C : Addr} {n : String} (h : n ∈ (["int", "bool", "str", "tuple", "list", "NoneType", "dict"] : List String)) : PySem.W.subIn K (.type n) (.ref C) = some false := by
  have key : ∀ {ms : List Value}, fastBuiltinMro n = some ms → ms.contains (.ref C) = false → PySem.W.subIn K (.type n) (.ref C) = some false := by
    intro ms e q
    show (fastBuiltinMro n).map (·.contains (.ref C)) = some false
    rw [e]
    show some (ms.contains (.ref C)) = some false
    rw [q]
  simp only [List.mem_cons, List.not_mem_nil, or_false] at h
  rcases h with rfl | rfl | rfl | rfl | rfl | rfl | rfl
  · exact key (ms := [.type "int", .type "object"]) (by decide +kernel) rfl
  · exact key (ms := [.type "bool", .type "int", .type "object"]) (by decide +kernel) rfl
  · exact key (ms := [.type "str", .type "object"]) (by decide +kernel) rfl
  · exact key (ms := [.type "tuple", .type "object"]) (by decide +kernel) rfl
  · exact key (ms := [.type "list", .type "object"]) (by decide +kernel) rfl
  · exact key (ms := [.type "NoneType", .type "object"]) (by decide +kernel) rfl
  · exact key (ms := [.type "dict", .type "object"]) (by decide +kernel) rfl
theorem clsOk_of {K : PySem.W.Frag} {cl : List Addr} (h : ∀ C ∈ cl, ClsF K C) (nd : cl.Nodup) (clg : PySem.W.specialIn K (.builtin "object.__class__") "__get__" = some (some (.builtin "getset_descriptor.__get__"))) (clt : PySem.W.takesIn K (.builtin "object.__class__") = some true)
    (pp : ∀ C ∈ cl, ∀ C' ∈ cl, C ≠ C' → PySem.W.subIn K (.ref C) (.ref C') = some false) : ClsOk K cl where
  cls := fun c C e => (h C (List.mem_of_getElem? e)).c
  cla := fun c C e => (h C (List.mem_of_getElem? e)).cla
  clg := clg
  clt := clt
  mro := fun c C e => (h C (List.mem_of_getElem? e)).mro
  oo := fun c C c' C' e e' => by
    by_cases hc : c = c'
    · subst hc
      rw [e] at e'; cases e'
      unfold PySem.W.kitOne
      simp
    · have hC : C ≠ C' := fun z => by
        subst z
        obtain ⟨p1, e1⟩ := List.getElem?_eq_some_iff.mp e
        obtain ⟨p2, e2⟩ := List.getElem?_eq_some_iff.mp e'
        exact hc ((List.getElem_inj nd).mp (e1.trans e2.symm))
      rw [decide_eq_false hc]
      have f := h C' (List.mem_of_getElem? e')
      exact kitRef (by simp [hC]) f.ci f.ty (pp C (List.mem_of_getElem? e) C' (List.mem_of_getElem? e') hC)
  ob := fun c C n e hn => by
    have f := h C (List.mem_of_getElem? e)
    have hm : PySem.W.kitMeta n = true := by
      simp only [List.mem_cons, List.not_mem_nil, or_false] at hn
      rcases hn with rfl | rfl | rfl | rfl | rfl <;> decide +kernel
    unfold PySem.W.kitOne
    rw [if_neg (by simp)]
    unfold PySem.W.kitCls
    simp only
    rw [if_pos hm]
    exact f.sb n hn
  bo := fun c C n e hn => by
    have f := h C (List.mem_of_getElem? e)
    exact kitRef (by simp) f.ci f.ty (sub_bi hn)
  inj := nd
  eqn := fun c C e => (h C (List.mem_of_getElem? e)).eqn

/-- the law's promise: a script in, True out -/
def spLaw (K : PySem.W.Frag) : Sp := fun vs H Q _ => ∃ (a : Addr) (ns : List Int), vs = [.ref a] ∧ SqL K H a (ns.map V.int) ∧ ns.length ≤ 63 ∧ ∀ H', Q (.bl true) H'
theorem law_ok {L : Lw} {P : Program} {w : World} {K : PySem.W.Frag} {mg : Str → Option Value} {base : Heap} {fa cl : List Addr} (A : L.At K mg fa cl) {n i : Nat} {d : DefD} {f : Addr} {fd : FuncData} (hd : L.defs[i]? = some d) (hf : fa[i]? = some f) (F : L2.Fun K d.x d.qual d.st f fd) (hnp : d.np = 1)
    (math : ∀ ns : List Int, ns.length ≤ 63 → ∃ S', callN L.prg n i [.scr (ns.map D.int)] [] = some (.bl true, S')) : FnOk P w K mg base CX0 (2 * n) f fd (d.N.take d.np) (spLaw K) := by
  refine (all_defs A n i d f fd hd hf F).imp fun vs H Q E h => ?_
  obtain ⟨a, ns, rfl, hS, hl, q⟩ := h
  obtain ⟨S', e⟩ := math ns hl
  refine ⟨[.scr (ns.map D.int)], [], .bl true, S', H, [], by simp [hnp], e, ⟨Same.refl _, rfl, .nil, fun i a o h => by simp at h⟩, IsA.one ?_, fun F' m' H' v _ _ hv => ?_⟩
  · simp only [Is]
    exact ⟨a, _, rfl, hS, IsA.ofInts ns⟩
  · rw [is_bl.mp hv]
    exact q H'
end Co
end

section
set_option maxHeartbeats 0
set_option Elab.async false
set_option linter.all false
set_option maxRecDepth 100000
/-! the law's text as data, printed by gen.py -/
namespace K53
open PySem L2 Co
def top (i : Nat) : Stmt := PySem.Challenge.pw_roundfractions_k53_judge_together_and_ap.main.body.getD i (.Pass ⟨0, 0, 0, 0⟩)
def gFns : List (Str × Nat) := [(("is_integer" : Str), 0), (("is_ratio" : Str), 1), (("pair" : Str), 2), (("in_lowest" : Str), 3), (("added" : Str), 4), (("multiplied" : Str), 5), (("as_tuples" : Str), 6), (("is_list" : Str), 7), (("same_told" : Str), 8), (("is_poly" : Str), 9), (("need_poly" : Str), 10), (("value_by" : Str), 11), (("need_moved" : Str), 12), (("first_apart" : Str), 14), (("need_both" : Str), 15), (("together_holds" : Str), 16), (("_law_pen" : Str), 17), (("_law_draw" : Str), 18), (("_law_pick" : Str), 19), (("_law_is" : Str), 20), (("_law_says" : Str), 21), (("_law_divisor" : Str), 22), (("_law_low" : Str), 23), (("_law_pair" : Str), 24), (("_law_plus" : Str), 25), (("_law_times" : Str), 26), (("_law_poly_tidy" : Str), 27), (("_law_poly_sum" : Str), 28), (("_law_poly_times" : Str), 29), (("_law_poly_at" : Str), 30), (("_law_poly_after" : Str), 31), (("_law_poly_more" : Str), 32), (("_law_c_commute" : Str), 33), (("_law_c_small" : Str), 34), (("_law_due" : Str), 35), (("law" : Str), 36)]
def gGlobs : List (Str × Nat) := [(("MOST_ITEMS" : Str), 0), (("MOST_MOVED" : Str), 1), (("MOST_BOTH" : Str), 2)]
def gClss : List (Str × Nat) := [(("Together" : Str), 0), (("Apart" : Str), 1)]
def gFree : List Str := ["len", "abs", "int", "list", "tuple", "all", "max", "isinstance", "range", "enumerate", "zip", "bool", "str"]
def gAtrs : List Str := ["number"]
/-- is_integer(value) -/
abbrev s0 : Stmt := top 6
def n0 : List Str := ["value"]
def b0 : CB := (.cons [] (.ret (.andV (.isi (.var 0) [.int]) (.notV (.isi (.var 0) [.bool])))) .nil)
def d0 : DefD := ⟨"is_integer", "is_integer", s0, n0, 1, b0⟩
/-- is_ratio(value) -/
abbrev s1 : Stmt := top 7
def n1 : List Str := ["value"]
def b1 : CB := (.cons [] (.ifs (.not (.tr (.isi (.var 0) [.tuple]))) (.cons [0] (.ret (.call 0 (.cons (.var 0) .nil))) .nil) .nil) (.cons [] (.ifs (.or (.tr (.cmp .ne (.bi .len (.var 0)) (.const (.int (2))))) (.or (.not (.tr (.call 0 (.cons (.idx (.var 0) (.const (.int (0)))) .nil)))) (.not (.tr (.call 0 (.cons (.idx (.var 0) (.const (.int (1)))) .nil)))))) (.cons [] (.ret (.const (.bl false))) .nil) .nil) (.cons [] (.ret (.andV (.cmp .gt (.idx (.var 0) (.const (.int (1)))) (.const (.int (1)))) (.cmp .eq (.bi2 .gcd (.idx (.var 0) (.const (.int (0)))) (.idx (.var 0) (.const (.int (1))))) (.const (.int (1)))))) .nil)))
def d1 : DefD := ⟨"is_ratio", "is_ratio", s1, n1, 1, b1⟩
/-- pair(number) -/
abbrev s2 : Stmt := top 8
def n2 : List Str := ["number"]
def b2 : CB := (.cons [0, 0] (.ret (.ite (.tr (.isi (.var 0) [.int])) (.tup (.cons (.var 0) (.cons (.const (.int (1))) .nil))) (.var 0))) .nil)
def d2 : DefD := ⟨"pair", "pair", s2, n2, 1, b2⟩
/-- in_lowest(top, bottom) -/
abbrev s3 : Stmt := top 9
def n3 : List Str := ["top", "bottom", "by"]
def b3 : CB := (.cons [] (.set 2 (.ite (.tr (.cmp .gt (.var 1) (.const (.int (0))))) (.bi2 .gcd (.var 0) (.var 1)) (.neg (.bi2 .gcd (.var 0) (.var 1))))) (.cons [] (.ret (.ite (.tr (.cmp .eq (.var 1) (.var 2))) (.bin .fdiv (.var 0) (.var 2)) (.tup (.cons (.bin .fdiv (.var 0) (.var 2)) (.cons (.bin .fdiv (.var 1) (.var 2)) .nil))))) .nil))
def d3 : DefD := ⟨"in_lowest", "in_lowest", s3, n3, 2, b3⟩
/-- added(one, other) -/
abbrev s4 : Stmt := top 10
def n4 : List Str := ["one", "other", "top", "bottom", "high", "low"]
def b4 : CB := (.cons [] (.ifs (.and (.tr (.isi (.var 0) [.int])) (.tr (.isi (.var 1) [.int]))) (.cons [] (.ret (.bin .add (.var 0) (.var 1))) .nil) .nil) (.cons [0, 1] (.setP (.tcons (.tcons (.nm 2) (.tcons (.nm 3) .tnil)) (.tcons (.tcons (.nm 4) (.tcons (.nm 5) .tnil)) .tnil)) (.tup (.cons (.call 2 (.cons (.var 0) .nil)) (.cons (.call 2 (.cons (.var 1) .nil)) .nil)))) (.cons [] (.ret (.call 3 (.cons (.bin .add (.bin .mul (.var 2) (.var 5)) (.bin .mul (.var 4) (.var 3))) (.cons (.bin .mul (.var 3) (.var 5)) .nil)))) .nil)))
def d4 : DefD := ⟨"added", "added", s4, n4, 2, b4⟩
/-- multiplied(one, other) -/
abbrev s5 : Stmt := top 11
def n5 : List Str := ["one", "other", "top", "bottom", "high", "low"]
def b5 : CB := (.cons [] (.ifs (.and (.tr (.isi (.var 0) [.int])) (.tr (.isi (.var 1) [.int]))) (.cons [] (.ret (.bin .mul (.var 0) (.var 1))) .nil) .nil) (.cons [0, 1] (.setP (.tcons (.tcons (.nm 2) (.tcons (.nm 3) .tnil)) (.tcons (.tcons (.nm 4) (.tcons (.nm 5) .tnil)) .tnil)) (.tup (.cons (.call 2 (.cons (.var 0) .nil)) (.cons (.call 2 (.cons (.var 1) .nil)) .nil)))) (.cons [] (.ret (.call 3 (.cons (.bin .mul (.var 2) (.var 4)) (.cons (.bin .mul (.var 3) (.var 5)) .nil)))) .nil)))
def d5 : DefD := ⟨"multiplied", "multiplied", s5, n5, 2, b5⟩
/-- as_tuples(value) -/
abbrev s6 : Stmt := top 13
def n6 : List Str := ["value", "one"]
def b6 : CB := (.cons [] (.ifs (.tr (.isi (.var 0) [.list, .tuple])) (.cons [] (.ret (.bi .tuple (.lc (.nm 1) [1] (.seq (.var 0)) .yes (.call 6 (.cons (.var 1) .nil))))) .nil) .nil) (.cons [0] (.ret (.var 0)) .nil))
def d6 : DefD := ⟨"as_tuples", "as_tuples", s6, n6, 1, b6⟩
/-- is_list(value) -/
abbrev s7 : Stmt := top 14
def n7 : List Str := ["value"]
def b7 : CB := (.cons [] (.ret (.isi (.var 0) [.list, .tuple])) .nil)
def d7 : DefD := ⟨"is_list", "is_list", s7, n7, 1, b7⟩
/-- same_told(due, value) -/
abbrev s8 : Stmt := top 15
def n8 : List Str := ["due", "value", "one", "other"]
def b8 : CB := (.cons [] (.ifs (.tr (.isi (.var 0) [.tuple])) (.cons [] (.ifs (.or (.not (.tr (.isi (.var 1) [.tuple]))) (.tr (.cmp .ne (.bi .len (.var 1)) (.bi .len (.var 0))))) (.cons [] (.ret (.const (.bl false))) .nil) .nil) (.cons [] (.ret (.bi .all (.lc (.tcons (.nm 2) (.tcons (.nm 3) .tnil)) [2, 3] (.zip (.var 0) (.var 1)) .yes (.call 8 (.cons (.var 2) (.cons (.var 3) .nil)))))) .nil)) .nil) (.cons [] (.ifs (.or (.tr (.isi (.var 0) [.bool])) (.tr (.isi (.var 1) [.bool]))) (.cons [] (.ret (.andV (.isi (.var 0) [.bool]) (.andV (.isi (.var 1) [.bool]) (.cmp .eq (.var 0) (.var 1))))) .nil) .nil) (.cons [0] (.ifs (.tr (.call 0 (.cons (.var 0) .nil))) (.cons [1] (.ret (.andV (.call 0 (.cons (.var 1) .nil)) (.cmp .eq (.var 1) (.var 0)))) .nil) .nil) (.cons [] (.ret (.cmp .eq (.var 1) (.var 0))) .nil))))
def d8 : DefD := ⟨"same_told", "same_told", s8, n8, 2, b8⟩
/-- is_poly(value) -/
abbrev s9 : Stmt := top 18
def n9 : List Str := ["value", "one"]
def b9 : CB := (.cons [] (.ifs (.or (.not (.tr (.isi (.var 0) [.tuple]))) (.or (.tr (.cmp .gt (.bi .len (.var 0)) (.glob 0))) (.not (.tr (.bi .all (.lc (.nm 1) [1] (.seq (.var 0)) .yes (.call 1 (.cons (.var 1) .nil)))))))) (.cons [] (.ret (.const (.bl false))) .nil) .nil) (.cons [] (.ret (.orV (.cmp .eq (.var 0) (.tup .nil)) (.cmp .ne (.idx (.var 0) (.neg (.const (.int (1))))) (.const (.int (0)))))) .nil))
def d9 : DefD := ⟨"is_poly", "is_poly", s9, n9, 1, b9⟩
/-- need_poly(poly, what) -/
abbrev s10 : Stmt := top 19
def n10 : List Str := ["poly", "what", "told"]
def b10 : CB := (.cons [0, 0] (.set 2 (.ite (.tr (.call 7 (.cons (.var 0) .nil))) (.bi .tuple (.var 0)) (.var 0))) (.cons [2] (.ifs (.not (.tr (.call 9 (.cons (.var 2) .nil)))) (.cons [] .never .nil) .nil) (.cons [2] (.ret (.var 2)) .nil)))
def d10 : DefD := ⟨"need_poly", "need_poly", s10, n10, 2, b10⟩
/-- value_by(poly, x) -/
abbrev s11 : Stmt := top 20
def n11 : List Str := ["poly", "x", "total", "one"]
def b11 : CB := (.cons [] (.set 2 (.const (.int (0)))) (.cons [] (.for (.nm 3) (.seq (.rev (.var 0))) (.cons [2, 1, 3] (.set 2 (.call 4 (.cons (.call 5 (.cons (.var 2) (.cons (.var 1) .nil))) (.cons (.var 3) .nil)))) .nil)) (.cons [2] (.ret (.var 2)) .nil)))
def d11 : DefD := ⟨"value_by", "value_by", s11, n11, 2, b11⟩
/-- need_moved(poly, what) -/
abbrev s12 : Stmt := top 23
def n12 : List Str := ["poly", "what", "told"]
def b12 : CB := (.cons [0, 1] (.set 2 (.call 10 (.cons (.var 0) (.cons (.var 1) .nil)))) (.cons [] (.ifs (.not (.tr (.chain .le .le (.const (.int (3))) (.bi .len (.var 2)) (.glob 1)))) (.cons [] .never .nil) .nil) (.cons [2] (.ret (.var 2)) .nil)))
def d12 : DefD := ⟨"need_moved", "need_moved", s12, n12, 2, b12⟩
/-- Apart.__init__(self, number) -/
abbrev s13 : Stmt := inClass (top 27) 0
def n13 : List Str := ["self", "number"]
def b13 : CB := (.cons [1] (.fset (.var 0) "number" (.call 6 (.cons (.var 1) .nil))) .nil)
def d13 : DefD := ⟨"__init__", "Apart.__init__", s13, n13, 2, b13⟩
/-- first_apart(one, other) -/
abbrev s14 : Stmt := top 28
def n14 : List Str := ["one", "other", "x"]
def b14 : CB := (.cons [] (.for (.nm 2) (.rng1 (.bin .add (.bin .mul (.bin .sub (.bi .len (.var 0)) (.const (.int (1)))) (.bin .sub (.bi .len (.var 1)) (.const (.int (1))))) (.const (.int (1))))) (.cons [0, 1, 2, 1, 0, 2] (.ifs (.tr (.cmp .ne (.call 11 (.cons (.var 0) (.cons (.call 11 (.cons (.var 1) (.cons (.var 2) .nil))) .nil))) (.call 11 (.cons (.var 1) (.cons (.call 11 (.cons (.var 0) (.cons (.var 2) .nil))) .nil))))) (.cons [2] (.ret (.var 2)) .nil) .nil) .nil)) (.cons [] (.ret (.const .non)) .nil))
def d14 : DefD := ⟨"first_apart", "first_apart", s14, n14, 2, b14⟩
/-- need_both(one, other) -/
abbrev s15 : Stmt := top 29
def n15 : List Str := ["one", "other", "first", "second", "degree"]
def b15 : CB := (.cons [0] (.set 2 (.call 12 (.cons (.var 0) (.cons (.const (.str "one")) .nil)))) (.cons [1] (.set 3 (.call 12 (.cons (.var 1) (.cons (.const (.str "other")) .nil)))) (.cons [] (.set 4 (.bin .mul (.bin .sub (.bi .len (.var 2)) (.const (.int (1)))) (.bin .sub (.bi .len (.var 3)) (.const (.int (1)))))) (.cons [] (.ifs (.tr (.cmp .gt (.var 4) (.glob 2))) (.cons [] .never .nil) .nil) (.cons [2, 3] (.ret (.call 14 (.cons (.var 2) (.cons (.var 3) .nil)))) .nil)))))
def d15 : DefD := ⟨"need_both", "need_both", s15, n15, 2, b15⟩
/-- together_holds(one, other, value) -/
abbrev s16 : Stmt := top 30
def n16 : List Str := ["one", "other", "value", "number"]
def b16 : CB := (.cons [0, 1] (.set 3 (.call 15 (.cons (.var 0) (.cons (.var 1) .nil)))) (.cons [] (.ifs (.tr (.cmp .is (.var 3) (.const .non))) (.cons [] (.ret (.isi (.var 2) [.own 0])) .nil) .nil) (.cons [3] (.ret (.andV (.isi (.var 2) [.own 1]) (.call 8 (.cons (.var 3) (.cons (.attr (.var 2) "number") .nil))))) .nil)))
def d16 : DefD := ⟨"together_holds", "together_holds", s16, n16, 3, b16⟩
/-- _law_pen(script) -/
abbrev s17 : Stmt := top 32
def n17 : List Str := ["script", "fold", "cell"]
def b17 : CB := (.cons [] (.set 1 (.const (.int (0)))) (.cons [0] (.for (.nm 2) (.seq (.var 0)) (.cons [] (.set 1 (.bin .mod (.bi .int (.bin .add (.bin .mul (.var 1) (.const (.int (47)))) (.var 2))) (.const (.int (1000000007))))) .nil)) (.cons [1] (.ret (.dct [.inr "cells", .inr "at", .inr "digits", .inr "count", .inr "fold"] (.cons (.bi .list (.var 0)) (.cons (.const (.int (0))) (.cons (.const (.int (0))) (.cons (.const (.int (0))) (.cons (.var 1) .nil))))))) .nil)))
def d17 : DefD := ⟨"_law_pen", "_law_pen", s17, n17, 1, b17⟩
/-- _law_draw(pen, many) -/
abbrev s18 : Stmt := top 33
def n18 : List Str := ["pen", "many", "cell", "digit", "blend"]
def b18 : CB := (.cons [] (.put 0 (.const (.str "count")) (.bin .add (.idx (.var 0) (.const (.str "count"))) (.const (.int (1))))) (.cons [] (.ifs (.and (.tr (.cmp .eq (.idx (.var 0) (.const (.str "digits"))) (.const (.int (0))))) (.tr (.cmp .lt (.idx (.var 0) (.const (.str "at"))) (.bi .len (.idx (.var 0) (.const (.str "cells"))))))) (.cons [] (.set 2 (.idx (.idx (.var 0) (.const (.str "cells"))) (.idx (.var 0) (.const (.str "at"))))) (.cons [] (.put 0 (.const (.str "at")) (.bin .add (.idx (.var 0) (.const (.str "at"))) (.const (.int (1))))) (.cons [] (.ifs (.tr (.cmp .ge (.var 2) (.bin .pow (.const (.int (10))) (.const (.int (18)))))) (.cons [] (.put 0 (.const (.str "digits")) (.bin .sub (.var 2) (.bin .pow (.const (.int (10))) (.const (.int (18)))))) .nil) (.cons [] (.put 0 (.const (.str "fold")) (.bin .mod (.bi .int (.bin .add (.bin .mul (.idx (.var 0) (.const (.str "fold"))) (.const (.int (69069)))) (.var 2))) (.const (.int (2147483587))))) .nil)) .nil))) .nil) (.cons [] (.ifs (.tr (.cmp .gt (.idx (.var 0) (.const (.str "digits"))) (.const (.int (0))))) (.cons [] (.set 3 (.bin .mod (.bi .int (.idx (.var 0) (.const (.str "digits")))) (.var 1))) (.cons [] (.put 0 (.const (.str "digits")) (.bin .fdiv (.idx (.var 0) (.const (.str "digits"))) (.var 1))) (.cons [3] (.ret (.var 3)) .nil))) .nil) (.cons [] (.set 4 (.bin .mod (.bi .int (.bin .add (.bin .add (.bin .mul (.idx (.var 0) (.const (.str "fold"))) (.const (.int (48271)))) (.bin .mul (.idx (.var 0) (.const (.str "count"))) (.const (.int (7919))))) (.const (.int (13))))) (.const (.int (2147483647))))) (.cons [] (.set 4 (.bin .mod (.bi .int (.bin .add (.bin .add (.bin .mul (.var 4) (.var 4)) (.bin .mul (.const (.int (31))) (.var 4))) (.idx (.var 0) (.const (.str "count"))))) (.const (.int (2147483629))))) (.cons [] (.put 0 (.const (.str "fold")) (.bin .mod (.bi .int (.bin .add (.bin .mul (.var 4) (.const (.int (16807)))) (.const (.int (7))))) (.const (.int (2147483647))))) (.cons [] (.ret (.bin .mod (.bi .int (.bin .fdiv (.var 4) (.const (.int (64))))) (.var 1))) .nil)))))))
def d18 : DefD := ⟨"_law_draw", "_law_draw", s18, n18, 2, b18⟩
/-- _law_pick(pen, some) -/
abbrev s19 : Stmt := top 34
def n19 : List Str := ["pen", "some"]
def b19 : CB := (.cons [0] (.ret (.idx (.var 1) (.call 18 (.cons (.var 0) (.cons (.bi .len (.var 1)) .nil))))) .nil)
def d19 : DefD := ⟨"_law_pick", "_law_pick", s19, n19, 2, b19⟩
/-- _law_is(told, due) -/
abbrev s20 : Stmt := top 35
def n20 : List Str := ["told", "due", "at"]
def b20 : CB := (.cons [] (.ifs (.tr (.isi (.var 1) [.tuple])) (.cons [] (.ifs (.or (.not (.tr (.isi (.var 0) [.tuple]))) (.tr (.cmp .ne (.bi .len (.var 0)) (.bi .len (.var 1))))) (.cons [] (.ret (.const (.bl false))) .nil) .nil) (.cons [] (.ret (.cmp .eq (.lc (.nm 2) [2] (.rng1 (.bi .len (.var 1))) (.not (.tr (.call 20 (.cons (.idx (.var 0) (.var 2)) (.cons (.idx (.var 1) (.var 2)) .nil))))) (.var 2)) (.lst .nil))) .nil)) .nil) (.cons [] (.ifs (.tr (.cmp .is (.var 1) (.const .non))) (.cons [] (.ret (.cmp .is (.var 0) (.const .non))) .nil) .nil) (.cons [] (.ifs (.tr (.cmp .is (.var 1) (.const (.bl true)))) (.cons [] (.ret (.cmp .is (.var 0) (.const (.bl true)))) .nil) .nil) (.cons [] (.ifs (.tr (.cmp .is (.var 1) (.const (.bl false)))) (.cons [] (.ret (.cmp .is (.var 0) (.const (.bl false)))) .nil) .nil) (.cons [] (.ifs (.tr (.isi (.var 1) [.str])) (.cons [] (.ret (.andV (.isi (.var 0) [.str]) (.cmp .eq (.var 0) (.var 1)))) .nil) .nil) (.cons [] (.ret (.andV (.isi (.var 0) [.int]) (.andV (.notV (.isi (.var 0) [.bool])) (.cmp .eq (.var 0) (.var 1))))) .nil))))))
def d20 : DefD := ⟨"_law_is", "_law_is", s20, n20, 2, b20⟩
/-- _law_says(told, due) -/
abbrev s21 : Stmt := top 36
def n21 : List Str := ["told", "due"]
def b21 : CB := (.cons [] (.ret (.ite (.tr (.var 1)) (.cmp .is (.var 0) (.const (.bl true))) (.cmp .is (.var 0) (.const (.bl false))))) .nil)
def d21 : DefD := ⟨"_law_says", "_law_says", s21, n21, 2, b21⟩
/-- _law_divisor(one, other) -/
abbrev s22 : Stmt := top 37
def n22 : List Str := ["one", "other"]
def b22 : CB := (.cons [] (.par [0, 1] (.cons (.bi .abs (.var 0)) (.cons (.bi .abs (.var 1)) .nil))) (.cons [] (.whl (.tr (.cmp .ne (.var 1) (.const (.int (0))))) (.cons [1] (.par [0, 1] (.cons (.var 1) (.cons (.bin .mod (.bi .int (.var 0)) (.var 1)) .nil))) .nil)) (.cons [0] (.ret (.var 0)) .nil)))
def d22 : DefD := ⟨"_law_divisor", "_law_divisor", s22, n22, 2, b22⟩
/-- _law_low(top, bottom) -/
abbrev s23 : Stmt := top 38
def n23 : List Str := ["top", "bottom", "by"]
def b23 : CB := (.cons [0, 1] (.set 2 (.call 22 (.cons (.var 0) (.cons (.var 1) .nil)))) (.cons [] (.ifs (.tr (.cmp .lt (.var 1) (.const (.int (0))))) (.cons [] (.set 2 (.neg (.var 2))) .nil) .nil) (.cons [] (.ret (.ite (.tr (.cmp .eq (.var 1) (.var 2))) (.bin .fdiv (.var 0) (.var 2)) (.tup (.cons (.bin .fdiv (.var 0) (.var 2)) (.cons (.bin .fdiv (.var 1) (.var 2)) .nil))))) .nil)))
def d23 : DefD := ⟨"_law_low", "_law_low", s23, n23, 2, b23⟩
/-- _law_pair(number) -/
abbrev s24 : Stmt := top 39
def n24 : List Str := ["number"]
def b24 : CB := (.cons [0, 0] (.ret (.ite (.tr (.isi (.var 0) [.int])) (.tup (.cons (.var 0) (.cons (.const (.int (1))) .nil))) (.var 0))) .nil)
def d24 : DefD := ⟨"_law_pair", "_law_pair", s24, n24, 1, b24⟩
/-- _law_plus(one, other) -/
abbrev s25 : Stmt := top 40
def n25 : List Str := ["one", "other", "first", "second"]
def b25 : CB := (.cons [0, 1] (.par [2, 3] (.cons (.call 24 (.cons (.var 0) .nil)) (.cons (.call 24 (.cons (.var 1) .nil)) .nil))) (.cons [] (.ret (.call 23 (.cons (.bin .add (.bin .mul (.idx (.var 2) (.const (.int (0)))) (.idx (.var 3) (.const (.int (1))))) (.bin .mul (.idx (.var 3) (.const (.int (0)))) (.idx (.var 2) (.const (.int (1)))))) (.cons (.bin .mul (.idx (.var 2) (.const (.int (1)))) (.idx (.var 3) (.const (.int (1))))) .nil)))) .nil))
def d25 : DefD := ⟨"_law_plus", "_law_plus", s25, n25, 2, b25⟩
/-- _law_times(one, other) -/
abbrev s26 : Stmt := top 41
def n26 : List Str := ["one", "other", "first", "second"]
def b26 : CB := (.cons [0, 1] (.par [2, 3] (.cons (.call 24 (.cons (.var 0) .nil)) (.cons (.call 24 (.cons (.var 1) .nil)) .nil))) (.cons [] (.ret (.call 23 (.cons (.bin .mul (.idx (.var 2) (.const (.int (0)))) (.idx (.var 3) (.const (.int (0))))) (.cons (.bin .mul (.idx (.var 2) (.const (.int (1)))) (.idx (.var 3) (.const (.int (1))))) .nil)))) .nil))
def d26 : DefD := ⟨"_law_times", "_law_times", s26, n26, 2, b26⟩
/-- _law_poly_tidy(row) -/
abbrev s27 : Stmt := top 42
def n27 : List Str := ["row", "many", "lap"]
def b27 : CB := (.cons [] (.set 1 (.bi .len (.var 0))) (.cons [] (.for (.nm 2) (.rng1 (.bi .len (.var 0))) (.cons [] (.ifs (.and (.tr (.cmp .gt (.var 1) (.const (.int (0))))) (.tr (.cmp .eq (.idx (.var 0) (.bin .sub (.var 1) (.const (.int (1))))) (.const (.int (0)))))) (.cons [] (.set 1 (.bin .sub (.var 1) (.const (.int (1))))) .nil) .nil) .nil)) (.cons [] (.ret (.bi .tuple (.slH (.var 0) (.var 1)))) .nil)))
def d27 : DefD := ⟨"_law_poly_tidy", "_law_poly_tidy", s27, n27, 1, b27⟩
/-- _law_poly_sum(one, other) -/
abbrev s28 : Stmt := top 43
def n28 : List Str := ["one", "other", "many", "x", "y"]
def b28 : CB := (.cons [] (.set 2 (.bi2 .max (.bi .len (.var 0)) (.bi .len (.var 1)))) (.cons [] (.ret (.call 27 (.cons (.lc (.tcons (.nm 3) (.tcons (.nm 4) .tnil)) [3, 4] (.zip (.bin .add (.bi .tuple (.var 0)) (.bin .mul (.tup (.cons (.const (.int (0))) .nil)) (.bin .sub (.var 2) (.bi .len (.var 0))))) (.bin .add (.bi .tuple (.var 1)) (.bin .mul (.tup (.cons (.const (.int (0))) .nil)) (.bin .sub (.var 2) (.bi .len (.var 1)))))) .yes (.call 25 (.cons (.var 3) (.cons (.var 4) .nil)))) .nil))) .nil))
def d28 : DefD := ⟨"_law_poly_sum", "_law_poly_sum", s28, n28, 2, b28⟩
/-- _law_poly_times(one, other) -/
abbrev s29 : Stmt := top 44
def n29 : List Str := ["one", "other", "found", "i", "x", "k", "y"]
def b29 : CB := (.cons [] (.set 2 (.bin .mul (.lst (.cons (.const (.int (0))) .nil)) (.bin .add (.bi .len (.var 0)) (.bi .len (.var 1))))) (.cons [0] (.for (.tcons (.nm 3) (.tcons (.nm 4) .tnil)) (.enum (.var 0)) (.cons [1] (.for (.tcons (.nm 5) (.tcons (.nm 6) .tnil)) (.enum (.var 1)) (.cons [4, 6] (.put 2 (.bin .add (.var 3) (.var 5)) (.call 25 (.cons (.idx (.var 2) (.bin .add (.var 3) (.var 5))) (.cons (.call 26 (.cons (.var 4) (.cons (.var 6) .nil))) .nil)))) .nil)) .nil)) (.cons [2] (.ret (.call 27 (.cons (.var 2) .nil))) .nil)))
def d29 : DefD := ⟨"_law_poly_times", "_law_poly_times", s29, n29, 2, b29⟩
/-- _law_poly_at(poly, x) -/
abbrev s30 : Stmt := top 45
def n30 : List Str := ["poly", "x", "total", "one"]
def b30 : CB := (.cons [] (.set 2 (.const (.int (0)))) (.cons [] (.for (.nm 3) (.seq (.rev (.var 0))) (.cons [2, 1, 3] (.set 2 (.call 25 (.cons (.call 26 (.cons (.var 2) (.cons (.var 1) .nil))) (.cons (.var 3) .nil)))) .nil)) (.cons [2] (.ret (.var 2)) .nil)))
def d30 : DefD := ⟨"_law_poly_at", "_law_poly_at", s30, n30, 2, b30⟩
/-- _law_poly_after(one, other) -/
abbrev s31 : Stmt := top 46
def n31 : List Str := ["one", "other", "total", "x"]
def b31 : CB := (.cons [] (.set 2 (.tup .nil)) (.cons [] (.for (.nm 3) (.seq (.rev (.var 0))) (.cons [2, 1, 3] (.set 2 (.call 28 (.cons (.call 29 (.cons (.var 2) (.cons (.var 1) .nil))) (.cons (.call 27 (.cons (.tup (.cons (.var 3) .nil)) .nil)) .nil)))) .nil)) (.cons [2] (.ret (.var 2)) .nil)))
def d31 : DefD := ⟨"_law_poly_after", "_law_poly_after", s31, n31, 2, b31⟩
/-- _law_poly_more(poly, n) -/
abbrev s32 : Stmt := top 47
def n32 : List Str := ["poly", "n", "found", "lap"]
def b32 : CB := (.cons [] (.set 2 (.tup (.cons (.const (.int (0))) (.cons (.const (.int (1))) .nil)))) (.cons [1] (.for (.nm 3) (.rng1 (.var 1)) (.cons [0, 2] (.set 2 (.call 31 (.cons (.var 0) (.cons (.var 2) .nil)))) .nil)) (.cons [2] (.ret (.var 2)) .nil)))
def d32 : DefD := ⟨"_law_poly_more", "_law_poly_more", s32, n32, 2, b32⟩
/-- _law_c_commute(one, other) -/
abbrev s33 : Stmt := top 48
def n33 : List Str := ["one", "other"]
def b33 : CB := (.cons [0, 1, 1, 0] (.ret (.cmp .eq (.call 31 (.cons (.var 0) (.cons (.var 1) .nil))) (.call 31 (.cons (.var 1) (.cons (.var 0) .nil))))) .nil)
def d33 : DefD := ⟨"_law_c_commute", "_law_c_commute", s33, n33, 2, b33⟩
/-- _law_c_small(pen, d) -/
abbrev s34 : Stmt := top 49
def n34 : List Str := ["pen", "d", "at"]
def b34 : CB := (.cons [0, 0] (.ret (.bin .add (.bi .tuple (.lc (.nm 2) [2] (.rng1 (.var 1)) .yes (.bin .sub (.call 18 (.cons (.var 0) (.cons (.const (.int (5))) .nil))) (.const (.int (2)))))) (.tup (.cons (.call 19 (.cons (.var 0) (.cons (.lst (.cons (.const (.int (1))) (.cons (.const (.int (1))) (.cons (.neg (.const (.int (1)))) (.cons (.const (.int (2))) .nil))))) .nil))) .nil)))) .nil)
def d34 : DefD := ⟨"_law_c_small", "_law_c_small", s34, n34, 2, b34⟩
/-- _law_due(one, other) -/
abbrev s35 : Stmt := top 50
def n35 : List Str := ["one", "other", "x"]
def b35 : CB := (.cons [0, 1] (.ifs (.tr (.call 33 (.cons (.var 0) (.cons (.var 1) .nil)))) (.cons [] (.ret (.const .non)) .nil) .nil) (.cons [0, 1, 1, 0] (.ret (.idx (.lc (.nm 2) [2] (.rng1 (.const (.int (60)))) (.tr (.cmp .ne (.call 30 (.cons (.var 0) (.cons (.call 30 (.cons (.var 1) (.cons (.var 2) .nil))) .nil))) (.call 30 (.cons (.var 1) (.cons (.call 30 (.cons (.var 0) (.cons (.var 2) .nil))) .nil))))) (.var 2)) (.const (.int (0))))) .nil))
def d35 : DefD := ⟨"_law_due", "_law_due", s35, n35, 2, b35⟩
/-- law(script) -/
abbrev s36 : Stmt := top 51
def n36 : List Str := ["script", "pen", "lap", "one", "other", "more", "many", "at", "due", "number", "kept"]
def b36 : CB := (.cons [0] (.set 1 (.call 17 (.cons (.var 0) .nil))) (.cons [] (.for (.nm 2) (.rng1 (.const (.int (4)))) (.cons [1, 1] (.set 3 (.call 34 (.cons (.var 1) (.cons (.bin .add (.const (.int (2))) (.call 18 (.cons (.var 1) (.cons (.const (.int (2))) .nil)))) .nil)))) (.cons [1, 3, 1, 1, 3] (.set 4 (.call 19 (.cons (.var 1) (.cons (.lst (.cons (.call 32 (.cons (.var 3) (.cons (.const (.int (2))) .nil))) (.cons (.call 34 (.cons (.var 1) (.cons (.bin .add (.const (.int (2))) (.call 18 (.cons (.var 1) (.cons (.const (.int (2))) .nil)))) .nil))) (.cons (.var 3) .nil)))) .nil)))) (.cons [1] (.ifs (.tr (.cmp .eq (.call 18 (.cons (.var 1) (.cons (.const (.int (3))) .nil))) (.const (.int (0))))) (.cons [1] (.par [5, 6] (.cons (.tup (.cons (.const (.int (0))) (.cons (.const (.int (1))) .nil))) (.cons (.bin .add (.const (.int (1))) (.call 18 (.cons (.var 1) (.cons (.const (.int (2))) .nil)))) .nil))) (.cons [] (.for (.nm 7) (.rng2 (.const (.int (1))) (.bin .add (.var 6) (.const (.int (1))))) (.cons [5] (.set 5 (.call 29 (.cons (.var 5) (.cons (.tup (.cons (.bin .sub (.const (.int (0))) (.var 7)) (.cons (.const (.int (1))) .nil))) .nil)))) .nil)) (.cons [5] (.par [3, 4] (.cons (.tup (.cons (.const (.int (0))) (.cons (.const (.int (0))) (.cons (.const (.int (1))) .nil)))) (.cons (.call 28 (.cons (.tup (.cons (.const (.int (0))) (.cons (.const (.int (0))) (.cons (.const (.int (1))) .nil)))) (.cons (.var 5) .nil))) .nil))) .nil))) .nil) (.cons [3, 4] (.set 8 (.call 35 (.cons (.var 3) (.cons (.var 4) .nil)))) (.cons [] (.for (.nm 9) (.seq (.tup (.cons (.const (.int (0))) (.cons (.const (.int (1))) (.cons (.const (.int (2))) (.cons (.const (.int (3))) (.cons (.const .non) (.cons (.const (.bl true)) (.cons (.const (.bl false)) (.cons (.const (.str "0")) (.cons (.neg (.const (.int (1)))) (.cons (.tup (.cons (.const (.int (0))) .nil)) .nil)))))))))))) (.cons [3, 4, 9, 9, 8] (.ifs (.not (.tr (.call 21 (.cons (.call 16 (.cons (.var 3) (.cons (.var 4) (.cons (.mk 1 (.cons (.var 9) .nil)) .nil)))) (.cons (.andV (.cmp .isnot (.var 8) (.const .non)) (.call 20 (.cons (.var 9) (.cons (.var 8) .nil)))) .nil))))) (.cons [] (.ret (.const (.bl false))) .nil) .nil) .nil)) (.cons [3, 4, 8] (.ifs (.and (.tr (.cmp .isnot (.var 8) (.const .non))) (.tr (.cmp .isnot (.call 16 (.cons (.var 3) (.cons (.var 4) (.cons (.mk 1 (.cons (.var 8) .nil)) .nil)))) (.const (.bl true))))) (.cons [] (.ret (.const (.bl false))) .nil) .nil) (.cons [3, 4] (.ifs (.not (.tr (.call 21 (.cons (.call 16 (.cons (.var 3) (.cons (.var 4) (.cons (.mk 0 .nil) .nil)))) (.cons (.cmp .is (.var 8) (.const .non)) .nil))))) (.cons [] (.ret (.const (.bl false))) .nil) .nil) (.cons [3, 4, 1, 8, 8] (.ifs (.tr (.cmp .isnot (.call 16 (.cons (.var 3) (.cons (.var 4) (.cons (.call 19 (.cons (.var 1) (.cons (.lst (.cons (.const .non) (.cons (.var 8) (.cons (.const (.bl true)) (.cons (.tup (.cons (.var 8) .nil)) .nil))))) .nil))) .nil)))) (.const (.bl false)))) (.cons [] (.ret (.const (.bl false))) .nil) .nil) .nil))))))))) (.cons [] (.set 10 (.mk 1 (.cons (.lst (.cons (.const (.int (1))) (.cons (.lst (.cons (.const (.int (2))) .nil)) .nil))) .nil))) (.cons [] (.ret (.andV (.call 20 (.cons (.attr (.var 10) "number") (.cons (.tup (.cons (.const (.int (1))) (.cons (.tup (.cons (.const (.int (2))) .nil)) .nil))) .nil))) (.andV (.cmp .ne (.mk 1 (.cons (.const (.int (1))) .nil)) (.mk 1 (.cons (.const (.int (1))) .nil))) (.cmp .ne (.mk 0 .nil) (.mk 0 .nil))))) .nil))))
def d36 : DefD := ⟨"law", "law", s36, n36, 1, b36⟩
def L : Lw := ⟨[d0, d1, d2, d3, d4, d5, d6, d7, d8, d9, d10, d11, d12, d13, d14, d15, d16, d17, d18, d19, d20, d21, d22, d23, d24, d25, d26, d27, d28, d29, d30, d31, d32, d33, d34, d35, d36], [(.int (65)), (.int (37)), (.int (400))], [none, some 13], gFns, gGlobs, gClss, gFree, true, gAtrs⟩
theorem ok0 : DefOk L d0 := ⟨by kernel_rfl, ⟨rfl, rfl, rfl, by decide +kernel, rfl, by decide +kernel, by decide +kernel⟩, by decide +kernel⟩
theorem ok1 : DefOk L d1 := ⟨by kernel_rfl, ⟨rfl, rfl, rfl, by decide +kernel, rfl, by decide +kernel, by decide +kernel⟩, by decide +kernel⟩
theorem ok2 : DefOk L d2 := ⟨by kernel_rfl, ⟨rfl, rfl, rfl, by decide +kernel, rfl, by decide +kernel, by decide +kernel⟩, by decide +kernel⟩
theorem ok3 : DefOk L d3 := ⟨by kernel_rfl, ⟨rfl, rfl, rfl, by decide +kernel, rfl, by decide +kernel, by decide +kernel⟩, by decide +kernel⟩
theorem ok4 : DefOk L d4 := ⟨by kernel_rfl, ⟨rfl, rfl, rfl, by decide +kernel, rfl, by decide +kernel, by decide +kernel⟩, by decide +kernel⟩
theorem ok5 : DefOk L d5 := ⟨by kernel_rfl, ⟨rfl, rfl, rfl, by decide +kernel, rfl, by decide +kernel, by decide +kernel⟩, by decide +kernel⟩
theorem ok6 : DefOk L d6 := ⟨by kernel_rfl, ⟨rfl, rfl, rfl, by decide +kernel, rfl, by decide +kernel, by decide +kernel⟩, by decide +kernel⟩
theorem ok7 : DefOk L d7 := ⟨by kernel_rfl, ⟨rfl, rfl, rfl, by decide +kernel, rfl, by decide +kernel, by decide +kernel⟩, by decide +kernel⟩
theorem ok8 : DefOk L d8 := ⟨by kernel_rfl, ⟨rfl, rfl, rfl, by decide +kernel, rfl, by decide +kernel, by decide +kernel⟩, by decide +kernel⟩
theorem ok9 : DefOk L d9 := ⟨by kernel_rfl, ⟨rfl, rfl, rfl, by decide +kernel, rfl, by decide +kernel, by decide +kernel⟩, by decide +kernel⟩
theorem ok10 : DefOk L d10 := ⟨by kernel_rfl, ⟨rfl, rfl, rfl, by decide +kernel, rfl, by decide +kernel, by decide +kernel⟩, by decide +kernel⟩
theorem ok11 : DefOk L d11 := ⟨by kernel_rfl, ⟨rfl, rfl, rfl, by decide +kernel, rfl, by decide +kernel, by decide +kernel⟩, by decide +kernel⟩
theorem ok12 : DefOk L d12 := ⟨by kernel_rfl, ⟨rfl, rfl, rfl, by decide +kernel, rfl, by decide +kernel, by decide +kernel⟩, by decide +kernel⟩
theorem ok13 : DefOk L d13 := ⟨by kernel_rfl, ⟨rfl, rfl, rfl, by decide +kernel, rfl, by decide +kernel, by decide +kernel⟩, by decide +kernel⟩
theorem ok14 : DefOk L d14 := ⟨by kernel_rfl, ⟨rfl, rfl, rfl, by decide +kernel, rfl, by decide +kernel, by decide +kernel⟩, by decide +kernel⟩
theorem ok15 : DefOk L d15 := ⟨by kernel_rfl, ⟨rfl, rfl, rfl, by decide +kernel, rfl, by decide +kernel, by decide +kernel⟩, by decide +kernel⟩
theorem ok16 : DefOk L d16 := ⟨by kernel_rfl, ⟨rfl, rfl, rfl, by decide +kernel, rfl, by decide +kernel, by decide +kernel⟩, by decide +kernel⟩
theorem ok17 : DefOk L d17 := ⟨by kernel_rfl, ⟨rfl, rfl, rfl, by decide +kernel, rfl, by decide +kernel, by decide +kernel⟩, by decide +kernel⟩
theorem ok18 : DefOk L d18 := ⟨by kernel_rfl, ⟨rfl, rfl, rfl, by decide +kernel, rfl, by decide +kernel, by decide +kernel⟩, by decide +kernel⟩
theorem ok19 : DefOk L d19 := ⟨by kernel_rfl, ⟨rfl, rfl, rfl, by decide +kernel, rfl, by decide +kernel, by decide +kernel⟩, by decide +kernel⟩
theorem ok20 : DefOk L d20 := ⟨by kernel_rfl, ⟨rfl, rfl, rfl, by decide +kernel, rfl, by decide +kernel, by decide +kernel⟩, by decide +kernel⟩
theorem ok21 : DefOk L d21 := ⟨by kernel_rfl, ⟨rfl, rfl, rfl, by decide +kernel, rfl, by decide +kernel, by decide +kernel⟩, by decide +kernel⟩
theorem ok22 : DefOk L d22 := ⟨by kernel_rfl, ⟨rfl, rfl, rfl, by decide +kernel, rfl, by decide +kernel, by decide +kernel⟩, by decide +kernel⟩
theorem ok23 : DefOk L d23 := ⟨by kernel_rfl, ⟨rfl, rfl, rfl, by decide +kernel, rfl, by decide +kernel, by decide +kernel⟩, by decide +kernel⟩
theorem ok24 : DefOk L d24 := ⟨by kernel_rfl, ⟨rfl, rfl, rfl, by decide +kernel, rfl, by decide +kernel, by decide +kernel⟩, by decide +kernel⟩
theorem ok25 : DefOk L d25 := ⟨by kernel_rfl, ⟨rfl, rfl, rfl, by decide +kernel, rfl, by decide +kernel, by decide +kernel⟩, by decide +kernel⟩
theorem ok26 : DefOk L d26 := ⟨by kernel_rfl, ⟨rfl, rfl, rfl, by decide +kernel, rfl, by decide +kernel, by decide +kernel⟩, by decide +kernel⟩
theorem ok27 : DefOk L d27 := ⟨by kernel_rfl, ⟨rfl, rfl, rfl, by decide +kernel, rfl, by decide +kernel, by decide +kernel⟩, by decide +kernel⟩
theorem ok28 : DefOk L d28 := ⟨by kernel_rfl, ⟨rfl, rfl, rfl, by decide +kernel, rfl, by decide +kernel, by decide +kernel⟩, by decide +kernel⟩
theorem ok29 : DefOk L d29 := ⟨by kernel_rfl, ⟨rfl, rfl, rfl, by decide +kernel, rfl, by decide +kernel, by decide +kernel⟩, by decide +kernel⟩
theorem ok30 : DefOk L d30 := ⟨by kernel_rfl, ⟨rfl, rfl, rfl, by decide +kernel, rfl, by decide +kernel, by decide +kernel⟩, by decide +kernel⟩
theorem ok31 : DefOk L d31 := ⟨by kernel_rfl, ⟨rfl, rfl, rfl, by decide +kernel, rfl, by decide +kernel, by decide +kernel⟩, by decide +kernel⟩
theorem ok32 : DefOk L d32 := ⟨by kernel_rfl, ⟨rfl, rfl, rfl, by decide +kernel, rfl, by decide +kernel, by decide +kernel⟩, by decide +kernel⟩
theorem ok33 : DefOk L d33 := ⟨by kernel_rfl, ⟨rfl, rfl, rfl, by decide +kernel, rfl, by decide +kernel, by decide +kernel⟩, by decide +kernel⟩
theorem ok34 : DefOk L d34 := ⟨by kernel_rfl, ⟨rfl, rfl, rfl, by decide +kernel, rfl, by decide +kernel, by decide +kernel⟩, by decide +kernel⟩
theorem ok35 : DefOk L d35 := ⟨by kernel_rfl, ⟨rfl, rfl, rfl, by decide +kernel, rfl, by decide +kernel, by decide +kernel⟩, by decide +kernel⟩
theorem ok36 : DefOk L d36 := ⟨by kernel_rfl, ⟨rfl, rfl, rfl, by decide +kernel, rfl, by decide +kernel, by decide +kernel⟩, by decide +kernel⟩
end K53
end

section
set_option maxHeartbeats 0
set_option Elab.async false
set_option linter.all false
set_option maxRecDepth 100000
namespace K53
open PySem L2 Co
noncomputable def C (n : Nat) : Co.Ctx := ⟨callN L.prg n, L.globs, L.inits⟩
/-- a call, by the body's end -/
theorem call_ret {n i : Nat} {d : DefD} {ds : List D} {S S' : Store} {r : D} (hd : L.defs[i]? = some d) (hl : ds.length = d.np) (h : exB (C n) d.body (ds.map Slot.val ++ List.replicate (d.N.length - d.np) Slot.non) S = some (.ret r S')) : callN L.prg (n + 1) i ds S = some (r, S') := by
  have hf : L.prg.fns[i]? = some ⟨d.np, d.N.length, d.body⟩ := by simp [Lw.prg, hd]
  simp only [callN, hf, if_pos hl]
  have h : exB ⟨callN L.prg n, L.prg.globs, L.prg.inits⟩ d.body (ds.map Slot.val ++ List.replicate (d.N.length - d.np) Slot.non) S = some (.ret r S') := h
  rw [h]
theorem call_non {n i : Nat} {d : DefD} {ds : List D} {S S' : Store} {σ : Co.Env} (hd : L.defs[i]? = some d) (hl : ds.length = d.np) (h : exB (C n) d.body (ds.map Slot.val ++ List.replicate (d.N.length - d.np) Slot.non) S = some (.nx σ S')) : callN L.prg (n + 1) i ds S = some (.non, S') := by
  have hf : L.prg.fns[i]? = some ⟨d.np, d.N.length, d.body⟩ := by simp [Lw.prg, hd]
  simp only [callN, hf, if_pos hl]
  have h : exB ⟨callN L.prg n, L.prg.globs, L.prg.inits⟩ d.body (ds.map Slot.val ++ List.replicate (d.N.length - d.np) Slot.non) S = some (.nx σ S') := h
  rw [h]
theorem cC {n i : Nat} {ds : List D} {S : Store} : (C n).call i ds S = callN L.prg n i ds S := rfl
theorem q0 {n : Nat} {S : Store} {v : Int} : callN L.prg (n + 1) 0 [.int v] S = some (.bl true, S) := by
  refine call_ret (d := d0) rfl rfl ?_
  show exB (C n) b0 [.val (.int v)] S = _
  simp [b0, exB, exS, evE, frz, isTys, isTy, Rv.d]
theorem q24 {n : Nat} {S : Store} {v : Int} : callN L.prg (n + 1) 24 [.int v] S = some (.tup [.int v, .int 1], S) := by
  refine call_ret (d := d24) rfl rfl ?_
  show exB (C n) b24 [.val (.int v)] S = _
  simp [b24, exB, exS, evE, evT, evA, frz, isTys, isTy, Rv.d, truR, sizeLine]

@[simp] theorem cC' {n i : Nat} {ds : List D} {S : Store} : (C n).call i ds S = callN L.prg n i ds S := rfl
@[simp] theorem cG {n : Nat} : (C n).globs = L.globs := rfl
@[simp] theorem cI {n : Nat} : (C n).inits = L.inits := rfl
theorem q1 {n : Nat} {S : Store} {v : Int} : callN L.prg (n + 2) 1 [.int v] S = some (.bl true, S) := by
  refine call_ret (d := d1) rfl rfl ?_
  show exB (C (n + 1)) b1 [.val (.int v)] S = _
  simp [b1, exB, exS, evE, evT, evA, frz, isTys, isTy, Rv.d, truR, q0]
theorem q4 {n : Nat} {S : Store} {a b : Int} : callN L.prg (n + 1) 4 [.int a, .int b] S = some (.int (a + b), S) := by
  refine call_ret (d := d4) rfl rfl ?_
  show exB (C n) b4 [.val (.int a), .val (.int b), .non, .non, .non, .non] S = _
  simp [b4, exB, exS, evE, evT, evA, frz, isTys, isTy, Rv.d, truR, binR, binI]
theorem q5 {n : Nat} {S : Store} {a b : Int} (h : IntMulOk a b) : callN L.prg (n + 1) 5 [.int a, .int b] S = some (.int (a * b), S) := by
  refine call_ret (d := d5) rfl rfl ?_
  show exB (C n) b5 [.val (.int a), .val (.int b), .non, .non, .non, .non] S = _
  simp [b5, exB, exS, evE, evT, evA, frz, isTys, isTy, Rv.d, truR, binR, binI, h]
theorem q7 {n : Nat} {S : Store} {ds : List D} : callN L.prg (n + 1) 7 [.tup ds] S = some (.bl true, S) := by
  refine call_ret (d := d7) rfl rfl ?_
  show exB (C n) b7 [.val (.tup ds)] S = _
  simp [b7, exB, exS, evE, evT, evA, frz, isTys, isTy, Rv.d, truR]
theorem q21 {n : Nat} {S : Store} {told due : Bool} : callN L.prg (n + 1) 21 [.bl told, .bl due] S = some (.bl (told == due), S) := by
  refine call_ret (d := d21) rfl rfl ?_
  show exB (C n) b21 [.val (.bl told), .val (.bl due)] S = _
  cases due <;> simp [b21, exB, exS, evE, evT, evA, frz, Rv.d, truR, cmpS, neIns, cmpR, isBl]
/-! ### whD, by its turns -/
theorem whF_succ {t : Co.Env → Store → Option (Bool × Store)} {b : Co.Env → Store → Option Out} : ∀ {n : Nat} {σ : Co.Env} {S : Store} {r : Out}, whF t b n σ S = some r → whF t b (n + 1) σ S = some r
  | 0, _, _, _, h => by simp [whF] at h
  | n + 1, σ, S, r, h => by
    rw [whF] at h ⊢
    cases et : t σ S with
    | none => rw [et] at h; exact h
    | some p =>
      obtain ⟨z, S1⟩ := p
      rw [et] at h
      cases z with
      | false => exact h
      | true =>
        simp only at h ⊢
        cases eb : b σ S1 with
        | none => rw [eb] at h; exact h
        | some o =>
          rw [eb] at h
          cases o with
          | nx σ' S' => exact whF_succ h
          | ct σ' S' => exact whF_succ h
          | brk σ' S' => exact h
          | ret d S' => exact h
theorem whF_le {t : Co.Env → Store → Option (Bool × Store)} {b : Co.Env → Store → Option Out} {n m : Nat} {σ : Co.Env} {S : Store} {r : Out} (h : whF t b n σ S = some r) (hm : n ≤ m) : whF t b m σ S = some r := by
  induction hm with
  | refl => exact h
  | step _ ih => exact whF_succ ih
theorem whD_of {t : Co.Env → Store → Option (Bool × Store)} {b : Co.Env → Store → Option Out} {n : Nat} {σ : Co.Env} {S : Store} {r : Out} (h : whF t b n σ S = some r) : whD t b σ S = some r := by
  have q : ∃ n r, whF t b n σ S = some r := ⟨n, r, h⟩
  unfold whD
  rw [dif_pos q]
  have k := Classical.choose_spec (Classical.choose_spec q)
  have k1 := whF_le k (Nat.le_max_left _ n)
  have k2 := whF_le h (Nat.le_max_right (Classical.choose q) n)
  rw [k1] at k2
  exact k2
theorem q22 {n : Nat} {S : Store} {a : Int} : callN L.prg (n + 1) 22 [.int a, .int 1] S = some (.int 1, S) := by
  refine call_ret (d := d22) rfl rfl ?_
  show exB (C n) b22 [.val (.int a), .val (.int 1)] S = _
  have e : whD (evT (C n) (.tr (.cmp .ne (.var 1) (.const (.int 0))))) (exB (C n) (.cons [1] (.par [0, 1] (.cons (.var 1) (.cons (.bin .mod (.bi .int (.var 0)) (.var 1)) .nil))) .nil)) [.val (.int (if a < 0 then -a else a)), .val (.int 1)] S = some (.nx [.val (.int 1), .val (.int 0)] S) := by
    refine whD_of (n := 2) ?_
    have e1 : eqD (.int 1) (.int 0) = some false := by decide +kernel
    have e0 : eqD (.int 0) (.int 0) = some true := by decide +kernel
    simp [whF, exB, exS, evE, evT, evA, frz, Rv.d, truR, cmpS, neIns, cmpR, Rv.tree, e1, e0, parGo, biR, binR, binI]
  have e' : exS (C n) (.whl (.tr (.cmp .ne (.var 1) (.const (.int 0)))) (.cons [1] (.par [0, 1] (.cons (.var 1) (.cons (.bin .mod (.bi .int (.var 0)) (.var 1)) .nil))) .nil)) [.val (.int (if a < 0 then -a else a)), .val (.int 1)] S = some (.nx [.val (.int 1), .val (.int 0)] S) := e
  have e0 : exS (C n) (.par [0, 1] (.cons (.bi .abs (.var 0)) (.cons (.bi .abs (.var 1)) .nil))) [.val (.int a), .val (.int 1)] S = some (.nx [.val (.int (if a < 0 then -a else a)), .val (.int 1)] S) := by
    simp [exS, evE, evA, Rv.d, biR, parGo]
  simp [b22, exB, frz, e0, e']
  simp [exS, evE, Rv.d]
theorem q23 {n : Nat} {S : Store} {a : Int} : callN L.prg (n + 2) 23 [.int a, .int 1] S = some (.int a, S) := by
  refine call_ret (d := d23) rfl rfl ?_
  show exB (C (n + 1)) b23 [.val (.int a), .val (.int 1), .non] S = _
  have e1 : eqD (.int 1) (.int 1) = some true := by decide +kernel
  have lg : Nat.log2 1 < 9000 := by decide +kernel
  simp [b23, exB, exS, evE, evT, evA, frz, Rv.d, truR, cmpS, neIns, cmpR, Rv.tree, q22, asgR, binR, binI, e1, lg]
theorem mul1 (a : Int) : IntMulOk a 1 := .of_right (by decide +kernel)
theorem q25 {n : Nat} {S : Store} {a b : Int} : callN L.prg (n + 3) 25 [.int a, .int b] S = some (.int (a + b), S) := by
  refine call_ret (d := d25) rfl rfl ?_
  show exB (C (n + 2)) b25 [.val (.int a), .val (.int b), .non, .non] S = _
  simp [b25, exB, exS, evE, evT, evA, frz, Rv.d, q24, parGo, idxR, Rv.seq, atI, ixN, binR, binI, mul1, q23]
theorem q26 {n : Nat} {S : Store} {a b : Int} (h : IntMulOk a b) : callN L.prg (n + 3) 26 [.int a, .int b] S = some (.int (a * b), S) := by
  refine call_ret (d := d26) rfl rfl ?_
  show exB (C (n + 2)) b26 [.val (.int a), .val (.int b), .non, .non] S = _
  simp [b26, exB, exS, evE, evT, evA, frz, Rv.d, q24, parGo, idxR, Rv.seq, atI, ixN, binR, binI, mul1, h, q23]
end K53
end

section
set_option maxHeartbeats 0
set_option Elab.async false
set_option linter.all false
set_option maxRecDepth 100000
namespace K53
open PySem L2 Co
abbrev Ip (p : List Int) : D := .tup (p.map D.int)
def peval (p : List Int) (x : Int) : Int := p.foldr (fun a t => t * x + a) 0
theorem foldl_peval (p : List Int) (x : Int) : p.reverse.foldl (fun t a => t * x + a) 0 = peval p x := by rw [List.foldl_reverse]; rfl
noncomputable abbrev loopF (n : Nat) (p : Pat) (b : CB) : D → Co.Env → Store → Option Out := fun d σ S => match p.asg d σ with | some σ' => exB (C n) b σ' S | none => none
theorem st_nx {c : Co.Ctx} {fz : List Nat} {s : CS} {r : CB} {σ σ1 σ' : Co.Env} {S S' : Store} (hf : frz fz σ = σ1) (h : exS c s σ1 S = some (.nx σ' S')) : exB c (.cons fz s r) σ S = exB c r σ' S' := by simp only [exB, hf, h]
theorem st_ret {c : Co.Ctx} {fz : List Nat} {s : CS} {r : CB} {σ σ1 : Co.Env} {S S' : Store} {d : D} (hf : frz fz σ = σ1) (h : exS c s σ1 S = some (.ret d S')) : exB c (.cons fz s r) σ S = some (.ret d S') := by simp only [exB, hf, h]
theorem ev_call1 {c : Co.Ctx} {i : Nat} {e : CE} {σ : Co.Env} {S S1 S2 : Store} {x : Rv} {d r : D} (h1 : evE c e σ S = some (x, S1)) (hd : x.d = some d) (h2 : c.call i [d] S1 = some (r, S2)) : evE c (.call i (.cons e .nil)) σ S = some (.fz r, S2) := by
  simp only [evE, evA, h1, hd, h2]
theorem ev_call2 {c : Co.Ctx} {i : Nat} {e e' : CE} {σ : Co.Env} {S S1 S2 S3 : Store} {x x' : Rv} {d d' r : D} (h1 : evE c e σ S = some (x, S1)) (hd : x.d = some d) (h2 : evE c e' σ S1 = some (x', S2)) (hd' : x'.d = some d') (h3 : c.call i [d, d'] S2 = some (r, S3)) :
    evE c (.call i (.cons e (.cons e' .nil))) σ S = some (.fz r, S3) := by
  simp only [evE, evA, h1, hd, h2, hd', h3]
theorem ev_call3 {c : Co.Ctx} {i : Nat} {e e' e2 : CE} {σ : Co.Env} {S S1 S2 S3 S4 : Store} {x x' x2 : Rv} {d d' d2 r : D} (h1 : evE c e σ S = some (x, S1)) (hd : x.d = some d) (h2 : evE c e' σ S1 = some (x', S2)) (hd' : x'.d = some d') (h3 : evE c e2 σ S2 = some (x2, S3)) (hd2 : x2.d = some d2) (h4 : c.call i [d, d', d2] S3 = some (r, S4)) :
    evE c (.call i (.cons e (.cons e' (.cons e2 .nil)))) σ S = some (.fz r, S4) := by
  simp only [evE, evA, h1, hd, h2, hd', h3, hd2, h4]
theorem ex_ret {c : Co.Ctx} {e : CE} {σ : Co.Env} {S S1 : Store} {x : Rv} {d : D} (h : evE c e σ S = some (x, S1)) (hd : x.d = some d) : exS c (.ret e) σ S = some (.ret d S1) := by simp only [exS, h, hd]
theorem ex_set {c : Co.Ctx} {i : Nat} {e : CE} {σ σ' : Co.Env} {S S1 : Store} {x : Rv} (h : evE c e σ S = some (x, S1)) (ha : asgR i x σ = some σ') : exS c (.set i e) σ S = some (.nx σ' S1) := by simp only [exS, h, ha]
theorem ev_cmp {c : Co.Ctx} {op : Cop} {a b : CE} {σ : Co.Env} {S S1 S2 : Store} {x y : Rv} {z : Bool} (h1 : evE c a σ S = some (x, S1)) (h2 : evE c b σ S1 = some (y, S2)) (hz : cmpS S2 op x y = some z) : evE c (.cmp op a b) σ S = some (.fz (.bl z), S2) := by simp only [evE, h1, h2, hz]
theorem ev_tr {c : Co.Ctx} {e : CE} {σ : Co.Env} {S S1 : Store} {x : Rv} {z : Bool} (h : evE c e σ S = some (x, S1)) (hz : truR x = some z) : evT c (.tr e) σ S = some (z, S1) := by simp only [evT, h, hz]
theorem ex_ifT {c : Co.Ctx} {t : CT} {a b : CB} {σ : Co.Env} {S S1 : Store} {o : Option Out} (h : evT c t σ S = some (true, S1)) (k : exB c a σ S1 = o) : exS c (.ifs t a b) σ S = o := by simp only [exS, h]; exact k
theorem ex_ifF {c : Co.Ctx} {t : CT} {a b : CB} {σ : Co.Env} {S S1 : Store} {o : Option Out} (h : evT c t σ S = some (false, S1)) (k : exB c b σ S1 = o) : exS c (.ifs t a b) σ S = o := by simp only [exS, h]; exact k
theorem ev_v {c : Co.Ctx} {i : Nat} {σ : Co.Env} {S : Store} {d : D} (h : σ[i]? = some (.val d)) : evE c (.var i) σ S = some (.fz d, S) := by simp only [evE, h]
theorem for_of {n : Nat} {p : Pat} {it : CI} {b : CB} {σ : Co.Env} {S S1 : Store} {ds : List D} {o : Out} (h1 : evI (C n) true it σ S = some (ds, S1)) (h2 : forGo (loopF n p b) ds σ S1 = some o) : exS (C n) (.for p it b) σ S = some o := by
  simp only [exS, h1]; exact h2
/-- the body of a for that changes slots alone -/
theorem for_pure {α : Type} {n : Nat} {p : Pat} {b : CB} {S : Store} {g : α → Co.Env → Prop} {stp : D → α → α} (ok : D → Prop) (h : ∀ d s σ, ok d → g s σ → ∃ σ', loopF n p b d σ S = some (.nx σ' S) ∧ g (stp d s) σ') : ∀ (ds : List D) (s : α) (σ : Co.Env), (∀ d ∈ ds, ok d) → g s σ → ∃ σ', forGo (loopF n p b) ds σ S = some (.nx σ' S) ∧ g (ds.foldl (fun s d => stp d s) s) σ'
  | [], s, σ, _, h0 => ⟨σ, rfl, h0⟩
  | d :: ds, s, σ, hk, h0 => by
    obtain ⟨σ1, e1, g1⟩ := h d s σ (hk d (by simp)) h0
    obtain ⟨σ2, e2, g2⟩ := for_pure ok h ds (stp d s) σ1 (fun d' h' => hk d' (by simp [h'])) g1
    exact ⟨σ2, by simp only [forGo, e1]; exact e2, g2⟩
def dInt : D → Int
  | .int i => i | _ => 0
theorem q30 {n : Nat} {S : Store} {p : List Int} {x : Int} (hx : ∀ t, IntMulOk t x) : callN L.prg (n + 4) 30 [Ip p, .int x] S = some (.int (peval p x), S) := by
  refine call_ret (d := d30) rfl rfl ?_
  show exB (C (n + 3)) b30 [.val (Ip p), .val (.int x), .non, .non] S = _
  obtain ⟨σ', e, o, rfl⟩ := for_pure (n := n + 3) (p := .nm 3) (b := .cons [2, 1, 3] (.set 2 (.call 25 (.cons (.call 26 (.cons (.var 2) (.cons (.var 1) .nil))) (.cons (.var 3) .nil)))) .nil) (S := S)
    (g := fun (t : Int) σ => ∃ o, σ = [.val (Ip p), .val (.int x), .val (.int t), o]) (stp := fun d t => t * x + dInt d) (fun d => ∃ a, d = .int a) (by
      rintro d t σ ⟨a, rfl⟩ ⟨o, rfl⟩
      refine ⟨_, ?_, .val (.int a), rfl⟩
      simp [loopF, Pat.asg, exB, exS, evE, evA, frz, Rv.d, asgR, q26 (hx t), q25, dInt])
    ((p.reverse).map D.int) 0 [.val (Ip p), .val (.int x), .val (.int 0), .non] (by simp) ⟨_, rfl⟩
  have ef : ((p.reverse).map D.int).foldl (fun t d => t * x + dInt d) 0 = peval p x := by rw [List.foldl_map, ← foldl_peval]; rfl
  rw [ef] at e
  have hf : exS (C (n + 3)) (.for (.nm 3) (.seq (.rev (.var 0))) (.cons [2, 1, 3] (.set 2 (.call 25 (.cons (.call 26 (.cons (.var 2) (.cons (.var 1) .nil))) (.cons (.var 3) .nil)))) .nil)) [.val (Ip p), .val (.int x), .val (.int 0), .non] S = _ :=
    for_of (by simp only [evI, evE, List.getElem?_cons_zero, revR, Rv.seqB, Rv.seq]; rw [← List.map_reverse]) e
  exact (st_nx rfl (by simp only [exS, evE, asgR]; rfl)).trans ((st_nx rfl hf).trans (st_ret rfl (by simp [exS, evE, Rv.d, frz])))
theorem q11 {n : Nat} {S : Store} {p : List Int} {x : Int} (hx : ∀ t, IntMulOk t x) : callN L.prg (n + 2) 11 [Ip p, .int x] S = some (.int (peval p x), S) := by
  refine call_ret (d := d11) rfl rfl ?_
  show exB (C (n + 1)) b11 [.val (Ip p), .val (.int x), .non, .non] S = _
  obtain ⟨σ', e, o, rfl⟩ := for_pure (n := n + 1) (p := .nm 3) (b := .cons [2, 1, 3] (.set 2 (.call 4 (.cons (.call 5 (.cons (.var 2) (.cons (.var 1) .nil))) (.cons (.var 3) .nil)))) .nil) (S := S)
    (g := fun (t : Int) σ => ∃ o, σ = [.val (Ip p), .val (.int x), .val (.int t), o]) (stp := fun d t => t * x + dInt d) (fun d => ∃ a, d = .int a) (by
      rintro d t σ ⟨a, rfl⟩ ⟨o, rfl⟩
      refine ⟨_, ?_, .val (.int a), rfl⟩
      simp [loopF, Pat.asg, exB, exS, evE, evA, frz, Rv.d, asgR, q5 (hx t), q4, dInt])
    ((p.reverse).map D.int) 0 [.val (Ip p), .val (.int x), .val (.int 0), .non] (by simp) ⟨_, rfl⟩
  have ef : ((p.reverse).map D.int).foldl (fun t d => t * x + dInt d) 0 = peval p x := by rw [List.foldl_map, ← foldl_peval]; rfl
  rw [ef] at e
  have hf : exS (C (n + 1)) (.for (.nm 3) (.seq (.rev (.var 0))) (.cons [2, 1, 3] (.set 2 (.call 4 (.cons (.call 5 (.cons (.var 2) (.cons (.var 1) .nil))) (.cons (.var 3) .nil)))) .nil)) [.val (Ip p), .val (.int x), .val (.int 0), .non] S = _ :=
    for_of (by simp only [evI, evE, List.getElem?_cons_zero, revR, Rv.seqB, Rv.seq]; rw [← List.map_reverse]) e
  exact (st_nx rfl (by simp only [exS, evE, asgR]; rfl)).trans ((st_nx rfl hf).trans (st_ret rfl (by simp [exS, evE, Rv.d, frz])))

/-! ### tidy -/
def tzS (p : List Int) : Nat → Nat
  | 0 => 0
  | m + 1 => if p[m]? = some 0 then m else m + 1
def tzc (p : List Int) : Nat → Nat
  | 0 => 0
  | m + 1 => if p[m]? = some 0 then tzc p m else m + 1
def tidyP (p : List Int) : List Int := p.take (tzc p p.length)
def tzI (p : List Int) : Nat → Nat → Nat
  | 0, m => m
  | k + 1, m => tzI p k (tzS p m)
theorem tzI_fold {α : Type} (p : List Int) : ∀ (ds : List α) (m : Nat), ds.foldl (fun s _ => tzS p s) m = tzI p ds.length m
  | [], m => rfl
  | _ :: ds, m => tzI_fold p ds _
theorem tz_fix {p : List Int} {m : Nat} (h : tzS p m = m) : ∀ k, tzI p k m = m
  | 0 => rfl
  | k + 1 => by show tzI p k (tzS p m) = m; rw [h]; exact tz_fix h k
theorem tzI_eq {p : List Int} : ∀ (k m : Nat), m ≤ k → tzI p k m = tzc p m
  | 0, m, h => by have e : m = 0 := by omega
                  subst e; rfl
  | k + 1, 0, h => tz_fix rfl (k + 1)
  | k + 1, m + 1, h => by
    show tzI p k (tzS p (m + 1)) = _
    by_cases e : p[m]? = some 0
    · have e1 : tzS p (m + 1) = m := by simp [tzS, e]
      have e2 : tzc p (m + 1) = tzc p m := by simp [tzc, e]
      rw [e1, e2]
      exact tzI_eq k m (by omega)
    · have e1 : tzS p (m + 1) = m + 1 := by simp [tzS, e]
      have e2 : tzc p (m + 1) = m + 1 := by simp [tzc, e]
      rw [e1, e2]
      exact tz_fix e1 k
theorem tzS_le {p : List Int} {m : Nat} : tzS p m ≤ m := by
  cases m with
  | zero => exact Nat.le_refl _
  | succ m => show (if p[m]? = some 0 then m else m + 1) ≤ m + 1; split <;> omega
theorem eqI (a b : Int) : eqD (.int a) (.int b) = some (decide (a = b)) := by
  unfold eqD
  simp only [D.py]
  have h1 : ∀ z : Int, SeqAt.shaped (.int z) = true := fun z => rfl
  rw [if_pos ⟨h1 a, h1 b⟩]
  show some (PyData.eqv (.int a) (.int b)) = _
  rfl
theorem getI_map {p : List Int} {m : Nat} (h : m < p.length) : atI (p.map D.int) (m : Int) = some (.int p[m]) := by
  unfold atI
  have e : ixN (p.map D.int).length (m : Int) = some m := by
    unfold ixN
    rw [List.length_map]
    simp [h]
  rw [e]
  simp [h]
theorem q27 {n : Nat} {S : Store} {p : List Int} {row : D} (hr : row = Ip p ∨ row = .lst (p.map D.int)) (hz : p.length ≤ 1000) : callN L.prg (n + 1) 27 [row] S = some (Ip (tidyP p), S) := by
  have hlen : ∀ S, biR .len S (.fz row) = some (.fz (.int p.length)) := fun S => by rcases hr with rfl | rfl <;> simp [biR, Rv.seq]
  have hidx : ∀ S (m : Nat), m < p.length → idxR S (.fz row) (.fz (.int (m : Int))) = some (.int (p[m]?.getD 0)) := fun S m hm => by
    rcases hr with rfl | rfl <;> simp only [idxR, Rv.seq] <;> rw [getI_map hm] <;> simp [hm]
  refine call_ret (d := d27) rfl rfl ?_
  show exB (C n) b27 [.val row, .non, .non] S = _
  obtain ⟨σ', e, o, rfl, _⟩ := for_pure (n := n) (p := .nm 2) (b := .cons [] (.ifs (.and (.tr (.cmp .gt (.var 1) (.const (.int (0))))) (.tr (.cmp .eq (.idx (.var 0) (.bin .sub (.var 1) (.const (.int (1))))) (.const (.int (0)))))) (.cons [] (.set 1 (.bin .sub (.var 1) (.const (.int (1))))) .nil) .nil) .nil) (S := S)
    (g := fun (m : Nat) σ => ∃ o, σ = [.val row, .val (.int m), o] ∧ m ≤ p.length) (stp := fun _ m => tzS p m) (fun _ => True) (by
      rintro d m σ - ⟨o, rfl, hm⟩
      refine ⟨_, ?_, .val d, rfl, Nat.le_trans tzS_le hm⟩
      cases m with
      | zero => simp [loopF, Pat.asg, exB, exS, evE, evT, frz, truR, cmpS, neIns, cmpR, tzS]
      | succ m =>
        have e1 : ((m + 1 : Nat) : Int) - 1 = (m : Int) := by omega
        have hm' : m < p.length := by omega
        have e2 : (0 : Int) < ((m + 1 : Nat) : Int) := by omega
        have e2' : (0 : Int) < (m : Int) + 1 := by omega
        have e3 := hidx S m hm'
        have e4 : (m : Int) + 1 - 1 = (m : Int) := by omega
        by_cases q : p[m] = 0
        · have qq : p[m]? = some 0 := by simp [hm', q]
          simp [loopF, Pat.asg, exB, exS, evE, evT, frz, truR, cmpS, neIns, cmpR, tzS, e2', binR, binI, e4, e3, Rv.tree, eqI, qq, asgR]
        · have qq : ¬ p[m]? = some 0 := by simp [hm', q]
          simp [loopF, Pat.asg, exB, exS, evE, evT, frz, truR, cmpS, neIns, cmpR, tzS, e2', binR, binI, e4, e3, Rv.tree, eqI, hm', q, qq, asgR])
    ((List.range p.length).map fun k : Nat => D.int (k : Int)) p.length [.val row, .val (.int p.length), .non] (by simp) ⟨_, rfl, Nat.le_refl _⟩
  rw [tzI_fold, List.length_map, List.length_range, tzI_eq _ _ (Nat.le_refl _)] at e
  have hf := for_of (n := n) (it := .rng1 (.bi .len (.var 0))) (σ := [.val row, .val (.int p.length), .non]) (S := S) (by
    simp only [evI, evE, List.getElem?_cons_zero, hlen]
    rw [if_pos (by omega)]
    simp) e
  have ht : tzc p p.length ≤ p.length := by
    have : ∀ m, tzc p m ≤ m := by
      intro m
      induction m with
      | zero => exact Nat.le_refl _
      | succ m ih => unfold tzc; split <;> omega
    exact this _
  refine (st_nx rfl (by simp [exS, evE, hlen, asgR, frz])).trans ((st_nx rfl hf).trans (st_ret rfl ?_))
  have cut : cutD (p.map D.int) none (some ((tzc p p.length : Nat) : Int)) = (tidyP p).map D.int := by
    unfold cutD tidyP
    rw [HT.sIx_none, HT.sIx_nat, List.drop_zero, List.length_map, List.map_take, Nat.sub_zero, Nat.min_eq_left ht]
  rcases hr with rfl | rfl <;> simp [exS, evE, Rv.d, frz, slR, Rv.lseq, cut, biR, Rv.seq]

/-! ### sums -/
theorem lc_pure {f : D → Store → Option (Option D × Store)} {S : Store} {gg : D → D} : ∀ (ds acc : List D), (∀ d ∈ ds, f d S = some (some (gg d), S)) → acc.length + ds.length ≤ sizeLine → lcGo f ds acc S = some (acc ++ ds.map gg, S)
  | [], acc, _, _ => by simp [lcGo]
  | d :: ds, acc, h, hz => by
    have hz' : acc.length < sizeLine := by have : (d :: ds).length = ds.length + 1 := rfl; omega
    rw [lcGo, h d (by simp)]
    simp only [if_pos hz']
    rw [lc_pure ds _ (fun d' h' => h d' (by simp [h'])) (by simp; simp at hz; omega)]
    simp
def padP (p : List Int) (m : Nat) : List Int := p ++ List.replicate (m - p.length) 0
def sumP (p q : List Int) : List Int := List.zipWith (· + ·) (padP p (max p.length q.length)) (padP q (max p.length q.length))
theorem sz100 {k : Nat} (h : k ≤ 1000) : k ≤ sizeLine := Nat.le_trans h (by decide)
theorem pad_ev {n : Nat} {S : Store} {σ : Co.Env} {p : List Int} {i m : Nat} (h0 : σ[i]? = some (.val (Ip p))) (h2 : σ[2]? = some (.val (.int (m : Int)))) (hp : p.length ≤ m) (hm : m ≤ 500) :
    evE (C n) (.bin .add (.bi .tuple (.var i)) (.bin .mul (.tup (.cons (.const (.int (0))) .nil)) (.bin .sub (.var 2) (.bi .len (.var i))))) σ S = some (.fz (Ip (padP p m)), S) := by
  have e1 : (m : Int) - ((p.map D.int).length : Int) = ((m - p.length : Nat) : Int) := by rw [List.length_map]; omega
  have e2 : (List.replicate (m - p.length) [D.int 0]).flatten = (List.replicate (m - p.length) (0 : Int)).map D.int := by
    generalize m - p.length = k
    induction k with
    | zero => rfl
    | succ k ih => rw [List.replicate_succ, List.flatten_cons, ih, List.replicate_succ, List.map_cons]; rfl
  have c1 : (-(2 ^ 63) ≤ ((m - p.length : Nat) : Int) ∧ ((m - p.length : Nat) : Int) ≤ 1000) ∧ ([D.int 0] : List D).length ≤ 1000 := ⟨⟨by omega, by omega⟩, by decide⟩
  have c2 : (p.map D.int).length + ((List.replicate (m - p.length) (0 : Int)).map D.int).length ≤ sizeLine := sz100 (by simp; omega)
  have z1 : ([D.int 0] : List D).length ≤ sizeLine := sz100 (by decide)
  simp only [evE, h0, h2, biR, Rv.seq, evA, Rv.d, if_pos z1, binR, binI, Option.map_some, e1, if_pos c1, Int.toNat_natCast, e2, if_pos c2]
  simp [padP]
theorem q28 {n : Nat} {S : Store} {p q : List Int} (hp : p.length ≤ 200) (hq : q.length ≤ 200) : callN L.prg (n + 4) 28 [Ip p, Ip q] S = some (Ip (tidyP (sumP p q)), S) := by
  refine call_ret (d := d28) rfl rfl ?_
  show exB (C (n + 3)) b28 [.val (Ip p), .val (Ip q), .non, .non, .non] S = _
  have hm : max p.length q.length ≤ 500 := by omega
  have e0 : exS (C (n + 3)) (.set 2 (.bi2 .max (.bi .len (.var 0)) (.bi .len (.var 1)))) [.val (Ip p), .val (Ip q), .non, .non, .non] S = some (.nx [.val (Ip p), .val (Ip q), .val (.int ((max p.length q.length : Nat) : Int)), .non, .non] S) := by
    have : (if (q.length : Int) > (p.length : Int) then (q.length : Int) else (p.length : Int)) = ((max p.length q.length : Nat) : Int) := by split <;> omega
    have this' : (if p.length < q.length then (q.length : Int) else (p.length : Int)) = ((max p.length q.length : Nat) : Int) := by split <;> omega
    simp [exS, evE, biR, Rv.seq, bi2R, asgR, this']
  refine (st_nx rfl e0).trans (st_ret rfl ?_)
  have ez : evI (C (n + 3)) false (.zip (.bin .add (.bi .tuple (.var 0)) (.bin .mul (.tup (.cons (.const (.int (0))) .nil)) (.bin .sub (.var 2) (.bi .len (.var 0))))) (.bin .add (.bi .tuple (.var 1)) (.bin .mul (.tup (.cons (.const (.int (0))) .nil)) (.bin .sub (.var 2) (.bi .len (.var 1))))))
      [.val (Ip p), .val (Ip q), .val (.int ((max p.length q.length : Nat) : Int)), .non, .non] S = some (List.zipWith (fun u v => D.tup [u, v]) ((padP p (max p.length q.length)).map D.int) ((padP q (max p.length q.length)).map D.int), S) := by
    have l1 : ((padP p (max p.length q.length)).map D.int).length = ((padP q (max p.length q.length)).map D.int).length := by simp [padP]; omega
    simp only [evI]
    rw [pad_ev (m := max p.length q.length) rfl rfl (by omega) hm]
    simp only
    rw [pad_ev (m := max p.length q.length) rfl rfl (by omega) hm]
    simp only [Rv.seqB, Rv.seq, Rv.isT]
    rw [if_pos ⟨l1, trivial⟩]
  have el : evE (C (n + 3)) (.lc (.tcons (.nm 3) (.tcons (.nm 4) .tnil)) [3, 4] (.zip (.bin .add (.bi .tuple (.var 0)) (.bin .mul (.tup (.cons (.const (.int (0))) .nil)) (.bin .sub (.var 2) (.bi .len (.var 0))))) (.bin .add (.bi .tuple (.var 1)) (.bin .mul (.tup (.cons (.const (.int (0))) .nil)) (.bin .sub (.var 2) (.bi .len (.var 1)))))) .yes (.call 25 (.cons (.var 3) (.cons (.var 4) .nil))))
      [.val (Ip p), .val (Ip q), .val (.int ((max p.length q.length : Nat) : Int)), .non, .non] S = some (.fr ((sumP p q).map D.int), S) := by
    simp only [evE, ez]
    rw [lc_pure (gg := fun d => match d with | .tup [.int a, .int b] => .int (a + b) | _ => .non)]
    · simp only [List.nil_append, sumP, List.map_zipWith, List.zipWith_map]
    · intro d hd
      obtain ⟨a, b, rfl⟩ : ∃ a b, d = .tup [.int a, .int b] := by
        rw [List.zipWith_map] at hd
        obtain ⟨i, hi, rfl⟩ := List.getElem_of_mem hd
        simp
      simp [Pat.asg, wipeE, evT, evE, evA, Rv.d, q25]
    · simp [padP]
      exact sz100 (by omega)
  have hl : (sumP p q).length ≤ 400 := by simp only [sumP, padP, List.length_zipWith, List.length_append, List.length_replicate]; omega
  have h40 : (sumP p q).length ≤ 1000 := by omega
  have h27 : (C (n + 3)).call 27 [.lst ((sumP p q).map D.int)] S = some (Ip (tidyP (sumP p q)), S) := by rw [cC]; exact q27 (n := n + 2) (p := sumP p q) (.inr rfl) h40
  exact ex_ret (ev_call1 el (d := .lst ((sumP p q).map D.int)) rfl h27) rfl
end K53
end

section
set_option maxHeartbeats 0
set_option Elab.async false
set_option linter.all false
set_option maxRecDepth 100000
namespace K53
open PySem L2 Co
/-! ### products -/
def addAt (f : List Int) (j : Nat) (v : Int) : List Int := f.set j ((f[j]?).getD 0 + v)
def rowP (i : Nat) (x : Int) : List Int → Nat → List Int → List Int
  | [], _, f => f
  | y :: ys, k, f => rowP i x ys (k + 1) (addAt f (i + k) (x * y))
def mulP : List Int → Nat → List Int → List Int → List Int
  | [], _, _, f => f
  | x :: xs, i, q, f => mulP xs (i + 1) q (rowP i x q 0 f)
theorem addAt_len (f : List Int) (j : Nat) (v : Int) : (addAt f j v).length = f.length := by simp [addAt]
theorem rowP_len {i : Nat} {x : Int} : ∀ (ys : List Int) (k : Nat) (f : List Int), (rowP i x ys k f).length = f.length
  | [], _, _ => rfl
  | y :: ys, k, f => by show (rowP i x ys (k + 1) _).length = _; rw [rowP_len, addAt_len]
theorem mulP_len : ∀ (xs : List Int) (i : Nat) (q f : List Int), (mulP xs i q f).length = f.length
  | [], _, _, _ => rfl
  | x :: xs, i, q, f => by show (mulP xs (i + 1) q _).length = _; rw [mulP_len, rowP_len]
def timesP (p q : List Int) : List Int := tidyP (mulP p 0 q (List.replicate (p.length + q.length) 0))
def enumD : Nat → List D → List D
  | _, [] => []
  | k, d :: ds => .tup [.int (k : Int), d] :: enumD (k + 1) ds
theorem enumD_eq : ∀ (ds : List D) (j : Nat), (ds.mapIdx fun (k : Nat) d => D.tup [.int ((k + j : Nat) : Int), d]) = enumD j ds
  | [], _ => rfl
  | d :: ds, j => by
    rw [List.mapIdx_cons]
    show _ :: _ = _ :: _
    congr 1
    · simp
    · rw [← enumD_eq ds (j + 1)]
      congr 1
      funext k d
      rw [show k + 1 + j = k + (j + 1) by omega]
theorem atI_nat {f : List Int} {j : Nat} (h : j < f.length) : atI (f.map D.int) (j : Int) = some (.int ((f[j]?).getD 0)) := by rw [getI_map h]; simp [h]
theorem ixN_nat {f : List Int} {j : Nat} (h : j < f.length) : ixN (f.map D.int).length (j : Int) = some j := by
  unfold ixN
  rw [List.length_map]
  simp [h]
abbrev inB : CB := .cons [4, 6] (.put 2 (.bin .add (.var 3) (.var 5)) (.call 25 (.cons (.idx (.var 2) (.bin .add (.var 3) (.var 5))) (.cons (.call 26 (.cons (.var 4) (.cons (.var 6) .nil))) .nil)))) .nil
abbrev inP : Pat := .tcons (.nm 5) (.tcons (.nm 6) .tnil)
theorem put_step {n i k : Nat} {S : Store} {f : List Int} {p q : List Int} {x y : Int} (h : i + k < f.length) (hm : IntMulOk x y) :
    exB (C (n + 3)) inB [.val (Ip p), .val (Ip q), .own (f.map D.int), .val (.int (i : Int)), .val (.int x), .val (.int (k : Int)), .val (.int y)] S = some (.nx [.val (Ip p), .val (Ip q), .own ((addAt f (i + k) (x * y)).map D.int), .val (.int (i : Int)), .val (.int x), .val (.int (k : Int)), .val (.int y)] S) := by
  have e0 : (i : Int) + (k : Int) = ((i + k : Nat) : Int) := by omega
  have e1 := atI_nat h
  have e2 := ixN_nat h
  have e3 : callN L.prg (n + 3) 25 [.int ((f[i + k]?).getD 0), .int (x * y)] S = some (.int ((f[i + k]?).getD 0 + x * y), S) := q25
  simp only [exB, frz, exS, evE, evA, List.getElem?_cons_zero, List.getElem?_cons_succ, binR, binI, Option.map_some, e0, idxR, Rv.seq, e1, Rv.d, cC', q26 hm, e3, e2]
  simp [addAt, List.map_set]
theorem row_loop {n i : Nat} {S : Store} {p q : List Int} {x : Int} : ∀ (ys : List Int) (k : Nat) (f : List Int) (o5 o6 : Co.Slot), (∀ y ∈ ys, IntMulOk x y) → i + k + ys.length ≤ f.length →
    ∃ o5' o6', forGo (loopF (n + 3) inP inB) (enumD k (ys.map D.int)) [.val (Ip p), .val (Ip q), .own (f.map D.int), .val (.int (i : Int)), .val (.int x), o5, o6] S = some (.nx [.val (Ip p), .val (Ip q), .own ((rowP i x ys k f).map D.int), .val (.int (i : Int)), .val (.int x), o5', o6'] S)
  | [], k, f, o5, o6, _, _ => ⟨o5, o6, rfl⟩
  | y :: ys, k, f, o5, o6, hm, hl => by
    have hl' : i + k + (ys.length + 1) ≤ f.length := hl
    obtain ⟨a, b, e⟩ := row_loop (n := n) (i := i) (S := S) (p := p) (q := q) (x := x) ys (k + 1) (addAt f (i + k) (x * y)) (.val (.int (k : Int))) (.val (.int y)) (fun y' h' => hm y' (by simp [h'])) (by rw [addAt_len]; omega)
    refine ⟨a, b, ?_⟩
    have st := put_step (n := n) (S := S) (p := p) (q := q) (f := f) (i := i) (k := k) (by omega) (hm y (by simp))
    show forGo (loopF (n + 3) inP inB) (.tup [.int (k : Int), .int y] :: enumD (k + 1) (ys.map D.int)) _ S = _
    have e0 : inP.asg (.tup [.int (k : Int), .int y]) [.val (Ip p), .val (Ip q), .own (f.map D.int), .val (.int (i : Int)), .val (.int x), o5, o6] = some [.val (Ip p), .val (Ip q), .own (f.map D.int), .val (.int (i : Int)), .val (.int x), .val (.int (k : Int)), .val (.int y)] := rfl
    simp only [forGo, loopF, e0, st]
    exact e
abbrev outB : CB := .cons [1] (.for inP (.enum (.var 1)) inB) .nil
abbrev outP : Pat := .tcons (.nm 3) (.tcons (.nm 4) .tnil)
theorem out_loop {n : Nat} {S : Store} {p q : List Int} : ∀ (xs : List Int) (i : Nat) (f : List Int) (o3 o4 o5 o6 : Co.Slot), (∀ x, ∀ y ∈ q, IntMulOk x y) → i + xs.length + q.length ≤ f.length →
    ∃ o3' o4' o5' o6', forGo (loopF (n + 3) outP outB) (enumD i (xs.map D.int)) [.val (Ip p), .val (Ip q), .own (f.map D.int), o3, o4, o5, o6] S = some (.nx [.val (Ip p), .val (Ip q), .own ((mulP xs i q f).map D.int), o3', o4', o5', o6'] S)
  | [], i, f, o3, o4, o5, o6, _, _ => ⟨o3, o4, o5, o6, rfl⟩
  | x :: xs, i, f, o3, o4, o5, o6, hm, hl => by
    have hl' : i + (xs.length + 1) + q.length ≤ f.length := hl
    obtain ⟨a, b, e⟩ := row_loop (n := n) (S := S) (p := p) (q := q) (i := i) (x := x) q 0 f o5 o6 (hm x) (by omega)
    obtain ⟨a3, a4, a5, a6, e2⟩ := out_loop (n := n) (S := S) (p := p) (q := q) xs (i + 1) (rowP i x q 0 f) (.val (.int (i : Int))) (.val (.int x)) a b hm (by rw [rowP_len]; omega)
    refine ⟨a3, a4, a5, a6, ?_⟩
    show forGo (loopF (n + 3) outP outB) (.tup [.int (i : Int), .int x] :: enumD (i + 1) (xs.map D.int)) _ S = _
    have e0 : outP.asg (.tup [.int (i : Int), .int x]) [.val (Ip p), .val (Ip q), .own (f.map D.int), o3, o4, o5, o6] = some [.val (Ip p), .val (Ip q), .own (f.map D.int), .val (.int (i : Int)), .val (.int x), o5, o6] := rfl
    have ei : evI (C (n + 3)) true (.enum (.var 1)) [.val (Ip p), .val (Ip q), .own (f.map D.int), .val (.int (i : Int)), .val (.int x), o5, o6] S = some (enumD 0 (q.map D.int), S) := by
      simp only [evI, evE, List.getElem?_cons_zero, List.getElem?_cons_succ, Rv.seqB, Rv.seq]
      rw [← enumD_eq]
      rfl
    have eb : exB (C (n + 3)) outB [.val (Ip p), .val (Ip q), .own (f.map D.int), .val (.int (i : Int)), .val (.int x), o5, o6] S = some (.nx [.val (Ip p), .val (Ip q), .own ((rowP i x q 0 f).map D.int), .val (.int (i : Int)), .val (.int x), a, b] S) :=
      (st_nx rfl (for_of ei e)).trans rfl
    simp only [forGo, loopF, e0, eb]
    exact e2
theorem rep_flat (k : Nat) : (List.replicate k [D.int 0]).flatten = (List.replicate k (0 : Int)).map D.int := by
  induction k with
  | zero => rfl
  | succ k ih => rw [List.replicate_succ, List.flatten_cons, ih, List.replicate_succ, List.map_cons]; rfl
theorem rep_ev {k : Nat} (hk : k ≤ 500) : binR .mul (.fr [D.int 0]) (.fz (.int (k : Int))) = some (.fr ((List.replicate k (0 : Int)).map D.int)) := by
  have c1 : -(2 ^ 63) ≤ (k : Int) ∧ (k : Int) < 2 ^ 63 ∧ ([D.int 0] : List D).length * ((k : Int)).toNat ≤ sizeLine := ⟨by omega, by omega, sz100 (by simp; omega)⟩
  simp only [binR, Rv.tseq]
  rw [if_pos c1, Int.toNat_natCast, rep_flat]
theorem eb {n : Nat} {S : Store} {p q : List Int} : evE (C (n + 3)) (.bin .add (.bi .len (.var 0)) (.bi .len (.var 1))) [.val (Ip p), .val (Ip q), .non, .non, .non, .non, .non] S = some (.fz (.int ((p.length + q.length : Nat) : Int)), S) := by
    have e1 : ((p.map D.int).length : Int) + ((q.map D.int).length : Int) = ((p.length + q.length : Nat) : Int) := by simp
    simp only [evE, List.getElem?_cons_zero, List.getElem?_cons_succ, biR, Rv.seq, binR, binI, Option.map_some, e1]
theorem ev_bin {c : Co.Ctx} {op : Bop} {a b : CE} {σ : Co.Env} {S S1 S2 : Store} {x y z : Rv} (h1 : evE c a σ S = some (x, S1)) (h2 : evE c b σ S1 = some (y, S2)) (hz : binR op x y = some z) : evE c (.bin op a b) σ S = some (z, S2) := by simp only [evE, h1, h2, hz]
theorem tb {n : Nat} {S : Store} {p q : List Int} : evE (C (n + 3)) (.lst (.cons (.const (.int (0))) .nil)) [.val (Ip p), .val (Ip q), .non, .non, .non, .non, .non] S = some (.fr [D.int 0], S) := by
  have z1 : ([D.int 0] : List D).length ≤ sizeLine := sz100 (by decide)
  simp only [evE, evA, Rv.d]; rw [if_pos z1]
theorem q29a {n : Nat} {S : Store} {p q : List Int} (hz : p.length + q.length ≤ 200) : exS (C (n + 3)) (.set 2 (.bin .mul (.lst (.cons (.const (.int (0))) .nil)) (.bin .add (.bi .len (.var 0)) (.bi .len (.var 1))))) [.val (Ip p), .val (Ip q), .non, .non, .non, .non, .non] S =
      some (.nx [.val (Ip p), .val (Ip q), .own ((List.replicate (p.length + q.length) (0 : Int)).map D.int), .non, .non, .non, .non] S) :=
  ex_set (ev_bin tb eb (rep_ev (Nat.le_trans hz (by decide)))) rfl
theorem q29 {n : Nat} {S : Store} {p q : List Int} (hm : ∀ x, ∀ y ∈ q, IntMulOk x y) (hz : p.length + q.length ≤ 200) : callN L.prg (n + 4) 29 [Ip p, Ip q] S = some (Ip (timesP p q), S) := by
  refine call_ret (d := d29) rfl rfl ?_
  obtain ⟨a3, a4, a5, a6, e⟩ := out_loop (n := n) (S := S) (p := p) (q := q) p 0 (List.replicate (p.length + q.length) 0) .non .non .non .non hm (by simp)
  have ei : evI (C (n + 3)) true (.enum (.var 0)) [.val (Ip p), .val (Ip q), .own ((List.replicate (p.length + q.length) (0 : Int)).map D.int), .non, .non, .non, .non] S = some (enumD 0 (p.map D.int), S) := by
    simp only [evI, evE, List.getElem?_cons_zero, List.getElem?_cons_succ, Rv.seqB, Rv.seq]
    rw [← enumD_eq]
    rfl
  have hf := for_of ei e
  have hl : (mulP p 0 q (List.replicate (p.length + q.length) 0)).length ≤ 1000 := by rw [mulP_len, List.length_replicate]; omega
  have h27 : (C (n + 3)).call 27 [.lst ((mulP p 0 q (List.replicate (p.length + q.length) 0)).map D.int)] S = some (Ip (timesP p q), S) := by
    rw [cC]; exact q27 (n := n + 2) (.inr rfl) hl
  generalize mulP p 0 q (List.replicate (p.length + q.length) 0) = w at hf h27
  have hr : exS (C (n + 3)) (.ret (.call 27 (.cons (.var 2) .nil))) [.val (Ip p), .val (Ip q), .val (.lst (w.map D.int)), a3, a4, a5, a6] S = some (.ret (Ip (timesP p q)) S) :=
    ex_ret (x := .fz (Ip (timesP p q))) (ev_call1 (ev_v rfl) (d := .lst (w.map D.int)) rfl h27) rfl
  have t3 := st_ret (r := .nil) (fz := [2]) (σ := [.val (Ip p), .val (Ip q), .own (w.map D.int), a3, a4, a5, a6]) rfl hr
  have t2 := (st_nx (r := .cons [2] (.ret (.call 27 (.cons (.var 2) .nil))) .nil) (fz := [0]) (σ := [.val (Ip p), .val (Ip q), .own ((List.replicate (p.length + q.length) (0 : Int)).map D.int), .non, .non, .non, .non]) rfl hf).trans t3
  have t1 := (st_nx (r := .cons [0] (.for outP (.enum (.var 0)) outB) (.cons [2] (.ret (.call 27 (.cons (.var 2) .nil))) .nil)) (fz := []) (σ := [.val (Ip p), .val (Ip q), .non, .non, .non, .non, .non]) rfl (q29a hz)).trans t2
  exact t1

/-! ### one of other -/
def stepP (other total : List Int) (x : Int) : List Int := tidyP (sumP (timesP total other) (tidyP [x]))
def afterP (one other : List Int) : List Int := one.reverse.foldl (stepP other) []
theorem tidy_len {p : List Int} : (tidyP p).length ≤ p.length := by unfold tidyP; rw [List.length_take]; omega
theorem times_len {p q : List Int} : (timesP p q).length ≤ p.length + q.length := by
  refine Nat.le_trans tidy_len ?_
  rw [mulP_len]; simp
theorem sum_len {p q : List Int} : (sumP p q).length = max p.length q.length := by
  simp only [sumP, padP, List.length_zipWith, List.length_append, List.length_replicate]; omega
theorem step_len {o t : List Int} {x : Int} : (stepP o t x).length ≤ t.length + o.length + 1 := by
  refine Nat.le_trans tidy_len ?_
  rw [sum_len]
  have h1 := times_len (p := t) (q := o)
  have h2 := tidy_len (p := [x])
  simp at h2
  omega
abbrev aftB : CB := .cons [2, 1, 3] (.set 2 (.call 28 (.cons (.call 29 (.cons (.var 2) (.cons (.var 1) .nil))) (.cons (.call 27 (.cons (.tup (.cons (.var 3) .nil)) .nil)) .nil)))) .nil
theorem ev_tup1 {c : Co.Ctx} {i : Nat} {σ : Co.Env} {S : Store} {d : D} (h : σ[i]? = some (.val d)) : evE c (.tup (.cons (.var i) .nil)) σ S = some (.fz (.tup [d]), S) := by
  have z1 : ([d] : List D).length ≤ sizeLine := sz100 (show [d].length ≤ 1000 from (by decide : 1 ≤ 1000))
  simp only [evE, evA, h, Rv.d]
  rw [if_pos z1]
theorem q31s {n : Nat} {S : Store} {p q t : List Int} {x : Int} (hm : ∀ x, ∀ y ∈ q, IntMulOk x y) (hz : t.length + q.length ≤ 190) :
    exB (C (n + 4)) aftB [.val (Ip p), .val (Ip q), .val (Ip t), .val (.int x)] S = some (.nx [.val (Ip p), .val (Ip q), .val (Ip (stepP q t x)), .val (.int x)] S) := by
  have h1 : (C (n + 4)).call 29 [Ip t, Ip q] S = some (Ip (timesP t q), S) := by rw [cC]; exact q29 (n := n) hm (by omega)
  have h2 : (C (n + 4)).call 27 [.tup [.int x]] S = some (Ip (tidyP [x]), S) := by rw [cC]; exact q27 (n := n + 3) (p := [x]) (.inl rfl) (show 1 ≤ 1000 by decide)
  have l1 : (timesP t q).length ≤ 200 := Nat.le_trans times_len (by omega)
  have l2 : (tidyP [x]).length ≤ 200 := Nat.le_trans tidy_len (show 1 ≤ 200 by decide)
  have h3 : (C (n + 4)).call 28 [Ip (timesP t q), Ip (tidyP [x])] S = some (Ip (stepP q t x), S) := by rw [cC]; exact q28 l1 l2
  have e := ev_call2 (c := C (n + 4)) (σ := [.val (Ip p), .val (Ip q), .val (Ip t), .val (.int x)]) (ev_call2 (S := S) (i := 29) (ev_v (i := 2) rfl) rfl (ev_v (i := 1) rfl) rfl h1) rfl (ev_call1 (i := 27) (ev_tup1 (i := 3) rfl) rfl h2) rfl h3
  have e2 : exS (C (n + 4)) (.set 2 (.call 28 (.cons (.call 29 (.cons (.var 2) (.cons (.var 1) .nil))) (.cons (.call 27 (.cons (.tup (.cons (.var 3) .nil)) .nil)) .nil)))) [.val (Ip p), .val (Ip q), .val (Ip t), .val (.int x)] S = some (.nx [.val (Ip p), .val (Ip q), .val (Ip (stepP q t x)), .val (.int x)] S) := ex_set e rfl
  exact (st_nx (fz := [2, 1, 3]) (r := .nil) (σ := [.val (Ip p), .val (Ip q), .val (Ip t), .val (.int x)]) rfl e2).trans rfl
end K53
end

section
set_option maxHeartbeats 0
set_option Elab.async false
set_option linter.all false
set_option maxRecDepth 100000
namespace K53
open PySem L2 Co
theorem le_a {a k m : Nat} (h : a + (k + 1) * (m + 1) + m ≤ 190) : a + m ≤ 190 := by omega
theorem le_b {a b k m : Nat} (h : a + (k + 1) * (m + 1) + m ≤ 190) (s : b ≤ a + m + 1) : b + k * (m + 1) + m ≤ 190 := by
  rw [Nat.add_mul] at h; omega
theorem le_c {p : List Int} {m : Nat} (h : p.length * (m + 1) + m ≤ 190) : ([] : List Int).length + p.reverse.length * (m + 1) + m ≤ 190 := by
  rw [List.length_reverse, List.length_nil]; omega

/-- a loop that changes slot 2 by a step -/
theorem loop2 {n : Nat} {S : Store} {A B : D} {body : CB} {stp : List Int → Int → List Int} {ok : Nat → List Int → Prop} (hs : ∀ k t x, ok (k + 1) t → exB (C n) body [.val A, .val B, .val (Ip t), .val (.int x)] S = some (.nx [.val A, .val B, .val (Ip (stp t x)), .val (.int x)] S) ∧ ok k (stp t x)) :
    ∀ (l : List Int) (t : List Int) (o : Co.Slot), ok l.length t → ∃ o', forGo (loopF n (.nm 3) body) (l.map D.int) [.val A, .val B, .val (Ip t), o] S = some (.nx [.val A, .val B, .val (Ip (l.foldl stp t)), o'] S) := by
  intro l
  induction l with
  | nil => intro t o _; exact ⟨o, rfl⟩
  | cons x l ih =>
    intro t o hl
    obtain ⟨h1, h2⟩ := hs l.length t x hl
    obtain ⟨o', e⟩ := ih (stp t x) (.val (.int x)) h2
    refine ⟨o', ?_⟩
    have ea : (Pat.nm 3).asg (.int x) [.val A, .val B, .val (Ip t), o] = some [.val A, .val B, .val (Ip t), .val (.int x)] := rfl
    rw [List.map_cons, List.foldl_cons]
    simp only [forGo, loopF, ea, h1]
    exact e
theorem q31 {n : Nat} {S : Store} {p q : List Int} (hm : ∀ x, ∀ y ∈ q, IntMulOk x y) (hz : p.length * (q.length + 1) + q.length ≤ 190) : callN L.prg (n + 5) 31 [Ip p, Ip q] S = some (Ip (afterP p q), S) := by
  refine call_ret (d := d31) rfl rfl ?_
  obtain ⟨o', e⟩ := loop2 (n := n + 4) (S := S) (A := Ip p) (B := Ip q) (body := aftB) (stp := stepP q) (ok := fun k t => t.length + k * (q.length + 1) + q.length ≤ 190) (fun k t x h => ⟨q31s hm (le_a h), le_b h step_len⟩) p.reverse [] .non (le_c hz)
  have z0 : ([] : List D).length ≤ sizeLine := Nat.zero_le _
  have e00 : evE (C (n + 4)) (.tup .nil) [.val (Ip p), .val (Ip q), .non, .non] S = some (.fz (.tup []), S) := by
    simp only [evE, evA]; rw [if_pos z0]
  have e0 : exS (C (n + 4)) (.set 2 (.tup .nil)) [.val (Ip p), .val (Ip q), .non, .non] S = some (.nx [.val (Ip p), .val (Ip q), .val (Ip []), .non] S) := ex_set e00 rfl
  have ei : evI (C (n + 4)) true (.seq (.rev (.var 0))) [.val (Ip p), .val (Ip q), .val (Ip []), .non] S = some (p.reverse.map D.int, S) := by
    simp only [evI, evE, List.getElem?_cons_zero, revR, Rv.seqB, Rv.seq]; rw [← List.map_reverse]
  have hf := for_of ei e
  have t3 := st_ret (r := .nil) (fz := [2]) (σ := [.val (Ip p), .val (Ip q), .val (Ip (afterP p q)), o']) rfl (ex_ret (c := C (n + 4)) (S := S) (ev_v (i := 2) rfl) rfl)
  have t2 := (st_nx (r := .cons [2] (.ret (.var 2)) .nil) (fz := []) (σ := [.val (Ip p), .val (Ip q), .val (Ip []), .non]) rfl hf).trans t3
  have t1 := (st_nx (r := .cons [] (.for (.nm 3) (.seq (.rev (.var 0))) aftB) (.cons [2] (.ret (.var 2)) .nil)) (fz := []) (σ := [.val (Ip p), .val (Ip q), .non, .non]) rfl e0).trans t2
  exact t1
end K53
end

section
set_option maxHeartbeats 0
set_option Elab.async false
set_option linter.all false
set_option maxRecDepth 100000
/-! K53r: plain laws of the polynomials. -/
namespace K53
theorem peval_nil (x : Int) : peval [] x = 0 := rfl
theorem peval_cons (a : Int) (p : List Int) (x : Int) : peval (a :: p) x = peval p x * x + a := rfl
theorem peval_app (p q : List Int) (x : Int) : peval (p ++ q) x = peval p x + x ^ p.length * peval q x := by
  induction p with
  | nil => simp [peval_nil]
  | cons a p ih =>
    rw [List.cons_append, peval_cons, ih, peval_cons, List.length_cons, Int.pow_succ, Int.add_mul]
    rw [show x ^ p.length * peval q x * x = x ^ p.length * x * peval q x by rw [Int.mul_assoc, Int.mul_comm (peval q x), ← Int.mul_assoc]]
    omega
theorem peval_zero {p : List Int} (h : ∀ a ∈ p, a = 0) (x : Int) : peval p x = 0 := by
  induction p with
  | nil => rfl
  | cons a p ih => rw [peval_cons, ih fun b hb => h b (by simp [hb]), h a (by simp)]; simp
theorem tzc_le (p : List Int) : ∀ m, tzc p m ≤ m
  | 0 => Nat.le_refl _
  | m + 1 => by show (if p[m]? = some 0 then tzc p m else m + 1) ≤ m + 1; have := tzc_le p m; split <;> omega
theorem tzc_zero (p : List Int) : ∀ m j, tzc p m ≤ j → j < m → p[j]? = some 0
  | 0, j, _, h => by omega
  | m + 1, j, h1, h2 => by
    by_cases e : p[m]? = some 0
    · have e2 : tzc p (m + 1) = tzc p m := by simp [tzc, e]
      rw [e2] at h1
      by_cases hj : j = m
      · rw [hj]; exact e
      · exact tzc_zero p m j h1 (by omega)
    · have e2 : tzc p (m + 1) = m + 1 := by simp [tzc, e]
      rw [e2] at h1; omega
theorem tzc_last (p : List Int) : ∀ m k, tzc p m = k + 1 → p[k]? ≠ some 0
  | 0, k, h => by simp [tzc] at h
  | m + 1, k, h => by
    by_cases e : p[m]? = some 0
    · have e2 : tzc p (m + 1) = tzc p m := by simp [tzc, e]
      rw [e2] at h; exact tzc_last p m k h
    · have e2 : tzc p (m + 1) = m + 1 := by simp [tzc, e]
      rw [e2] at h
      have : k = m := by omega
      rw [this]; exact e
theorem peval_tidy (p : List Int) (x : Int) : peval (tidyP p) x = peval p x := by
  have h := peval_app (p.take (tzc p p.length)) (p.drop (tzc p p.length)) x
  rw [List.take_append_drop] at h
  have hz : peval (p.drop (tzc p p.length)) x = 0 := peval_zero (fun a ha => by
    obtain ⟨i, hi, rfl⟩ := List.getElem_of_mem ha
    rw [List.getElem_drop]
    have hl : tzc p p.length + i < p.length := by simp at hi; omega
    have q := tzc_zero p p.length (tzc p p.length + i) (Nat.le_add_right _ _) hl
    rw [List.getElem?_eq_getElem hl] at q
    exact Option.some.inj q) x
  rw [hz, Int.mul_zero, Int.add_zero] at h
  exact h.symm
/-- no nought at the end -/
def Tidy (p : List Int) : Prop := ∀ k, p.length = k + 1 → p[k]? ≠ some 0
theorem tidy_tidy (p : List Int) : Tidy (tidyP p) := by
  intro k hk
  have hl : (tidyP p).length = tzc p p.length := by unfold tidyP; rw [List.length_take]; have := tzc_le p p.length; omega
  rw [hl] at hk
  unfold tidyP
  rw [List.getElem?_take_of_lt (by omega)]
  exact tzc_last p p.length k hk
theorem peval_rep (k : Nat) (x : Int) : peval (List.replicate k 0) x = 0 := peval_zero (fun a h => (List.mem_replicate.mp h).2) x
theorem peval_pad (p : List Int) (m : Nat) (x : Int) : peval (padP p m) x = peval p x := by
  unfold padP; rw [peval_app, peval_rep]; simp
theorem peval_zip : ∀ (p q : List Int) (x : Int), p.length = q.length → peval (List.zipWith (· + ·) p q) x = peval p x + peval q x
  | [], [], _, _ => rfl
  | a :: p, b :: q, x, h => by
    rw [List.zipWith_cons_cons, peval_cons, peval_zip p q x (by simpa using h), peval_cons, peval_cons, Int.add_mul]
    omega
  | [], _ :: _, _, h => by simp at h
  | _ :: _, [], _, h => by simp at h
theorem peval_sum (p q : List Int) (x : Int) : peval (sumP p q) x = peval p x + peval q x := by
  unfold sumP
  rw [peval_zip _ _ _ (by simp only [padP, List.length_append, List.length_replicate]; omega), peval_pad, peval_pad]
theorem peval_set : ∀ (f : List Int) (j : Nat) (v x : Int), j < f.length → peval (f.set j v) x = peval f x + (v - (f[j]?).getD 0) * x ^ j
  | [], j, v, x, h => by simp at h
  | a :: f, 0, v, x, _ => by
    rw [List.set_cons_zero, peval_cons, peval_cons]; simp; omega
  | a :: f, j + 1, v, x, h => by
    rw [List.set_cons_succ, peval_cons, peval_set f j v x (by simpa using h), peval_cons, List.getElem?_cons_succ, Int.pow_succ, Int.add_mul, ← Int.mul_assoc]
    omega
theorem peval_addAt {f : List Int} {j : Nat} {v x : Int} (h : j < f.length) : peval (addAt f j v) x = peval f x + v * x ^ j := by
  unfold addAt
  rw [peval_set _ _ _ _ h]
  congr 2
  omega
theorem peval_row {i : Nat} {a x : Int} : ∀ (ys : List Int) (k : Nat) (f : List Int), i + k + ys.length ≤ f.length → peval (rowP i a ys k f) x = peval f x + a * x ^ (i + k) * peval ys x
  | [], k, f, _ => by show peval f x = _; rw [peval_nil]; simp
  | y :: ys, k, f, h => by
    rw [List.length_cons] at h
    show peval (rowP i a ys (k + 1) (addAt f (i + k) (a * y))) x = _
    rw [peval_row ys (k + 1) _ (by rw [addAt_len]; omega), peval_addAt (by omega), peval_cons]
    rw [show i + (k + 1) = (i + k) + 1 by omega, Int.pow_succ]
    generalize x ^ (i + k) = w
    generalize peval ys x = z
    generalize peval f x = u
    rw [Int.mul_add, Int.add_assoc]
    congr 1
    rw [show a * y * w = a * w * y by rw [Int.mul_assoc, Int.mul_comm y w, ← Int.mul_assoc], show a * (w * x) * z = a * w * (z * x) by rw [← Int.mul_assoc, Int.mul_assoc (a * w) x z, Int.mul_comm x z]]
    omega
theorem peval_mul {q : List Int} {x : Int} : ∀ (xs : List Int) (i : Nat) (f : List Int), i + xs.length + q.length ≤ f.length → peval (mulP xs i q f) x = peval f x + x ^ i * peval xs x * peval q x
  | [], i, f, _ => by show peval f x = _; rw [peval_nil]; simp
  | a :: xs, i, f, h => by
    rw [List.length_cons] at h
    show peval (mulP xs (i + 1) q (rowP i a q 0 f)) x = _
    rw [peval_mul xs (i + 1) _ (by rw [rowP_len]; omega), peval_row q 0 f (by omega), peval_cons, Int.pow_succ, Nat.add_zero]
    generalize x ^ i = w
    generalize peval xs x = z
    generalize peval f x = u
    generalize peval q x = t
    rw [Int.mul_add, Int.add_mul, Int.add_assoc]
    congr 1
    rw [show w * x * z * t = w * (z * x) * t by rw [Int.mul_assoc w x z, Int.mul_comm x z], show a * w * t = w * a * t by rw [Int.mul_comm a w]]
    omega
theorem peval_times (p q : List Int) (x : Int) : peval (timesP p q) x = peval p x * peval q x := by
  unfold timesP
  rw [peval_tidy, peval_mul _ _ _ (by simp), peval_rep]
  simp
theorem peval_step (o t : List Int) (a x : Int) : peval (stepP o t a) x = peval t x * peval o x + a := by
  unfold stepP
  rw [peval_tidy, peval_sum, peval_times, peval_tidy]
  simp [peval_cons, peval_nil]
theorem peval_after (p q : List Int) (x : Int) : peval (afterP p q) x = peval p (peval q x) := by
  unfold afterP
  have key : ∀ (l t : List Int), peval (l.foldl (stepP q) t) x = l.foldl (fun t a => t * peval q x + a) (peval t x) := by
    intro l
    induction l with
    | nil => intro t; rfl
    | cons a l ih => intro t; rw [List.foldl_cons, List.foldl_cons, ih, peval_step]
  rw [key, peval_nil, foldl_peval]
theorem tidy_after (p q : List Int) : Tidy (afterP p q) := by
  unfold afterP
  have key : ∀ (l t : List Int), Tidy t → Tidy (l.foldl (stepP q) t) := by
    intro l
    induction l with
    | nil => intro t h; exact h
    | cons a l ih => intro t _; rw [List.foldl_cons]; exact ih _ (tidy_tidy _)
  exact key _ _ (fun k h => by simp at h)

/-! ### roots -/
def quo (r : Int) : List Int → List Int
  | [] => []
  | [_] => []
  | a :: b :: p => peval (b :: p) r :: quo r (b :: p)
theorem quo_len {r : Int} : ∀ (p : List Int), (quo r p).length = p.length - 1
  | [] => rfl
  | [_] => rfl
  | a :: b :: p => by show (quo r (b :: p)).length + 1 = _; rw [quo_len (b :: p)]; simp
theorem quo_eval {r x : Int} : ∀ (p : List Int), peval p x = peval p r + (x - r) * peval (quo r p) x
  | [] => by simp [peval_nil, quo]
  | [a] => by simp [peval_cons, peval_nil, quo]
  | a :: b :: p => by
    show peval (a :: b :: p) x = peval (a :: b :: p) r + (x - r) * peval (peval (b :: p) r :: quo r (b :: p)) x
    rw [peval_cons a, peval_cons a, quo_eval (b :: p), peval_cons (peval (b :: p) r)]
    generalize peval (b :: p) r = s
    generalize peval (quo r (b :: p)) x = t
    rw [Int.mul_add, Int.add_mul, Int.sub_mul, Int.sub_mul, Int.sub_mul, Int.sub_mul]
    rw [show x * t * x = x * (t * x) by rw [Int.mul_assoc], show r * t * x = r * (t * x) by rw [Int.mul_assoc], Int.mul_comm s x, Int.mul_comm s r]
    omega
theorem quo_zero {r : Int} : ∀ (p : List Int), peval p r = 0 → (∀ a ∈ quo r p, a = 0) → ∀ a ∈ p, a = 0
  | [], _, _ => by simp
  | [a], h, _ => by simpa [peval_cons, peval_nil] using h
  | a :: b :: p, h, hq => by
    have h1 : peval (b :: p) r = 0 := hq _ (by show _ ∈ peval (b :: p) r :: quo r (b :: p); simp)
    have h2 := quo_zero (b :: p) h1 fun c hc => hq c (by show c ∈ peval (b :: p) r :: quo r (b :: p); simp [hc])
    have h3 : a = 0 := by rw [peval_cons, h1] at h; simpa using h
    intro c hc
    rcases List.mem_cons.mp hc with rfl | hc
    · exact h3
    · exact h2 c hc
/-- as many noughts as numbers: none but noughts -/
theorem roots : ∀ (n : Nat) (p : List Int), p.length ≤ n → (∀ k, k < n → peval p (k : Int) = 0) → ∀ a ∈ p, a = 0
  | 0, p, h, _ => by
    have : p = [] := List.eq_nil_of_length_eq_zero (by omega)
    subst this; simp
  | n + 1, p, h, hk => by
    have h0 := hk n (by omega)
    refine quo_zero p h0 (roots n (quo (n : Int) p) (by rw [quo_len]; omega) fun k hkn => ?_)
    have e := quo_eval (r := (n : Int)) (x := (k : Int)) p
    rw [hk k (by omega), h0, Int.zero_add] at e
    rcases Int.mul_eq_zero.mp e.symm with z | z
    · omega
    · exact z
end K53
end

section
set_option maxHeartbeats 0
set_option Elab.async false
set_option linter.all false
set_option maxRecDepth 100000
/-! K53s: lengths; tidy polynomials that are one at enough numbers are one. -/
namespace K53
theorem row_get {i : Nat} {a : Int} : ∀ (ys : List Int) (k : Nat) (f : List Int) (j : Nat), i + k + ys.length ≤ j → (rowP i a ys k f)[j]? = f[j]?
  | [], _, _, _, _ => rfl
  | y :: ys, k, f, j, h => by
    rw [List.length_cons] at h
    show (rowP i a ys (k + 1) (addAt f (i + k) (a * y)))[j]? = _
    rw [row_get ys (k + 1) _ j (by omega)]
    unfold addAt
    rw [List.getElem?_set_ne (by omega)]
theorem mul_get {q : List Int} : ∀ (xs : List Int) (i : Nat) (f : List Int) (j : Nat), i + xs.length + q.length ≤ j + 1 → (mulP xs i q f)[j]? = f[j]?
  | [], _, _, _, _ => rfl
  | x :: xs, i, f, j, h => by
    rw [List.length_cons] at h
    show (mulP xs (i + 1) q (rowP i x q 0 f))[j]? = _
    rw [mul_get xs (i + 1) _ j (by omega), row_get q 0 f j (by omega)]
theorem tidyP_len (p : List Int) : (tidyP p).length = tzc p p.length := by unfold tidyP; rw [List.length_take]; have := tzc_le p p.length; omega
theorem times_len2 (p q : List Int) : (timesP p q).length ≤ p.length + q.length - 1 := by
  unfold timesP
  rw [tidyP_len, mulP_len, List.length_replicate]
  cases h : p.length + q.length with
  | zero => exact Nat.le_of_eq rfl
  | succ k =>
    have e : (mulP p 0 q (List.replicate (k + 1) 0))[k]? = some 0 := by
      rw [mul_get p 0 _ k (by omega)]; simp
    have e2 : tzc (mulP p 0 q (List.replicate (k + 1) 0)) (k + 1) = tzc (mulP p 0 q (List.replicate (k + 1) 0)) k := by
      show (if (mulP p 0 q (List.replicate (k + 1) 0))[k]? = some 0 then _ else _) = _
      rw [if_pos e]
    rw [e2]
    exact tzc_le _ k
theorem tzc_all {p : List Int} (h : ∀ j, j < p.length → p[j]? = some 0) : ∀ m, m ≤ p.length → tzc p m = 0
  | 0, _ => rfl
  | m + 1, hm => by
    show (if p[m]? = some 0 then tzc p m else m + 1) = 0
    rw [if_pos (h m (by omega))]
    exact tzc_all h m (by omega)
theorem times_nil (q : List Int) : (timesP [] q).length = 0 := by
  show (tidyP (List.replicate (0 + q.length) 0)).length = 0
  rw [tidyP_len]
  exact tzc_all (fun j hj => by rw [List.length_replicate] at hj; rw [List.getElem?_replicate, if_pos hj]) _ (Nat.le_refl _)
theorem sum_le (p q : List Int) : (sumP p q).length ≤ max p.length q.length := Nat.le_of_eq sum_len
theorem tidy1_len (a : Int) : (tidyP [a]).length ≤ 1 := tidy_len
theorem step_len2 {o t : List Int} {a : Int} {B m : Nat} (ho : o.length = m + 1) (ht : t.length ≤ B) (hB : 1 ≤ B) : (stepP o t a).length ≤ B + m := by
  refine Nat.le_trans tidy_len (Nat.le_trans (sum_le _ _) ?_)
  have h1 := times_len2 t o
  have h2 := tidy1_len a
  generalize (timesP t o).length = u at h1 ⊢
  generalize (tidyP [a]).length = w at h2 ⊢
  omega
theorem step_nil {o : List Int} {a : Int} : (stepP o [] a).length ≤ 1 := by
  refine Nat.le_trans tidy_len (Nat.le_trans (sum_le _ _) ?_)
  have h1 := times_nil o
  have h2 := tidy1_len a
  generalize (timesP [] o).length = u at h1 ⊢
  generalize (tidyP [a]).length = w at h2 ⊢
  omega
theorem after_len {p q : List Int} {k m : Nat} (hp : p.length = k + 1) (hq : q.length = m + 1) : (afterP p q).length ≤ k * m + 1 := by
  unfold afterP
  have key : ∀ (l t : List Int) (B : Nat), t.length ≤ B → 1 ≤ B → (l.foldl (stepP q) t).length ≤ B + l.length * m := by
    intro l
    induction l with
    | nil => intro t B h _; simpa using h
    | cons a l ih =>
      intro t B h hB
      rw [List.foldl_cons, List.length_cons]
      have := ih (stepP q t a) (B + m) (step_len2 hq h hB) (by omega)
      rw [Nat.add_mul]
      generalize (List.foldl (stepP q) (stepP q t a) l).length = z at this ⊢
      omega
  have hr : p.reverse.length = k + 1 := by rw [List.length_reverse]; exact hp
  cases e : p.reverse with
  | nil => rw [e] at hr; simp at hr
  | cons a l =>
    rw [e, List.length_cons] at hr
    rw [List.foldl_cons]
    have := key l (stepP q [] a) 1 step_nil (Nat.le_refl _)
    have hk : l.length = k := by omega
    rw [hk] at this
    omega
theorem peval_neg : ∀ (p : List Int) (x : Int), peval (p.map fun a => -a) x = -peval p x
  | [], _ => rfl
  | a :: p, x => by rw [List.map_cons, peval_cons, peval_neg p x, peval_cons, Int.neg_mul]; omega
theorem zip_zero : ∀ (p q : List Int), p.length = q.length → (∀ a ∈ List.zipWith (· + ·) p (q.map fun a => -a), a = 0) → p = q
  | [], [], _, _ => rfl
  | a :: p, b :: q, h, z => by
    have h1 : a + -b = 0 := z _ (by simp)
    have e : a = b := by omega
    rw [e, zip_zero p q (by simpa using h) fun c hc => z c (by simp [hc])]
  | [], _ :: _, h, _ => by simp at h
  | _ :: _, [], h, _ => by simp at h
theorem pad_get (p : List Int) (m j : Nat) (h : j < m) (hm : p.length ≤ m) : (padP p m)[j]? = some ((p[j]?).getD 0) := by
  unfold padP
  by_cases hj : j < p.length
  · rw [List.getElem?_append_left hj]; simp [hj]
  · rw [List.getElem?_append_right (by omega)]
    have : p[j]? = none := List.getElem?_eq_none (by omega)
    rw [this, List.getElem?_replicate, if_pos (by omega)]
    rfl
theorem tidy_pad {p q : List Int} {m : Nat} (tq : Tidy q) (lp : p.length ≤ m) (lq : q.length ≤ m) (h : padP p m = padP q m) : q.length ≤ p.length := by
  rcases Nat.lt_or_ge p.length q.length with hlt | hge
  · exfalso
    have hk : q.length = (q.length - 1) + 1 := by omega
    refine tq (q.length - 1) hk ?_
    have e : (padP p m)[q.length - 1]? = (padP q m)[q.length - 1]? := by rw [h]
    rw [pad_get p m _ (by omega) lp, pad_get q m _ (by omega) lq] at e
    have hn : p[q.length - 1]? = none := List.getElem?_eq_none (by omega)
    rw [hn] at e
    have hq : q.length - 1 < q.length := by omega
    rw [List.getElem?_eq_getElem hq] at e ⊢
    simpa using e.symm
  · exact hge
theorem pad_inj {p q : List Int} {m : Nat} (tp : Tidy p) (tq : Tidy q) (lp : p.length ≤ m) (lq : q.length ≤ m) (h : padP p m = padP q m) : p = q := by
  have h1 := tidy_pad tq lp lq h
  have h2 := tidy_pad tp lq lp h.symm
  have hl : p.length = q.length := by omega
  unfold padP at h
  exact (List.append_inj h hl).1
theorem differ {p q : List Int} {n : Nat} (tp : Tidy p) (tq : Tidy q) (lp : p.length ≤ n) (lq : q.length ≤ n) (h : ∀ k, k < n → peval p (k : Int) = peval q (k : Int)) : p = q := by
  refine pad_inj tp tq lp lq (zip_zero _ _ (by simp only [padP, List.length_append, List.length_replicate]; omega) ?_)
  have hl1 : (padP p n).length = n := by simp only [padP, List.length_append, List.length_replicate]; omega
  have hl2 : (padP q n).length = n := by simp only [padP, List.length_append, List.length_replicate]; omega
  refine roots n _ (by rw [List.length_zipWith, List.length_map]; omega) fun k hk => ?_
  rw [peval_zip _ _ _ (by rw [List.length_map]; omega), peval_neg, peval_pad, peval_pad, h k hk]
  omega
/-- the law's first point: compositions that are one, or differ at a number below the degree's next -/
theorem commute_or {p q : List Int} {k m : Nat} (hp : p.length = k + 1) (hq : q.length = m + 1) (h : afterP p q ≠ afterP q p) : ∃ x, x < k * m + 1 ∧ peval p (peval q (x : Int)) ≠ peval q (peval p (x : Int)) := by
  apply Classical.byContradiction
  intro hn
  refine h (differ (n := k * m + 1) (tidy_after p q) (tidy_after q p) (after_len hp hq) (Nat.le_trans (after_len hq hp) (by rw [Nat.mul_comm]; exact Nat.le_refl _)) fun x hx => ?_)
  rw [peval_after, peval_after]
  apply Classical.byContradiction
  intro hne
  exact hn ⟨x, hx, hne⟩
theorem commute_eq {p q : List Int} (h : afterP p q = afterP q p) (x : Int) : peval p (peval q x) = peval q (peval p x) := by
  rw [← peval_after, ← peval_after, h]
end K53
end

section
set_option maxHeartbeats 0
set_option Elab.async false
set_option linter.all false
set_option maxRecDepth 100000
namespace K53
open PySem L2 Co
theorem pys_ints : ∀ p : List Int, D.pys (p.map D.int) = some (p.map PyData.int)
  | [] => rfl
  | a :: p => by rw [List.map_cons, D.pys, D.py, pys_ints p]; rfl
theorem lay_ints : ∀ p : List Int, PyData.canLayAll0 (p.map PyData.int) = true
  | [] => by simp [PyData.canLayAll0]
  | a :: p => by simp [PyData.canLayAll0, PyData.canLay0, lay_ints p]
theorem dep_ints : ∀ p : List Int, PyData.depthAll (p.map PyData.int) = 0
  | [] => by simp [PyData.depthAll]
  | a :: p => by simp [PyData.depthAll, PyData.depth, dep_ints p]
theorem eqv_ints : ∀ p q : List Int, PyData.eqvAll (p.map PyData.int) (q.map PyData.int) = decide (p = q)
  | [], [] => by simp [PyData.eqvAll]
  | [], _ :: _ => by simp [PyData.eqvAll]
  | _ :: _, [] => by simp [PyData.eqvAll]
  | a :: p, b :: q => by
    simp only [List.map_cons, PyData.eqvAll, PyData.eqv, eqv_ints p q]
    by_cases h : a = b <;> by_cases h2 : p = q <;> simp [h, h2]
theorem eqIp (p q : List Int) : eqD (Ip p) (Ip q) = some (decide (p = q)) := by
  unfold eqD
  simp only [D.py, pys_ints, Option.map_some]
  have sh : ∀ r : List Int, SeqAt.shaped (.tuple (r.map PyData.int)) = true := fun r => by
    simp [SeqAt.shaped, PyData.canLay0, lay_ints, PyData.depth, dep_ints]
  rw [if_pos ⟨sh p, sh q⟩]
  simp only [PyData.eqv, eqv_ints]
/-- coefficients and values that can be multiplied -/
structure Good (p : List Int) : Prop where
  co : ∀ x, ∀ y ∈ p, IntMulOk x y
  ev : ∀ k : Nat, k < 60 → ∀ t, IntMulOk t (peval p (k : Int))
theorem q33 {n : Nat} {S : Store} {p q : List Int} (hp : Good p) (hq : Good q) (h1 : p.length * (q.length + 1) + q.length ≤ 190) (h2 : q.length * (p.length + 1) + p.length ≤ 190) :
    callN L.prg (n + 6) 33 [Ip p, Ip q] S = some (.bl (decide (afterP p q = afterP q p)), S) := by
  refine call_ret (d := d33) rfl rfl ?_
  have a1 : (C (n + 5)).call 31 [Ip p, Ip q] S = some (Ip (afterP p q), S) := by rw [cC]; exact q31 hq.co h1
  have a2 : (C (n + 5)).call 31 [Ip q, Ip p] S = some (Ip (afterP q p), S) := by rw [cC]; exact q31 hp.co h2
  have e := ev_cmp (op := .eq) (ev_call2 (S := S) (σ := [.val (Ip p), .val (Ip q)]) (i := 31) (ev_v (i := 0) rfl) rfl (ev_v (i := 1) rfl) rfl a1) (ev_call2 (i := 31) (ev_v (i := 1) rfl) rfl (ev_v (i := 0) rfl) rfl a2) (z := decide (afterP p q = afterP q p)) (by
    simp only [cmpS, neIns, Bool.false_eq_true, if_false, cmpR, Rv.tree]; exact eqIp _ _)
  exact st_ret (fz := [0, 1, 1, 0]) (r := .nil) (σ := [.val (Ip p), .val (Ip q)]) rfl (ex_ret e rfl)
theorem small60 {k : Nat} (h : k < 60) : ∀ t, IntMulOk t (k : Int) := fun t => .of_right (by
  have : ∀ k < 60, Builtin.Int.intBits ((k : Nat) : Int) ≤ 64 := by decide +kernel
  exact this k h)
/-- one led by other, at x -/
theorem at_at {n : Nat} {S : Store} {p q : List Int} {σ : Co.Env} {x : Nat} {i j l : Nat} (hq : Good q) (hx : x < 60) (h1 : σ[i]? = some (.val (Ip p))) (h2 : σ[j]? = some (.val (Ip q))) (h3 : σ[l]? = some (.val (.int (x : Int)))) :
    evE (C (n + 4)) (.call 30 (.cons (.var i) (.cons (.call 30 (.cons (.var j) (.cons (.var l) .nil))) .nil))) σ S = some (.fz (.int (peval p (peval q x))), S) := by
  have a1 : (C (n + 4)).call 30 [Ip q, .int (x : Int)] S = some (.int (peval q x), S) := by rw [cC]; exact q30 (small60 hx)
  have a2 : (C (n + 4)).call 30 [Ip p, .int (peval q x)] S = some (.int (peval p (peval q x)), S) := by rw [cC]; exact q30 (hq.ev x hx)
  exact ev_call2 (ev_v h1) rfl (ev_call2 (ev_v h2) rfl (ev_v h3) rfl a1) rfl a2
theorem by_by {n : Nat} {S : Store} {p q : List Int} {σ : Co.Env} {x : Nat} {i j l : Nat} (hq : Good q) (hx : x < 60) (h1 : σ[i]? = some (.val (Ip p))) (h2 : σ[j]? = some (.val (Ip q))) (h3 : σ[l]? = some (.val (.int (x : Int)))) :
    evE (C (n + 2)) (.call 11 (.cons (.var i) (.cons (.call 11 (.cons (.var j) (.cons (.var l) .nil))) .nil))) σ S = some (.fz (.int (peval p (peval q x))), S) := by
  have a1 : (C (n + 2)).call 11 [Ip q, .int (x : Int)] S = some (.int (peval q x), S) := by rw [cC]; exact q11 (small60 hx)
  have a2 : (C (n + 2)).call 11 [Ip p, .int (peval q x)] S = some (.int (peval p (peval q x)), S) := by rw [cC]; exact q11 (hq.ev x hx)
  exact ev_call2 (ev_v h1) rfl (ev_call2 (ev_v h2) rfl (ev_v h3) rfl a1) rfl a2
theorem lc_filter {f : D → Store → Option (Option D × Store)} {S : Store} {t : D → Bool} : ∀ (ds acc : List D), (∀ d ∈ ds, f d S = some (if t d = true then some d else none, S)) → acc.length + ds.length ≤ sizeLine → lcGo f ds acc S = some (acc ++ ds.filter t, S)
  | [], acc, _, _ => by simp [lcGo]
  | d :: ds, acc, h, hz => by
    have hd := h d (by simp)
    have hz0 : (d :: ds).length = ds.length + 1 := rfl
    cases ht : t d with
    | true =>
      rw [ht, if_pos rfl] at hd
      have hz' : acc.length < sizeLine := by omega
      rw [lcGo, hd]
      simp only [if_pos hz']
      rw [lc_filter ds _ (fun d' h' => h d' (by simp [h'])) (by simp; omega), List.filter_cons, if_pos ht]
      simp
    | false =>
      rw [ht, if_neg Bool.false_ne_true] at hd
      rw [lcGo, hd]
      simp only
      rw [lc_filter ds _ (fun d' h' => h d' (by simp [h'])) (by omega), List.filter_cons, if_neg (by rw [ht]; exact Bool.false_ne_true)]
def ap (p q : List Int) (k : Nat) : Bool := decide (peval p (peval q (k : Int)) ≠ peval q (peval p (k : Int)))
theorem ne_ev {n : Nat} {S : Store} {p q : List Int} {σ : Co.Env} {x : Nat} (hp : Good p) (hq : Good q) (hx : x < 60) (h1 : σ[0]? = some (.val (Ip p))) (h2 : σ[1]? = some (.val (Ip q))) (h3 : σ[2]? = some (.val (.int (x : Int)))) :
    evT (C (n + 4)) (.tr (.cmp .ne (.call 30 (.cons (.var 0) (.cons (.call 30 (.cons (.var 1) (.cons (.var 2) .nil))) .nil))) (.call 30 (.cons (.var 1) (.cons (.call 30 (.cons (.var 0) (.cons (.var 2) .nil))) .nil))))) σ S = some (ap p q x, S) := by
  refine ev_tr (ev_cmp (at_at hq hx h1 h2 h3) (at_at hp hx h2 h1 h3) (z := ap p q x) ?_) rfl
  simp only [cmpS, neIns, Bool.false_eq_true, if_false, cmpR, Rv.tree, eqI, Option.map_some, ap]
  simp
theorem ne_by {n : Nat} {S : Store} {p q : List Int} {σ : Co.Env} {x : Nat} (hp : Good p) (hq : Good q) (hx : x < 60) (h1 : σ[0]? = some (.val (Ip p))) (h2 : σ[1]? = some (.val (Ip q))) (h3 : σ[2]? = some (.val (.int (x : Int)))) :
    evT (C (n + 2)) (.tr (.cmp .ne (.call 11 (.cons (.var 0) (.cons (.call 11 (.cons (.var 1) (.cons (.var 2) .nil))) .nil))) (.call 11 (.cons (.var 1) (.cons (.call 11 (.cons (.var 0) (.cons (.var 2) .nil))) .nil))))) σ S = some (ap p q x, S) := by
  refine ev_tr (ev_cmp (by_by hq hx h1 h2 h3) (by_by hp hx h2 h1 h3) (z := ap p q x) ?_) rfl
  simp only [cmpS, neIns, Bool.false_eq_true, if_false, cmpR, Rv.tree, eqI, Option.map_some, ap]
  simp
end K53
end

section
set_option maxHeartbeats 0
set_option Elab.async false
set_option linter.all false
set_option maxRecDepth 100000
namespace K53
open PySem L2 Co
def dueD (p q : List Int) : D := match (List.range 60).find? (ap p q) with | some x => .int (x : Int) | none => .non
theorem ap_false {p q : List Int} (h : afterP p q = afterP q p) (k : Nat) : ap p q k = false := by
  unfold ap; rw [decide_eq_false]; intro z; exact z (commute_eq h _)
theorem due_none {p q : List Int} (h : afterP p q = afterP q p) : dueD p q = .non := by
  unfold dueD
  have : (List.range 60).find? (ap p q) = none := List.find?_eq_none.mpr fun x _ => by rw [ap_false h]; exact Bool.false_ne_true
  rw [this]
theorem find_some {p q : List Int} {N : Nat} (h : ∃ x, x < N ∧ peval p (peval q ((x : Nat) : Int)) ≠ peval q (peval p ((x : Nat) : Int))) : ∃ x, (List.range N).find? (ap p q) = some x := by
  obtain ⟨x, hx, hne⟩ := h
  cases e : (List.range N).find? (ap p q) with
  | some y => exact ⟨y, rfl⟩
  | none =>
    have := List.find?_eq_none.mp e x (List.mem_range.mpr hx)
    exact absurd (by unfold ap; exact decide_eq_true hne) this
theorem find_pre {p q : List Int} {N x : Nat} (hN : N ≤ 60) (h : (List.range N).find? (ap p q) = some x) : (List.range 60).find? (ap p q) = some x := by
  have e : List.range 60 = List.range N ++ (List.range (60 - N)).map (N + ·) := by
    rw [← List.range_add]; congr 1; omega
  rw [e, List.find?_append, h]
  rfl
/-- the least place at which the two lead elsewhere, below N -/
def firstD (p q : List Int) (N : Nat) : D := match (List.range N).find? (ap p q) with | some x => .int (x : Int) | none => .non
theorem first_due {p q : List Int} {k m : Nat} (hp : p.length = k + 1) (hq : q.length = m + 1) (h60 : k * m + 1 ≤ 60) : firstD p q (k * m + 1) = dueD p q := by
  by_cases h : afterP p q = afterP q p
  · rw [due_none h]
    unfold firstD
    have : (List.range (k * m + 1)).find? (ap p q) = none := List.find?_eq_none.mpr fun x _ => by rw [ap_false h]; exact Bool.false_ne_true
    rw [this]
  · obtain ⟨x, hx⟩ := find_some (commute_or hp hq h)
    unfold firstD dueD
    rw [find_pre h60 hx, hx]
theorem due_some {p q : List Int} {k m : Nat} (hp : p.length = k + 1) (hq : q.length = m + 1) (h60 : k * m + 1 ≤ 60) (h : afterP p q ≠ afterP q p) : ∃ x, (List.range 60).find? (ap p q) = some x ∧ dueD p q = .int (x : Int) := by
  obtain ⟨x, hx⟩ := find_some (commute_or hp hq h)
  have e := find_pre h60 hx
  exact ⟨x, e, by unfold dueD; rw [e]⟩
/-- a for that returns the first d with t -/
theorem for_find {n : Nat} {pt : Pat} {b : CB} {S : Store} {t : D → Bool} {inv : Co.Env → Prop} : ∀ (ds : List D) (σ : Co.Env), (∀ d ∈ ds, ∀ σ, inv σ → (t d = true → loopF n pt b d σ S = some (.ret d S)) ∧ (t d = false → ∃ σ', loopF n pt b d σ S = some (.nx σ' S) ∧ inv σ')) → inv σ →
    (∃ d, ds.find? t = some d ∧ forGo (loopF n pt b) ds σ S = some (.ret d S)) ∨ (ds.find? t = none ∧ ∃ σ', forGo (loopF n pt b) ds σ S = some (.nx σ' S) ∧ inv σ')
  | [], σ, _, h0 => .inr ⟨rfl, σ, rfl, h0⟩
  | d :: ds, σ, h, h0 => by
    obtain ⟨h1, h2⟩ := h d (by simp) σ h0
    cases ht : t d with
    | true => exact .inl ⟨d, by rw [List.find?_cons, ht], by simp only [forGo, h1 ht]⟩
    | false =>
      obtain ⟨σ', e, i⟩ := h2 ht
      rcases for_find ds σ' (fun d' hd => h d' (by simp [hd])) i with ⟨d', q1, q2⟩ | ⟨q1, σ2, q2, q3⟩
      · exact .inl ⟨d', by rw [List.find?_cons, ht]; exact q1, by simp only [forGo, e]; exact q2⟩
      · exact .inr ⟨by rw [List.find?_cons, ht]; exact q1, σ2, by simp only [forGo, e]; exact q2, q3⟩
abbrev faT : CT := .tr (.cmp .ne (.call 11 (.cons (.var 0) (.cons (.call 11 (.cons (.var 1) (.cons (.var 2) .nil))) .nil))) (.call 11 (.cons (.var 1) (.cons (.call 11 (.cons (.var 0) (.cons (.var 2) .nil))) .nil))))
abbrev faB : CB := .cons [0, 1, 2, 1, 0, 2] (.ifs faT (.cons [2] (.ret (.var 2)) .nil) .nil) .nil
def apD (p q : List Int) : D → Bool
  | .int i => ap p q i.toNat
  | _ => false
theorem find_map (p q : List Int) : ∀ l : List Nat, (l.map fun k : Nat => D.int (k : Int)).find? (apD p q) = (l.find? (ap p q)).map fun k : Nat => D.int (k : Int)
  | [] => rfl
  | k :: l => by
    rw [List.map_cons, List.find?_cons, List.find?_cons]
    have e : apD p q (.int (k : Int)) = ap p q k := by simp [apD]
    rw [e]
    cases ap p q k with
    | true => rfl
    | false => exact find_map p q l
theorem fa_body {n : Nat} {S : Store} {p q : List Int} (hp : Good p) (hq : Good q) {k : Nat} (hk : k < 60) {o : Co.Slot} : (ap p q k = true → loopF (n + 2) (.nm 2) faB (.int (k : Int)) [.val (Ip p), .val (Ip q), o] S = some (.ret (.int (k : Int)) S)) ∧
    (ap p q k = false → loopF (n + 2) (.nm 2) faB (.int (k : Int)) [.val (Ip p), .val (Ip q), o] S = some (.nx [.val (Ip p), .val (Ip q), .val (.int (k : Int))] S)) := by
  have ea : (Pat.nm 2).asg (.int (k : Int)) [.val (Ip p), .val (Ip q), o] = some [.val (Ip p), .val (Ip q), .val (.int (k : Int))] := rfl
  have et := ne_by (n := n) (S := S) (σ := [.val (Ip p), .val (Ip q), .val (.int (k : Int))]) hp hq hk rfl rfl rfl
  constructor
  · intro h
    rw [h] at et
    simp only [loopF, ea]
    refine st_ret (σ1 := [.val (Ip p), .val (Ip q), .val (.int (k : Int))]) rfl (ex_ifT et ?_)
    exact st_ret (σ1 := [.val (Ip p), .val (Ip q), .val (.int (k : Int))]) rfl (ex_ret (ev_v rfl) rfl)
  · intro h
    rw [h] at et
    simp only [loopF, ea]
    exact (st_nx (σ1 := [.val (Ip p), .val (Ip q), .val (.int (k : Int))]) rfl (ex_ifF et rfl)).trans rfl
theorem q14 {n : Nat} {S : Store} {p q : List Int} (hp : Good p) (hq : Good q) {k m : Nat} (lp : p.length = k + 1) (lq : q.length = m + 1) (h60 : k * m + 1 ≤ 60) (hk : k ≤ 60) : callN L.prg (n + 3) 14 [Ip p, Ip q] S = some (dueD p q, S) := by
  rw [← first_due lp lq h60]
  refine call_ret (d := d14) rfl rfl ?_
  have hm : IntMulOk (k : Int) (m : Int) := by
    exact .of_left (intBits_le_64 (by omega) (by omega))
  have e1 : ((p.map D.int).length : Int) - 1 = (k : Int) := by rw [List.length_map, lp]; omega
  have e2 : ((q.map D.int).length : Int) - 1 = (m : Int) := by rw [List.length_map, lq]; omega
  have e3 : (k : Int) * (m : Int) + 1 = ((k * m + 1 : Nat) : Int) := by push_cast; rfl
  have ei : evI (C (n + 2)) true (.rng1 (.bin .add (.bin .mul (.bin .sub (.bi .len (.var 0)) (.const (.int (1)))) (.bin .sub (.bi .len (.var 1)) (.const (.int (1))))) (.const (.int (1))))) [.val (Ip p), .val (Ip q), .non] S = some ((List.range (k * m + 1)).map fun k : Nat => D.int (k : Int), S) := by
    simp only [evI, evE, List.getElem?_cons_zero, List.getElem?_cons_succ, biR, Rv.seq, binR, binI, Option.map_some, e1, e2, if_pos hm, e3]
    rw [if_pos (by omega), Int.toNat_natCast]
  rcases for_find (n := n + 2) (pt := .nm 2) (b := faB) (S := S) (t := apD p q) (inv := fun σ => ∃ o, σ = [.val (Ip p), .val (Ip q), o]) ((List.range (k * m + 1)).map fun k : Nat => D.int (k : Int)) [.val (Ip p), .val (Ip q), .non] (by
      rintro d hd σ ⟨o, rfl⟩
      obtain ⟨x, hx, rfl⟩ := List.mem_map.mp hd
      have hx := List.mem_range.mp hx
      have b := fa_body (n := n) (S := S) hp hq (k := x) (by omega) (o := o)
      have e : apD p q (.int (x : Int)) = ap p q x := by simp [apD]
      rw [e]
      exact ⟨b.1, fun h => ⟨_, b.2 h, _, rfl⟩⟩) ⟨_, rfl⟩ with ⟨d, f1, f2⟩ | ⟨f1, σ', f2, o, rfl⟩
  · rw [find_map] at f1
    have hf := for_of ei f2
    cases e : (List.range (k * m + 1)).find? (ap p q) with
    | none => rw [e] at f1; cases f1
    | some x =>
      rw [e] at f1
      cases f1
      have : firstD p q (k * m + 1) = .int (x : Int) := by unfold firstD; rw [e]
      rw [this]
      exact st_ret (fz := []) (r := .cons [] (.ret (.const .non)) .nil) (σ := [.val (Ip p), .val (Ip q), .non]) rfl hf
  · rw [find_map] at f1
    have hf := for_of ei f2
    have e : (List.range (k * m + 1)).find? (ap p q) = none := by
      cases e : (List.range (k * m + 1)).find? (ap p q) with
      | none => rfl
      | some x => rw [e] at f1; cases f1
    have : firstD p q (k * m + 1) = .non := by unfold firstD; rw [e]
    rw [this]
    have t2 := st_ret (c := C (n + 2)) (S := S) (fz := []) (r := .nil) (σ := [.val (Ip p), .val (Ip q), o]) rfl (ex_ret (e := .const .non) rfl rfl)
    exact (st_nx (fz := []) (r := .cons [] (.ret (.const .non)) .nil) (σ := [.val (Ip p), .val (Ip q), .non]) rfl hf).trans t2
end K53
end

section
set_option maxHeartbeats 0
set_option Elab.async false
set_option linter.all false
set_option maxRecDepth 100000
namespace K53
open PySem L2 Co
abbrev duT : CT := .tr (.cmp .ne (.call 30 (.cons (.var 0) (.cons (.call 30 (.cons (.var 1) (.cons (.var 2) .nil))) .nil))) (.call 30 (.cons (.var 1) (.cons (.call 30 (.cons (.var 0) (.cons (.var 2) .nil))) .nil))))
theorem filt_head (p q : List Int) : ∀ l : List Nat, ((l.map fun k : Nat => D.int (k : Int)).filter (apD p q)).head? = (l.find? (ap p q)).map fun k : Nat => D.int (k : Int)
  | [] => rfl
  | k :: l => by
    rw [List.map_cons, List.filter_cons, List.find?_cons]
    have e : apD p q (.int (k : Int)) = ap p q k := by simp [apD]
    rw [e]
    cases ap p q k with
    | true => rfl
    | false => exact filt_head p q l
theorem q35 {n : Nat} {S : Store} {p q : List Int} (hp : Good p) (hq : Good q) {k m : Nat} (lp : p.length = k + 1) (lq : q.length = m + 1) (h60 : k * m + 1 ≤ 60) (h1 : p.length * (q.length + 1) + q.length ≤ 190) (h2 : q.length * (p.length + 1) + p.length ≤ 190) :
    callN L.prg (n + 7) 35 [Ip p, Ip q] S = some (dueD p q, S) := by
  refine call_ret (d := d35) rfl rfl ?_
  have a1 : (C (n + 6)).call 33 [Ip p, Ip q] S = some (.bl (decide (afterP p q = afterP q p)), S) := by rw [cC]; exact q33 hp hq h1 h2
  have et : evT (C (n + 6)) (.tr (.call 33 (.cons (.var 0) (.cons (.var 1) .nil)))) [.val (Ip p), .val (Ip q), .non] S = some (decide (afterP p q = afterP q p), S) := ev_tr (ev_call2 (ev_v rfl) rfl (ev_v rfl) rfl a1) rfl
  by_cases h : afterP p q = afterP q p
  · rw [decide_eq_true h] at et
    rw [due_none h]
    refine st_ret (fz := [0, 1]) (σ := [.val (Ip p), .val (Ip q), .non]) (s := .ifs (.tr (.call 33 (.cons (.var 0) (.cons (.var 1) .nil)))) (.cons [] (.ret (.const .non)) .nil) .nil) rfl (ex_ifT et ?_)
    exact st_ret rfl (ex_ret (e := .const .non) rfl rfl)
  · rw [decide_eq_false h] at et
    obtain ⟨x, hx, hd⟩ := due_some lp lq h60 h
    rw [hd]
    have hf : evE (C (n + 6)) (.lc (.nm 2) [2] (.rng1 (.const (.int (60)))) duT (.var 2)) [.val (Ip p), .val (Ip q), .non] S = some (.fr (((List.range 60).map fun k : Nat => D.int (k : Int)).filter (apD p q)), S) := by
      have ei : evI (C (n + 6)) false (.rng1 (.const (.int 60))) [.val (Ip p), .val (Ip q), .non] S = some ((List.range 60).map fun k : Nat => D.int (k : Int), S) := by
        simp only [evI, evE]; rw [if_pos (by decide)]; rfl
      simp only [evE, ei]
      rw [lc_filter (t := apD p q)]
      · simp
      · intro d hd
        obtain ⟨y, hy, rfl⟩ := List.mem_map.mp hd
        have hy := List.mem_range.mp hy
        have e : apD p q (.int (y : Int)) = ap p q y := by simp [apD]
        have en := ne_ev (n := n + 2) (S := S) (σ := [.val (Ip p), .val (Ip q), .val (.int (y : Int))]) hp hq hy rfl rfl rfl
        have ea : (Pat.nm 2).asg (.int (y : Int)) (wipeE [.val (Ip p), .val (Ip q), .non] [2]) = some [.val (Ip p), .val (Ip q), .val (.int (y : Int))] := rfl
        rw [e]
        simp only [ea]
        rw [show n + 6 = n + 2 + 4 from rfl, en]
        cases ap p q y with
        | true => rfl
        | false => rfl
      · exact sz100 (by simp)
    have ex : evE (C (n + 6)) (.idx (.lc (.nm 2) [2] (.rng1 (.const (.int (60)))) duT (.var 2)) (.const (.int 0))) [.val (Ip p), .val (Ip q), .non] S = some (.fz (.int (x : Int)), S) := by
      have hh := filt_head p q (List.range 60)
      rw [hx] at hh
      rw [evE, hf]
      simp only [evE, idxR, Rv.seq]
      generalize ((List.range 60).map fun k : Nat => D.int (k : Int)).filter (apD p q) = w at hh
      cases w with
      | nil => cases hh
      | cons d w =>
        simp only [List.head?_cons, Option.map_some, Option.some.injEq] at hh
        subst hh
        simp [atI, ixN]
    refine (st_nx (fz := [0, 1]) (σ := [.val (Ip p), .val (Ip q), .non]) (s := .ifs (.tr (.call 33 (.cons (.var 0) (.cons (.var 1) .nil)))) (.cons [] (.ret (.const .non)) .nil) .nil) rfl (ex_ifF et rfl)).trans ?_
    exact st_ret rfl (ex_ret ex rfl)

/-! ### the checker's gates -/
theorem all_true : ∀ p : List Int, boolsOf (p.map fun _ => D.bl true) = some (p.map fun _ => true)
  | [] => rfl
  | a :: p => by rw [List.map_cons, boolsOf, all_true p]; rfl
theorem last_ev {p : List Int} {k : Nat} (lp : p.length = k + 1) : atI (p.map D.int) (-1) = some (.int ((p[k]?).getD 0)) := by
  have hk : k < p.length := by omega
  unfold atI ixN
  rw [List.length_map, lp]
  have h1 : (1 : Int) ≤ (k : Int) + 1 := by omega
  have h2 : (-1 + ((k : Int) + 1)).toNat = k := by omega
  simp [hk, h1, h2]
theorem q9 {n : Nat} {S : Store} {p : List Int} {k : Nat} (lp : p.length = k + 1) (tp : Tidy p) (hk : k < 60) : callN L.prg (n + 3) 9 [Ip p] S = some (.bl true, S) := by
  refine call_ret (d := d9) rfl rfl ?_
  show exB (C (n + 2)) b9 [.val (Ip p), .non] S = _
  have c1 : ∀ (v : Int) S, callN L.prg (n + 2) 1 [.int v] S = some (.bl true, S) := fun v S => q1
  have hl : evE (C (n + 2)) (.lc (.nm 1) [1] (.seq (.var 0)) .yes (.call 1 (.cons (.var 1) .nil))) [.val (Ip p), .non] S = some (.fr (p.map fun _ => D.bl true), S) := by
    simp only [evE, evI, List.getElem?_cons_zero, Rv.seqB, Rv.seq]
    rw [lc_pure (gg := fun _ => .bl true)]
    · simp
    · intro d hd
      obtain ⟨a, _, rfl⟩ := List.mem_map.mp hd
      simp [Pat.asg, wipeE, evT, evE, evA, Rv.d, c1]
    · exact sz100 (by simp; omega)
  have ha : evE (C (n + 2)) (.bi .all (.lc (.nm 1) [1] (.seq (.var 0)) .yes (.call 1 (.cons (.var 1) .nil)))) [.val (Ip p), .non] S = some (.fz (.bl true), S) := by
    have e : (p.map fun _ => true).all id = true := by simp
    rw [evE, hl]
    simp only [biR, Rv.lseq, all_true, Option.map_some, e]
  have hg : evE (C (n + 2)) (.cmp .gt (.bi .len (.var 0)) (.glob 0)) [.val (Ip p), .non] S = some (.fz (.bl false), S) := by
    have g0 : L.globs[0]? = some (.int 65) := rfl
    simp only [evE, List.getElem?_cons_zero, biR, Rv.seq, cG, g0, cmpS, neIns, Bool.false_eq_true, if_false, cmpR, List.length_map, lp]
    rw [decide_eq_false (by omega)]
  have e1 : exS (C (n + 2)) (.ifs (.or (.not (.tr (.isi (.var 0) [.tuple]))) (.or (.tr (.cmp .gt (.bi .len (.var 0)) (.glob 0))) (.not (.tr (.bi .all (.lc (.nm 1) [1] (.seq (.var 0)) .yes (.call 1 (.cons (.var 1) .nil)))))))) (.cons [] (.ret (.const (.bl false))) .nil) .nil) [.val (Ip p), .non] S = some (.nx [.val (Ip p), .non] S) := by
    refine ex_ifF ?_ rfl
    have i1 : evE (C (n + 2)) (.isi (.var 0) [.tuple]) [.val (Ip p), .non] S = some (.fz (.bl true), S) := by simp [evE, isTys, isTy]
    simp only [evT, i1, hg, ha, truR, Bool.not_true]
  have e2 : evE (C (n + 2)) (.orV (.cmp .eq (.var 0) (.tup .nil)) (.cmp .ne (.idx (.var 0) (.neg (.const (.int (1))))) (.const (.int (0))))) [.val (Ip p), .non] S = some (.fz (.bl true), S) := by
    have z0 : ([] : List D).length ≤ sizeLine := Nat.zero_le _
    have t0 : evE (C (n + 2)) (.tup .nil) [.val (Ip p), .non] S = some (.fz (.tup []), S) := by simp only [evE, evA]; rw [if_pos z0]
    have hne : p ≠ [] := fun e => by rw [e] at lp; simp at lp
    have i1 : evE (C (n + 2)) (.cmp .eq (.var 0) (.tup .nil)) [.val (Ip p), .non] S = some (.fz (.bl false), S) := by
      refine ev_cmp (ev_v rfl) t0 ?_
      simp only [cmpS, neIns, Bool.false_eq_true, if_false, cmpR, Rv.tree]
      have := eqIp p []
      rw [decide_eq_false hne] at this
      exact this
    have hv : (p[k]?).getD 0 ≠ 0 := by
      have h := tp k lp
      have hk : k < p.length := by omega
      rw [List.getElem?_eq_getElem hk] at h ⊢
      simpa using h
    have i2 : evE (C (n + 2)) (.cmp .ne (.idx (.var 0) (.neg (.const (.int (1))))) (.const (.int (0)))) [.val (Ip p), .non] S = some (.fz (.bl true), S) := by
      have i3 : evE (C (n + 2)) (.idx (.var 0) (.neg (.const (.int (1))))) [.val (Ip p), .non] S = some (.fz (.int ((p[k]?).getD 0)), S) := by
        simp only [evE, List.getElem?_cons_zero, idxR, Rv.seq]
        rw [last_ev lp]
      refine ev_cmp i3 rfl ?_
      simp only [cmpS, neIns, Bool.false_eq_true, if_false, cmpR, Rv.tree, eqI, Option.map_some]
      rw [decide_eq_false hv]
      rfl
    rw [evE, i1]
    exact i2
  exact (st_nx (fz := []) (σ := [.val (Ip p), .non]) rfl e1).trans (st_ret rfl (ex_ret e2 rfl))
theorem q10 {n : Nat} {S : Store} {p : List Int} {k : Nat} (w : D) (lp : p.length = k + 1) (tp : Tidy p) (hk : k < 60) : callN L.prg (n + 4) 10 [Ip p, w] S = some (Ip p, S) := by
  refine call_ret (d := d10) rfl rfl ?_
  have a1 : (C (n + 3)).call 7 [Ip p] S = some (.bl true, S) := by rw [cC]; exact q7
  have a2 : (C (n + 3)).call 9 [Ip p] S = some (.bl true, S) := by rw [cC]; exact q9 lp tp hk
  have e1 : exS (C (n + 3)) (.set 2 (.ite (.tr (.call 7 (.cons (.var 0) .nil))) (.bi .tuple (.var 0)) (.var 0))) [.val (Ip p), .val w, .non] S = some (.nx [.val (Ip p), .val w, .val (Ip p)] S) := by
    have t1 : evT (C (n + 3)) (.tr (.call 7 (.cons (.var 0) .nil))) [.val (Ip p), .val w, .non] S = some (true, S) := ev_tr (ev_call1 (ev_v rfl) rfl a1) rfl
    have t2 : evE (C (n + 3)) (.ite (.tr (.call 7 (.cons (.var 0) .nil))) (.bi .tuple (.var 0)) (.var 0)) [.val (Ip p), .val w, .non] S = some (.fz (Ip p), S) := by
      rw [evE, t1]; rfl
    exact ex_set t2 rfl
  have t3 : evT (C (n + 3)) (.not (.tr (.call 9 (.cons (.var 2) .nil)))) [.val (Ip p), .val w, .val (Ip p)] S = some (false, S) := by
    have t1 : evT (C (n + 3)) (.tr (.call 9 (.cons (.var 2) .nil))) [.val (Ip p), .val w, .val (Ip p)] S = some (true, S) := ev_tr (ev_call1 (ev_v rfl) rfl a2) rfl
    rw [evT, t1]; rfl
  have u3 := st_ret (c := C (n + 3)) (S := S) (fz := [2]) (r := .nil) (σ := [.val (Ip p), .val w, .val (Ip p)]) rfl (ex_ret (ev_v (i := 2) rfl) rfl)
  have u2 := (st_nx (fz := [2]) (r := .cons [2] (.ret (.var 2)) .nil) (σ := [.val (Ip p), .val w, .val (Ip p)]) rfl (ex_ifF (a := .cons [] .never .nil) (b := .nil) t3 rfl)).trans u3
  exact (st_nx (fz := [0, 0]) (σ := [.val (Ip p), .val w, .non]) rfl e1).trans u2
end K53
end

section
set_option maxHeartbeats 0
set_option Elab.async false
set_option linter.all false
set_option maxRecDepth 100000
namespace K53
open PySem L2 Co
theorem q12 {n : Nat} {S : Store} {p : List Int} {k : Nat} (w : D) (lp : p.length = k + 1) (tp : Tidy p) (hk : k < 36) (h2 : 2 ≤ k) : callN L.prg (n + 5) 12 [Ip p, w] S = some (Ip p, S) := by
  refine call_ret (d := d12) rfl rfl ?_
  have a1 : (C (n + 4)).call 10 [Ip p, w] S = some (Ip p, S) := by rw [cC]; exact q10 w lp tp (by omega)
  have e1 : exS (C (n + 4)) (.set 2 (.call 10 (.cons (.var 0) (.cons (.var 1) .nil)))) [.val (Ip p), .val w, .non] S = some (.nx [.val (Ip p), .val w, .val (Ip p)] S) := ex_set (ev_call2 (ev_v rfl) rfl (ev_v rfl) rfl a1) rfl
  have t3 : evT (C (n + 4)) (.not (.tr (.chain .le .le (.const (.int (3))) (.bi .len (.var 2)) (.glob 1)))) [.val (Ip p), .val w, .val (Ip p)] S = some (false, S) := by
    have g0 : L.globs[1]? = some (.int 37) := rfl
    have d1 : decide ((3 : Int) ≤ ((k + 1 : Nat) : Int)) = true := decide_eq_true (by omega)
    have d2 : decide (((k + 1 : Nat) : Int) ≤ 37) = true := decide_eq_true (by omega)
    simp only [evT, evE, List.getElem?_cons_zero, List.getElem?_cons_succ, biR, Rv.seq, cG, g0, cmpR, List.length_map, lp, d1, d2, truR, Bool.not_true]
  have u3 := st_ret (c := C (n + 4)) (S := S) (fz := [2]) (r := .nil) (σ := [.val (Ip p), .val w, .val (Ip p)]) rfl (ex_ret (ev_v (i := 2) rfl) rfl)
  have u2 := (st_nx (fz := []) (r := .cons [2] (.ret (.var 2)) .nil) (σ := [.val (Ip p), .val w, .val (Ip p)]) rfl (ex_ifF (a := .cons [] .never .nil) (b := .nil) t3 rfl)).trans u3
  exact (st_nx (fz := [0, 1]) (σ := [.val (Ip p), .val w, .non]) rfl e1).trans u2
theorem q15 {n : Nat} {S : Store} {p q : List Int} (hp : Good p) (hq : Good q) {k m : Nat} (lp : p.length = k + 1) (lq : q.length = m + 1) (h60 : k * m + 1 ≤ 60) (hk : k < 36) (hm : m < 36) (hk2 : 2 ≤ k) (hm2 : 2 ≤ m) (tp : Tidy p) (tq : Tidy q) :
    callN L.prg (n + 6) 15 [Ip p, Ip q] S = some (dueD p q, S) := by
  refine call_ret (d := d15) rfl rfl ?_
  have a1 : (C (n + 5)).call 12 [Ip p, .str "one"] S = some (Ip p, S) := by rw [cC]; exact q12 _ lp tp hk hk2
  have a2 : (C (n + 5)).call 12 [Ip q, .str "other"] S = some (Ip q, S) := by rw [cC]; exact q12 _ lq tq hm hm2
  have a3 : (C (n + 5)).call 14 [Ip p, Ip q] S = some (dueD p q, S) := by rw [cC]; exact q14 (n := n + 2) hp hq lp lq h60 (by omega)
  have e1 : exS (C (n + 5)) (.set 2 (.call 12 (.cons (.var 0) (.cons (.const (.str "one")) .nil)))) [.val (Ip p), .val (Ip q), .non, .non, .non] S = some (.nx [.val (Ip p), .val (Ip q), .val (Ip p), .non, .non] S) := ex_set (ev_call2 (ev_v rfl) rfl (x' := .fz (.str "one")) (S2 := S) rfl rfl a1) rfl
  have e2 : exS (C (n + 5)) (.set 3 (.call 12 (.cons (.var 1) (.cons (.const (.str "other")) .nil)))) [.val (Ip p), .val (Ip q), .val (Ip p), .non, .non] S = some (.nx [.val (Ip p), .val (Ip q), .val (Ip p), .val (Ip q), .non] S) := ex_set (ev_call2 (ev_v rfl) rfl (x' := .fz (.str "other")) (S2 := S) rfl rfl a2) rfl
  have hmul : IntMulOk (k : Int) (m : Int) := .of_left (intBits_le_64 (by omega) (by omega))
  have f1 : ((p.map D.int).length : Int) - 1 = (k : Int) := by rw [List.length_map, lp]; omega
  have f2 : ((q.map D.int).length : Int) - 1 = (m : Int) := by rw [List.length_map, lq]; omega
  have e3 : exS (C (n + 5)) (.set 4 (.bin .mul (.bin .sub (.bi .len (.var 2)) (.const (.int (1)))) (.bin .sub (.bi .len (.var 3)) (.const (.int (1)))))) [.val (Ip p), .val (Ip q), .val (Ip p), .val (Ip q), .non] S = some (.nx [.val (Ip p), .val (Ip q), .val (Ip p), .val (Ip q), .val (.int ((k : Int) * (m : Int)))] S) := by
    refine ex_set (x := .fz (.int ((k : Int) * (m : Int)))) (S1 := S) ?_ rfl
    simp only [evE, List.getElem?_cons_zero, List.getElem?_cons_succ, biR, Rv.seq, binR, binI, Option.map_some, f1, f2, if_pos hmul]
  have t3 : evT (C (n + 5)) (.tr (.cmp .gt (.var 4) (.glob 2))) [.val (Ip p), .val (Ip q), .val (Ip p), .val (Ip q), .val (.int ((k : Int) * (m : Int)))] S = some (false, S) := by
    have g0 : L.globs[2]? = some (.int 400) := rfl
    have h4 : (k : Int) * (m : Int) = ((k * m : Nat) : Int) := by push_cast; rfl
    have d1 : decide ((400 : Int) < (k : Int) * (m : Int)) = false := decide_eq_false (by rw [h4]; omega)
    simp only [evT, evE, List.getElem?_cons_zero, List.getElem?_cons_succ, cG, g0, cmpS, neIns, Bool.false_eq_true, if_false, cmpR, d1, truR]
  have e5 : exS (C (n + 5)) (.ret (.call 14 (.cons (.var 2) (.cons (.var 3) .nil)))) [.val (Ip p), .val (Ip q), .val (Ip p), .val (Ip q), .val (.int ((k : Int) * (m : Int)))] S = some (.ret (dueD p q) S) := ex_ret (ev_call2 (ev_v rfl) rfl (ev_v rfl) rfl a3) rfl
  have u5 := st_ret (fz := [2, 3]) (r := .nil) (σ := [.val (Ip p), .val (Ip q), .val (Ip p), .val (Ip q), .val (.int ((k : Int) * (m : Int)))]) rfl e5
  have u4 := (st_nx (fz := []) (σ := [.val (Ip p), .val (Ip q), .val (Ip p), .val (Ip q), .val (.int ((k : Int) * (m : Int)))]) rfl (ex_ifF (a := .cons [] .never .nil) (b := .nil) t3 rfl)).trans u5
  have u3 := (st_nx (fz := []) (σ := [.val (Ip p), .val (Ip q), .val (Ip p), .val (Ip q), .non]) rfl e3).trans u4
  have u2 := (st_nx (fz := [1]) (σ := [.val (Ip p), .val (Ip q), .val (Ip p), .non, .non]) rfl e2).trans u3
  exact (st_nx (fz := [0]) (σ := [.val (Ip p), .val (Ip q), .non, .non, .non]) rfl e1).trans u2

/-! ### together_holds -/
theorem dueD_kind (p q : List Int) : dueD p q = .non ∨ ∃ x : Nat, dueD p q = .int (x : Int) := by
  unfold dueD
  cases (List.range 60).find? (ap p q) with
  | none => exact .inl rfl
  | some x => exact .inr ⟨x, rfl⟩
/-- a value against a number: same_told, due an int -/
def sameI (x : Int) : D → Bool
  | .int i => decide (i = x)
  | _ => false
theorem q8 {n : Nat} {S : Store} {x : Int} {d : D} (hd : d = .non ∨ (∃ i, d = .int i) ∨ (∃ b, d = .bl b) ∨ (∃ s, d = .str s) ∨ ∃ l, d = .tup l) : callN L.prg (n + 2) 8 [.int x, d] S = some (.bl (sameI x d), S) := by
  refine call_ret (d := d8) rfl rfl ?_
  show exB (C (n + 1)) b8 [.val (.int x), .val d, .non, .non] S = _
  have c0 : callN L.prg (n + 1) 0 [.int x] S = some (.bl true, S) := q0
  rcases hd with rfl | ⟨i, rfl⟩ | ⟨b, rfl⟩ | ⟨s, rfl⟩ | ⟨l, rfl⟩
  · have c1 : callN L.prg (n + 1) 0 [.non] S = some (.bl false, S) := by
      refine call_ret (d := d0) rfl rfl ?_
      show exB (C n) b0 [.val .non] S = _
      simp [b0, exB, exS, evE, frz, isTys, isTy, Rv.d]
    simp [b8, exB, exS, evE, evT, evA, frz, isTys, isTy, Rv.d, truR, c0, c1, sameI]
  · have c1 : callN L.prg (n + 1) 0 [.int i] S = some (.bl true, S) := q0
    simp [b8, exB, exS, evE, evT, evA, frz, isTys, isTy, Rv.d, truR, c0, c1, sameI, cmpS, neIns, cmpR, Rv.tree, eqI]
  · simp [b8, exB, exS, evE, evT, evA, frz, isTys, isTy, Rv.d, truR, sameI]
  · have c1 : callN L.prg (n + 1) 0 [.str s] S = some (.bl false, S) := by
      refine call_ret (d := d0) rfl rfl ?_
      show exB (C n) b0 [.val (.str s)] S = _
      simp [b0, exB, exS, evE, frz, isTys, isTy, Rv.d]
    simp [b8, exB, exS, evE, evT, evA, frz, isTys, isTy, Rv.d, truR, c0, c1, sameI]
  · have c1 : callN L.prg (n + 1) 0 [.tup l] S = some (.bl false, S) := by
      refine call_ret (d := d0) rfl rfl ?_
      show exB (C n) b0 [.val (.tup l)] S = _
      simp [b0, exB, exS, evE, frz, isTys, isTy, Rv.d]
    simp [b8, exB, exS, evE, evT, evA, frz, isTys, isTy, Rv.d, truR, c0, c1, sameI]
end K53
end

section
set_option maxHeartbeats 0
set_option Elab.async false
set_option linter.all false
set_option maxRecDepth 100000
namespace K53
open PySem L2 Co
/-- no list, no object -/
def Atom (d : D) : Prop := d = .non ∨ (∃ i, d = .int i) ∨ (∃ b, d = .bl b) ∨ (∃ s, d = .str s)
theorem q6a {n : Nat} {S : Store} {d : D} (h : Atom d) : callN L.prg (n + 1) 6 [d] S = some (d, S) := by
  refine call_ret (d := d6) rfl rfl ?_
  show exB (C n) b6 [.val d, .non] S = _
  rcases h with rfl | ⟨i, rfl⟩ | ⟨b, rfl⟩ | ⟨s, rfl⟩ <;> simp [b6, exB, exS, evE, evT, frz, isTys, isTy, Rv.d, truR]
theorem q6t {n : Nat} {S : Store} {d : D} {l l' : List D} (hd : d = .tup l ∨ d = .lst l) (hz : l.length ≤ 1000) (gg : D → D) (h : ∀ e ∈ l, callN L.prg n 6 [e] S = some (gg e, S)) : callN L.prg (n + 1) 6 [d] S = some (.tup (l.map gg), S) := by
  refine call_ret (d := d6) rfl rfl ?_
  show exB (C n) b6 [.val d, .non] S = _
  have hl : evE (C n) (.lc (.nm 1) [1] (.seq (.var 0)) .yes (.call 6 (.cons (.var 1) .nil))) [.val d, .non] S = some (.fr (l.map gg), S) := by
    have hs : (Rv.fz d).seqB false = some l := by rcases hd with rfl | rfl <;> rfl
    simp only [evE, evI, List.getElem?_cons_zero, hs]
    rw [lc_pure (gg := gg)]
    · simp
    · intro e he
      have := h e he
      simp [Pat.asg, wipeE, evT, evE, evA, Rv.d, this]
    · exact sz100 (by simp; omega)
  have ht : evT (C n) (.tr (.isi (.var 0) [.list, .tuple])) [.val d, .non] S = some (true, S) := by
    rcases hd with rfl | rfl <;> simp [evT, evE, isTys, isTy, truR]
  have hb : evE (C n) (.bi .tuple (.lc (.nm 1) [1] (.seq (.var 0)) .yes (.call 6 (.cons (.var 1) .nil)))) [.val d, .non] S = some (.fz (.tup (l.map gg)), S) := by
    rw [evE, hl]; rfl
  exact st_ret (fz := []) (σ := [.val d, .non]) rfl (ex_ifT ht (st_ret (fz := []) (σ := [.val d, .non]) rfl (ex_ret hb rfl)))
theorem ex_fset {c : Co.Ctx} {o e : CE} {f : Str} {σ : Co.Env} {S S1 S2 : Store} {x : Rv} {d : D} {i k : Nat} {fs : List (Str × D)} (h1 : evE c e σ S = some (x, S1)) (hd : x.d = some d) (h2 : evE c o σ S1 = some (.fz (.obj i), S2)) (h3 : S2[i]? = some (.ins k fs)) (hz : fs.length < 1000) :
    exS c (.fset o f e) σ S = some (.nx σ (S2.set i (.ins k (setF f d fs)))) := by simp only [exS, h1, hd, h2, h3, if_pos hz]
/-- Apart(number) -/
theorem mk1 {n : Nat} {S : Store} {σ : Co.Env} {e : CE} {x : Rv} {d d' : D} (he : evE (C (n + 1)) e σ S = some (x, S)) (hd : x.d = some d) (h6 : ∀ S, callN L.prg n 6 [d] S = some (d', S)) :
    evE (C (n + 1)) (.mk 1 (.cons e .nil)) σ S = some (.fz (.obj S.length), S ++ [.ins 1 [("number", d')]]) := by
  have hc : (C (n + 1)).call 13 [.obj S.length, d] (S ++ [.ins 1 []]) = some (.non, S ++ [.ins 1 [("number", d')]]) := by
    rw [cC]
    have e6 : evE (C n) (.call 6 (.cons (.var 1) .nil)) [.val (.obj S.length), .val d] (S ++ [.ins 1 []]) = some (.fz d', S ++ [.ins 1 []]) := ev_call1 (ev_v rfl) rfl (by rw [cC]; exact h6 _)
    have hs : (S ++ [Ob.ins 1 []])[S.length]? = some (.ins 1 []) := by simp
    have ef : exS (C n) (.fset (.var 0) "number" (.call 6 (.cons (.var 1) .nil))) [.val (.obj S.length), .val d] (S ++ [.ins 1 []]) = some (.nx [.val (.obj S.length), .val d] (S ++ [.ins 1 [("number", d')]])) := by
      have h := ex_fset (f := "number") e6 rfl (ev_v (i := 0) rfl) hs (by decide)
      rw [h]
      simp [setF]
    exact call_non (d := d13) rfl rfl ((st_nx (fz := [1]) (r := .nil) (σ := [.val (.obj S.length), .val d]) rfl ef).trans rfl)
  have hi : (C (n + 1)).inits[1]? = some (some 13) := rfl
  simp only [evE, evA, he, hd, hi, hc]
/-- Together() -/
theorem mk0 {n : Nat} {S : Store} {σ : Co.Env} : evE (C n) (.mk 0 .nil) σ S = some (.fz (.obj S.length), S ++ [.ins 0 []]) := by
  have hi : (C n).inits[0]? = some none := rfl
  simp only [evE, evA, hi, if_true]
/-- together_holds -/
structure TwoOk (p q : List Int) : Prop where
  gp : Good p
  gq : Good q
  tp : Tidy p
  tq : Tidy q
  ln : ∃ k m, p.length = k + 1 ∧ q.length = m + 1 ∧ k * m + 1 ≤ 60 ∧ k < 36 ∧ m < 36 ∧ 2 ≤ k ∧ 2 ≤ m
theorem q16s {n : Nat} {S : Store} {p q : List Int} (ok : TwoOk p q) (v : D) : exB (C (n + 6)) b16 [.val (Ip p), .val (Ip q), .val v, .non] S = exB (C (n + 6)) (.cons [] (.ifs (.tr (.cmp .is (.var 3) (.const .non))) (.cons [] (.ret (.isi (.var 2) [.own 0])) .nil) .nil) (.cons [3] (.ret (.andV (.isi (.var 2) [.own 1]) (.call 8 (.cons (.var 3) (.cons (.attr (.var 2) "number") .nil))))) .nil)) [.val (Ip p), .val (Ip q), .val v, .val (dueD p q)] S := by
  obtain ⟨k, m, lp, lq, h60, hk, hm, hk2, hm2⟩ := ok.ln
  have a1 : (C (n + 6)).call 15 [Ip p, Ip q] S = some (dueD p q, S) := by rw [cC]; exact q15 ok.gp ok.gq lp lq h60 hk hm hk2 hm2 ok.tp ok.tq
  exact st_nx (fz := [0, 1]) (σ := [.val (Ip p), .val (Ip q), .val v, .non]) rfl (ex_set (ev_call2 (ev_v rfl) rfl (ev_v rfl) rfl a1) rfl)
theorem q16n {n : Nat} {S : Store} {p q : List Int} (ok : TwoOk p q) {v : D} {b0 b1 : Bool} (h0 : isTy S (.fz v) (.own 0) = some b0) (h1 : isTy S (.fz v) (.own 1) = some b1) (hn : dueD p q = .non ∨ b1 = false) :
    callN L.prg (n + 7) 16 [Ip p, Ip q, v] S = some (.bl (match dueD p q with | .non => b0 | _ => false), S) := by
  refine call_ret (d := d16) rfl rfl ?_
  refine (q16s ok v).trans ?_
  have i0 : isTys S (.fz v) [.own 0] = some b0 := by simp [isTys, h0]
  have i1 : isTys S (.fz v) [.own 1] = some b1 := by simp [isTys, h1]
  rcases dueD_kind p q with e | ⟨x, e⟩
  · simp [e, exB, exS, evE, evT, frz, Rv.d, truR, cmpS, neIns, cmpR, Co.isNon, i0]
  · have hb : b1 = false := hn.resolve_left (by rw [e]; exact fun z => nomatch z)
    subst hb
    simp [e, exB, exS, evE, evT, frz, Rv.d, truR, cmpS, neIns, cmpR, Co.isNon, i1]
theorem q16a {n : Nat} {S : Store} {p q : List Int} (ok : TwoOk p q) {i : Nat} {d : D} (hi : S[i]? = some (.ins 1 [("number", d)])) (hd : d = .non ∨ (∃ i, d = .int i) ∨ (∃ b, d = .bl b) ∨ (∃ s, d = .str s) ∨ ∃ l, d = .tup l) :
    callN L.prg (n + 7) 16 [Ip p, Ip q, .obj i] S = some (.bl (match dueD p q with | .int x => sameI x d | _ => false), S) := by
  have h0 : isTy S (.fz (.obj i)) (.own 0) = some false := by simp [isTy, hi]
  have h1 : isTy S (.fz (.obj i)) (.own 1) = some true := by simp [isTy, hi]
  rcases dueD_kind p q with e | ⟨x, e⟩
  · rw [q16n ok h0 h1 (.inl e), e]
  · refine call_ret (d := d16) rfl rfl ?_
    refine (q16s ok _).trans ?_
    have i1 : isTys S (.fz (.obj i)) [.own 1] = some true := by simp [isTys, h1]
    have c8 : callN L.prg (n + 6) 8 [.int (x : Int), d] S = some (.bl (sameI x d), S) := q8 (n := n + 4) hd
    have hl : List.lookup ("number" : Str) [(("number" : Str), d)] = some d := by simp
    simp [e, exB, exS, evE, evA, evT, frz, Rv.d, truR, cmpS, neIns, cmpR, Co.isNon, i1, hi, hl, c8]
theorem q20 {n : Nat} {S : Store} {x : Int} {d : D} (hd : d = .non ∨ (∃ i, d = .int i) ∨ (∃ b, d = .bl b) ∨ (∃ s, d = .str s) ∨ ∃ l, d = .tup l) : callN L.prg (n + 1) 20 [d, .int x] S = some (.bl (sameI x d), S) := by
  refine call_ret (d := d20) rfl rfl ?_
  show exB (C n) b20 [.val d, .val (.int x), .non] S = _
  rcases hd with rfl | ⟨i, rfl⟩ | ⟨b, rfl⟩ | ⟨s, rfl⟩ | ⟨l, rfl⟩ <;> simp [b20, exB, exS, evE, evT, evA, frz, isTys, isTy, Rv.d, truR, cmpS, neIns, cmpR, Co.isNon, isBl, sameI, Rv.tree, eqI]
end K53
end

section
set_option maxHeartbeats 0
set_option Elab.async false
set_option linter.all false
set_option maxRecDepth 100000
/-! K53d: the pen, draws. -/
namespace K53
open PySem L2 Co
def pn (cs : List Int) (a g c f : Int) : List (Key × D) := [(.inr "cells", .lst (cs.map D.int)), (.inr "at", .int a), (.inr "digits", .int g), (.inr "count", .int c), (.inr "fold", .int f)]
abbrev St (cs : List Int) (a g c f : Int) (R : Store) : Store := .dk (pn cs a g c f) :: R
section
variable {cs : List Int} {a g c f v : Int} {R : Store} {cx : Co.Ctx} {σ : Co.Env}
theorem k1 : ¬ (("cells" : Str) = "at") := by decide +kernel
theorem k2 : ¬ (("cells" : Str) = "digits") := by decide +kernel
theorem k3 : ¬ (("cells" : Str) = "count") := by decide +kernel
theorem k4 : ¬ (("cells" : Str) = "fold") := by decide +kernel
theorem k5 : ¬ (("at" : Str) = "digits") := by decide +kernel
theorem k6 : ¬ (("at" : Str) = "count") := by decide +kernel
theorem k7 : ¬ (("at" : Str) = "fold") := by decide +kernel
theorem k8 : ¬ (("digits" : Str) = "count") := by decide +kernel
theorem k9 : ¬ (("digits" : Str) = "fold") := by decide +kernel
theorem k10 : ¬ (("count" : Str) = "fold") := by decide +kernel
theorem l1 : lookD (pn cs a g c f) (.inr "cells") = some (.lst (cs.map D.int)) := by simp [lookD, pn]
theorem l2 : lookD (pn cs a g c f) (.inr "at") = some (.int a) := by simp [lookD, pn, k1]
theorem l3 : lookD (pn cs a g c f) (.inr "digits") = some (.int g) := by simp [lookD, pn, k2, k5]
theorem l4 : lookD (pn cs a g c f) (.inr "count") = some (.int c) := by simp [lookD, pn, k3, k6, k8]
theorem l5 : lookD (pn cs a g c f) (.inr "fold") = some (.int f) := by simp [lookD, pn, k4, k7, k9, k10]
theorem p2 : putD (pn cs a g c f) (.inr "at") (.int v) = pn cs v g c f := by
  simp [putD, pn, k1, Ne.symm k5, Ne.symm k6, Ne.symm k7]
theorem p3 : putD (pn cs a g c f) (.inr "digits") (.int v) = pn cs a v c f := by
  simp [putD, pn, k2, k5, Ne.symm k8, Ne.symm k9]
theorem p4 : putD (pn cs a g c f) (.inr "count") (.int v) = pn cs a g v f := by
  simp [putD, pn, k3, k6, k8, Ne.symm k10]
theorem p5 : putD (pn cs a g c f) (.inr "fold") (.int v) = pn cs a g c v := by
  simp [putD, pn, k4, k7, k9, k10]
theorem get_ev {k : Str} {d : D} (hσ : σ[0]? = some (.val (.obj 0))) (h : lookD (pn cs a g c f) (.inr k) = some d) : evE cx (.idx (.var 0) (.const (.str k))) σ (St cs a g c f R) = some (.fz d, St cs a g c f R) := by
  simp only [evE, hσ, idxR, List.getElem?_cons_zero, keyD, h]
theorem put_ev {k : Str} {e : CE} {kvs : List (Key × D)} (hσ : σ[0]? = some (.val (.obj 0))) (he : evE cx e σ (St cs a g c f R) = some (.fz (.int v), St cs a g c f R)) (h : putD (pn cs a g c f) (.inr k) (.int v) = kvs) : exS cx (.put 0 (.const (.str k)) e) σ (St cs a g c f R) = some (.nx σ (.dk kvs :: R)) := by
  have hz : (pn cs a g c f).length < sizeLine := Nat.lt_of_lt_of_le (show 5 < 1000 by decide) (by decide)
  simp only [exS, he, Rv.d, evE, hσ, List.getElem?_cons_zero, keyD, if_pos hz, h, List.set_cons_zero]
theorem bin_i {op : Bop} {e1 e2 : CE} {S S1 S2 : Store} {i j k : Int} (h1 : evE cx e1 σ S = some (.fz (.int i), S1)) (h2 : evE cx e2 σ S1 = some (.fz (.int j), S2)) (h : binI op i j = some k) : evE cx (.bin op e1 e2) σ S = some (.fz (.int k), S2) := by
  simp only [evE, h1, h2, binR, h, Option.map_some]
theorem int_i {e : CE} {S S1 : Store} {i : Int} (h : evE cx e σ S = some (.fz (.int i), S1)) : evE cx (.bi .int e) σ S = some (.fz (.int i), S1) := by simp only [evE, h, biR]
theorem c_i {i : Int} {S : Store} : evE cx (.const (.int i)) σ S = some (.fz (.int i), S) := rfl
theorem mulR {i j : Int} (h : Builtin.Int.intBits j ≤ 64) : binI .mul i j = some (i * j) := by simp only [binI]; rw [if_pos (.of_right h)]
theorem mulL {i j : Int} (h : Builtin.Int.intBits i ≤ 64) : binI .mul i j = some (i * j) := by simp only [binI]; rw [if_pos (.of_left h)]
theorem modI {i j : Int} (h : j ≠ 0) : binI .mod i j = some (i.fmod j) := by simp only [binI]; rw [if_pos h]
theorem cmp_i {op : Cop} {e1 e2 : CE} {S S1 S2 : Store} {i j : Int} {z : Bool} (h1 : evE cx e1 σ S = some (.fz (.int i), S1)) (h2 : evE cx e2 σ S1 = some (.fz (.int j), S2)) (h : cmpR op (.fz (.int i)) (.fz (.int j)) = some z) : evE cx (.cmp op e1 e2) σ S = some (.fz (.bl z), S2) := by
  refine ev_cmp h1 h2 ?_
  have : neIns S2 op (.fz (.int i)) (.fz (.int j)) = false := by cases op <;> rfl
  unfold cmpS
  rw [this, if_neg Bool.false_ne_true, h]
abbrev tailB : CB := .cons [] (.ifs (.tr (.cmp .gt (.idx (.var 0) (.const (.str "digits"))) (.const (.int (0))))) (.cons [] (.set 3 (.bin .mod (.bi .int (.idx (.var 0) (.const (.str "digits")))) (.var 1))) (.cons [] (.put 0 (.const (.str "digits")) (.bin .fdiv (.idx (.var 0) (.const (.str "digits"))) (.var 1))) (.cons [3] (.ret (.var 3)) .nil))) .nil) (.cons [] (.set 4 (.bin .mod (.bi .int (.bin .add (.bin .add (.bin .mul (.idx (.var 0) (.const (.str "fold"))) (.const (.int (48271)))) (.bin .mul (.idx (.var 0) (.const (.str "count"))) (.const (.int (7919))))) (.const (.int (13))))) (.const (.int (2147483647))))) (.cons [] (.set 4 (.bin .mod (.bi .int (.bin .add (.bin .add (.bin .mul (.var 4) (.var 4)) (.bin .mul (.const (.int (31))) (.var 4))) (.idx (.var 0) (.const (.str "count"))))) (.const (.int (2147483629))))) (.cons [] (.put 0 (.const (.str "fold")) (.bin .mod (.bi .int (.bin .add (.bin .mul (.var 4) (.const (.int (16807)))) (.const (.int (7))))) (.const (.int (2147483647))))) (.cons [] (.ret (.bin .mod (.bi .int (.bin .fdiv (.var 4) (.const (.int (64))))) (.var 1))) .nil))))
theorem bits_mod {i : Int} : Builtin.Int.intBits (i.fmod 2147483647) ≤ 64 := by
  have h1 := Int.fmod_nonneg_of_pos i (b := 2147483647) (by decide)
  have h2 := Int.fmod_lt_of_pos i (b := 2147483647) (by decide)
  exact intBits_le_64 (by omega) (by omega)
theorem dr_tail {n : Nat} {m : Int} {o2 : Co.Slot} (hg : 0 ≤ g) (hm : 0 < m) (hlog : m.natAbs.log2 < 9000) :
    ∃ r g' f', exB (C n) tailB [.val (.obj 0), .val (.int m), o2, .non, .non] (St cs a g c f R) = some (.ret (.int r) (St cs a g' c f' R)) ∧ 0 ≤ r ∧ r < m ∧ 0 ≤ g' := by
  have hm0 : m ≠ 0 := by omega
  have eg : evE (C n) (.idx (.var 0) (.const (.str "digits"))) [.val (.obj 0), .val (.int m), o2, .non, .non] (St cs a g c f R) = some (.fz (.int g), St cs a g c f R) := get_ev rfl l3
  by_cases h : 0 < g
  · have et : evT (C n) (.tr (.cmp .gt (.idx (.var 0) (.const (.str "digits"))) (.const (.int (0))))) [.val (.obj 0), .val (.int m), o2, .non, .non] (St cs a g c f R) = some (true, St cs a g c f R) := ev_tr (cmp_i eg c_i (z := true) (by simp [cmpR, h])) rfl
    refine ⟨g.fmod m, g.fdiv m, f, ?_, Int.fmod_nonneg_of_pos g hm, Int.fmod_lt_of_pos g hm, Int.fdiv_nonneg hg (by omega)⟩
    have e1 : exS (C n) (.set 3 (.bin .mod (.bi .int (.idx (.var 0) (.const (.str "digits")))) (.var 1))) [.val (.obj 0), .val (.int m), o2, .non, .non] (St cs a g c f R) = some (.nx [.val (.obj 0), .val (.int m), o2, .val (.int (g.fmod m)), .non] (St cs a g c f R)) := ex_set (bin_i (int_i eg) (ev_v rfl) (modI hm0)) rfl
    have eg2 : evE (C n) (.idx (.var 0) (.const (.str "digits"))) [.val (.obj 0), .val (.int m), o2, .val (.int (g.fmod m)), .non] (St cs a g c f R) = some (.fz (.int g), St cs a g c f R) := get_ev rfl l3
    have hd : binI .fdiv g m = some (g.fdiv m) := by simp only [binI]; rw [if_pos ⟨hm0, hlog⟩]
    have e2 := put_ev (k := "digits") (σ := [.val (.obj 0), .val (.int m), o2, .val (.int (g.fmod m)), .non]) rfl (bin_i eg2 (ev_v (i := 1) rfl) hd) p3
    have u3 := st_ret (c := C n) (S := St cs a (g.fdiv m) c f R) (fz := [3]) (r := .nil) (σ := [.val (.obj 0), .val (.int m), o2, .val (.int (g.fmod m)), .non]) rfl (ex_ret (ev_v (i := 3) rfl) rfl)
    have u2 := (st_nx (fz := []) (σ := [.val (.obj 0), .val (.int m), o2, .val (.int (g.fmod m)), .non]) rfl e2).trans u3
    have u1 := (st_nx (fz := []) (σ := [.val (.obj 0), .val (.int m), o2, .non, .non]) rfl e1).trans u2
    exact st_ret (fz := []) (σ := [.val (.obj 0), .val (.int m), o2, .non, .non]) rfl (ex_ifT et u1)
  · have et : evT (C n) (.tr (.cmp .gt (.idx (.var 0) (.const (.str "digits"))) (.const (.int (0))))) [.val (.obj 0), .val (.int m), o2, .non, .non] (St cs a g c f R) = some (false, St cs a g c f R) := ev_tr (cmp_i eg c_i (z := false) (by simp [cmpR]; omega)) rfl
    have ef : ∀ {o4 : Co.Slot}, evE (C n) (.idx (.var 0) (.const (.str "fold"))) [.val (.obj 0), .val (.int m), o2, .non, o4] (St cs a g c f R) = some (.fz (.int f), St cs a g c f R) := get_ev rfl l5
    have ec : ∀ {o4 : Co.Slot}, evE (C n) (.idx (.var 0) (.const (.str "count"))) [.val (.obj 0), .val (.int m), o2, .non, o4] (St cs a g c f R) = some (.fz (.int c), St cs a g c f R) := get_ev rfl l4
    have b1 := bits_mod (i := f * 48271 + c * 7919 + 13)
    have e1 := ex_set (i := 4) (bin_i (int_i (bin_i (bin_i (bin_i (ef (o4 := .non)) c_i (mulR (j := 48271) (by decide +kernel))) (bin_i ec c_i (mulR (j := 7919) (by decide +kernel))) (op := .add) rfl) c_i (op := .add) (j := 13) rfl)) c_i (modI (j := 2147483647) (by decide))) rfl
    generalize (f * 48271 + c * 7919 + 13).fmod 2147483647 = b at b1 e1
    have e2 := ex_set (i := 4) (bin_i (int_i (bin_i (bin_i (bin_i (ev_v (i := 4) (σ := [.val (.obj 0), .val (.int m), o2, .non, .val (.int b)]) (S := St cs a g c f R) (c := C n) rfl) (ev_v (i := 4) rfl) (mulR b1)) (bin_i (c_i (i := 31)) (ev_v (i := 4) rfl) (mulL (by decide +kernel))) (op := .add) rfl) ec (op := .add) rfl)) c_i (modI (j := 2147483629) (by decide))) rfl
    generalize (b * b + 31 * b + c).fmod 2147483629 = z at e2
    have e3 := put_ev (k := "fold") (σ := [.val (.obj 0), .val (.int m), o2, .non, .val (.int z)]) (cx := C n) (cs := cs) (a := a) (g := g) (c := c) (f := f) (R := R) rfl (bin_i (int_i (bin_i (bin_i (ev_v (i := 4) rfl) c_i (mulR (j := 16807) (by decide +kernel))) c_i (op := .add) (j := 7) rfl)) c_i (modI (j := 2147483647) (by decide))) p5
    have hd : binI .fdiv z 64 = some (z.fdiv 64) := by simp only [binI]; rw [if_pos (by decide +kernel)]
    have e4 : evE (C n) (.bin .mod (.bi .int (.bin .fdiv (.var 4) (.const (.int (64))))) (.var 1)) [.val (.obj 0), .val (.int m), o2, .non, .val (.int z)] (St cs a g c ((z * 16807 + 7).fmod 2147483647) R) = _ := bin_i (int_i (bin_i (ev_v (i := 4) rfl) c_i hd)) (ev_v (i := 1) rfl) (modI hm0)
    refine ⟨(z.fdiv 64).fmod m, g, (z * 16807 + 7).fmod 2147483647, ?_, Int.fmod_nonneg_of_pos _ hm, Int.fmod_lt_of_pos _ hm, hg⟩
    have u5 := st_ret (fz := []) (r := .nil) (σ := [.val (.obj 0), .val (.int m), o2, .non, .val (.int z)]) rfl (ex_ret e4 rfl)
    have u4 := (st_nx (fz := []) (σ := [.val (.obj 0), .val (.int m), o2, .non, .val (.int z)]) rfl e3).trans u5
    have u3 := (st_nx (fz := []) (σ := [.val (.obj 0), .val (.int m), o2, .non, .val (.int b)]) rfl e2).trans u4
    have u2 := (st_nx (fz := []) (σ := [.val (.obj 0), .val (.int m), o2, .non, .non]) rfl e1).trans u3
    exact (st_nx (fz := []) (σ := [.val (.obj 0), .val (.int m), o2, .non, .non]) rfl (ex_ifF et rfl)).trans u2
abbrev digB : CB := .cons [] (.put 0 (.const (.str "digits")) (.bin .sub (.var 2) (.bin .pow (.const (.int (10))) (.const (.int (18)))))) .nil
abbrev folB : CB := .cons [] (.put 0 (.const (.str "fold")) (.bin .mod (.bi .int (.bin .add (.bin .mul (.idx (.var 0) (.const (.str "fold"))) (.const (.int (69069)))) (.var 2))) (.const (.int (2147483587))))) .nil
abbrev cellB : CB := .cons [] (.set 2 (.idx (.idx (.var 0) (.const (.str "cells"))) (.idx (.var 0) (.const (.str "at"))))) (.cons [] (.put 0 (.const (.str "at")) (.bin .add (.idx (.var 0) (.const (.str "at"))) (.const (.int (1))))) (.cons [] (.ifs (.tr (.cmp .ge (.var 2) (.bin .pow (.const (.int (10))) (.const (.int (18)))))) (.cons [] (.put 0 (.const (.str "digits")) (.bin .sub (.var 2) (.bin .pow (.const (.int (10))) (.const (.int (18)))))) .nil) (.cons [] (.put 0 (.const (.str "fold")) (.bin .mod (.bi .int (.bin .add (.bin .mul (.idx (.var 0) (.const (.str "fold"))) (.const (.int (69069)))) (.var 2))) (.const (.int (2147483587))))) .nil)) .nil))
theorem dr_cell {n : Nat} {m : Int} (ha : 0 ≤ a) (hl : a < (cs.length : Int)) (hg : 0 ≤ g) : ∃ o2 a' g' f', exB (C n) cellB [.val (.obj 0), .val (.int m), .non, .non, .non] (St cs a g c f R) = some (.nx [.val (.obj 0), .val (.int m), o2, .non, .non] (St cs a' g' c f' R)) ∧ 0 ≤ a' ∧ 0 ≤ g' := by
  obtain ⟨j, rfl⟩ : ∃ j : Nat, a = (j : Int) := ⟨a.toNat, by omega⟩
  have hj : j < cs.length := by omega
  have e1 : exS (C n) (.set 2 (.idx (.idx (.var 0) (.const (.str "cells"))) (.idx (.var 0) (.const (.str "at"))))) [.val (.obj 0), .val (.int m), .non, .non, .non] (St cs j g c f R) = some (.nx [.val (.obj 0), .val (.int m), .val (.int cs[j]), .non, .non] (St cs j g c f R)) := by
    refine ex_set (x := .fz (.int cs[j])) (S1 := St cs j g c f R) ?_ rfl
    have x1 : evE (C n) (.idx (.var 0) (.const (.str "cells"))) [.val (.obj 0), .val (.int m), .non, .non, .non] (St cs j g c f R) = some (.fz (.lst (cs.map D.int)), St cs j g c f R) := get_ev rfl l1
    have x2 : evE (C n) (.idx (.var 0) (.const (.str "at"))) [.val (.obj 0), .val (.int m), .non, .non, .non] (St cs j g c f R) = some (.fz (.int j), St cs j g c f R) := get_ev rfl l2
    rw [evE, x1]
    simp only [x2, idxR, Rv.seq]
    rw [getI_map hj]
  have pw : ∀ {σ : Co.Env} {S : Store}, evE (C n) (.bin .pow (.const (.int (10))) (.const (.int (18)))) σ S = some (.fz (.int (10 ^ 18)), S) := fun {σ S} => bin_i c_i c_i (by simp only [binI]; rw [if_pos (by decide)]; rfl)
  have e2 := put_ev (k := "at") (cx := C n) (σ := [.val (.obj 0), .val (.int m), .val (.int cs[j]), .non, .non]) (cs := cs) (a := j) (g := g) (c := c) (f := f) (R := R) rfl (bin_i (get_ev rfl l2) c_i (op := .add) (j := 1) rfl) p2
  by_cases h : (10 : Int) ^ 18 ≤ cs[j]
  · have et : evT (C n) (.tr (.cmp .ge (.var 2) (.bin .pow (.const (.int (10))) (.const (.int (18)))))) [.val (.obj 0), .val (.int m), .val (.int cs[j]), .non, .non] (St cs (j + 1) g c f R) = some (true, St cs (j + 1) g c f R) := ev_tr (cmp_i (ev_v rfl) pw (z := true) (by simp only [cmpR]; rw [decide_eq_true h])) rfl
    have e3 := put_ev (k := "digits") (cx := C n) (σ := [.val (.obj 0), .val (.int m), .val (.int cs[j]), .non, .non]) (cs := cs) (a := j + 1) (g := g) (c := c) (f := f) (R := R) rfl (bin_i (ev_v (i := 2) rfl) pw (op := .sub) rfl) p3
    have u3 := (st_nx (fz := []) (r := .nil) (σ := [.val (.obj 0), .val (.int m), .val (.int cs[j]), .non, .non]) rfl (ex_ifT (a := digB) (b := folB) et ((st_nx (fz := []) (r := .nil) (σ := [.val (.obj 0), .val (.int m), .val (.int cs[j]), .non, .non]) rfl e3).trans rfl))).trans (show exB (C n) .nil _ _ = some (.nx _ _) from rfl)
    have u2 := (st_nx (fz := []) (σ := [.val (.obj 0), .val (.int m), .val (.int cs[j]), .non, .non]) rfl e2).trans u3
    exact ⟨_, _, _, _, (st_nx (fz := []) (σ := [.val (.obj 0), .val (.int m), .non, .non, .non]) rfl e1).trans u2, by omega, by omega⟩
  · have et : evT (C n) (.tr (.cmp .ge (.var 2) (.bin .pow (.const (.int (10))) (.const (.int (18)))))) [.val (.obj 0), .val (.int m), .val (.int cs[j]), .non, .non] (St cs (j + 1) g c f R) = some (false, St cs (j + 1) g c f R) := ev_tr (cmp_i (ev_v rfl) pw (z := false) (by simp only [cmpR]; rw [decide_eq_false h])) rfl
    have e3 := put_ev (k := "fold") (cx := C n) (σ := [.val (.obj 0), .val (.int m), .val (.int cs[j]), .non, .non]) (cs := cs) (a := j + 1) (g := g) (c := c) (f := f) (R := R) rfl (bin_i (int_i (bin_i (bin_i (get_ev rfl l5) c_i (mulR (j := 69069) (by decide +kernel))) (ev_v (i := 2) rfl) (op := .add) rfl)) c_i (modI (j := 2147483587) (by decide))) p5
    have u3 := (st_nx (fz := []) (r := .nil) (σ := [.val (.obj 0), .val (.int m), .val (.int cs[j]), .non, .non]) rfl (ex_ifF (a := digB) (b := folB) et ((st_nx (fz := []) (r := .nil) (σ := [.val (.obj 0), .val (.int m), .val (.int cs[j]), .non, .non]) rfl e3).trans rfl))).trans (show exB (C n) .nil _ _ = some (.nx _ _) from rfl)
    have u2 := (st_nx (fz := []) (σ := [.val (.obj 0), .val (.int m), .val (.int cs[j]), .non, .non]) rfl e2).trans u3
    exact ⟨_, _, _, _, (st_nx (fz := []) (σ := [.val (.obj 0), .val (.int m), .non, .non, .non]) rfl e1).trans u2, by omega, hg⟩
/-- a draw -/
theorem q18 {n : Nat} {m : Int} (ha : 0 ≤ a) (hg : 0 ≤ g) (hm : 0 < m) (hlog : m.natAbs.log2 < 9000) :
    ∃ r a' g' c' f', callN L.prg (n + 1) 18 [.obj 0, .int m] (St cs a g c f R) = some (.int r, St cs a' g' c' f' R) ∧ 0 ≤ r ∧ r < m ∧ 0 ≤ a' ∧ 0 ≤ g' := by
  have e1 := put_ev (k := "count") (cx := C n) (σ := [.val (.obj 0), .val (.int m), .non, .non, .non]) (cs := cs) (a := a) (g := g) (c := c) (f := f) (R := R) rfl (bin_i (get_ev rfl l4) c_i (op := .add) (j := 1) rfl) p4
  have x3 : evE (C n) (.idx (.var 0) (.const (.str "digits"))) [.val (.obj 0), .val (.int m), .non, .non, .non] (St cs a g (c + 1) f R) = some (.fz (.int g), St cs a g (c + 1) f R) := get_ev rfl l3
  have x2 : evE (C n) (.idx (.var 0) (.const (.str "at"))) [.val (.obj 0), .val (.int m), .non, .non, .non] (St cs a g (c + 1) f R) = some (.fz (.int a), St cs a g (c + 1) f R) := get_ev rfl l2
  have x1 : evE (C n) (.bi .len (.idx (.var 0) (.const (.str "cells")))) [.val (.obj 0), .val (.int m), .non, .non, .non] (St cs a g (c + 1) f R) = some (.fz (.int (cs.length : Int)), St cs a g (c + 1) f R) := by
    have y : evE (C n) (.idx (.var 0) (.const (.str "cells"))) [.val (.obj 0), .val (.int m), .non, .non, .non] (St cs a g (c + 1) f R) = some (.fz (.lst (cs.map D.int)), St cs a g (c + 1) f R) := get_ev rfl l1
    rw [evE, y]
    simp [biR, Rv.seq]
  have fin : ∀ {o2 : Co.Slot} {a' g' f' : Int}, 0 ≤ a' → 0 ≤ g' → exS (C n) (.ifs (.and (.tr (.cmp .eq (.idx (.var 0) (.const (.str "digits"))) (.const (.int (0))))) (.tr (.cmp .lt (.idx (.var 0) (.const (.str "at"))) (.bi .len (.idx (.var 0) (.const (.str "cells"))))))) cellB .nil) [.val (.obj 0), .val (.int m), .non, .non, .non] (St cs a g (c + 1) f R) = some (.nx [.val (.obj 0), .val (.int m), o2, .non, .non] (St cs a' g' (c + 1) f' R)) →
      ∃ r a' g' c' f', callN L.prg (n + 1) 18 [.obj 0, .int m] (St cs a g c f R) = some (.int r, St cs a' g' c' f' R) ∧ 0 ≤ r ∧ r < m ∧ 0 ≤ a' ∧ 0 ≤ g' := by
    intro o2 a' g' f' h1 h2 e2
    obtain ⟨r, g2, f2, e3, k1, k2, k3⟩ := dr_tail (n := n) (cs := cs) (a := a') (g := g') (c := c + 1) (f := f') (R := R) (m := m) (o2 := o2) h2 hm hlog
    have u2 := (st_nx (fz := []) (σ := [.val (.obj 0), .val (.int m), .non, .non, .non]) (r := tailB) rfl e2).trans e3
    have u1 := (st_nx (fz := []) (σ := [.val (.obj 0), .val (.int m), .non, .non, .non]) rfl e1).trans u2
    exact ⟨r, a', g2, c + 1, f2, call_ret (d := d18) rfl rfl u1, k1, k2, h1, k3⟩
  have y1 : evT (C n) (.tr (.cmp .eq (.idx (.var 0) (.const (.str "digits"))) (.const (.int (0))))) [.val (.obj 0), .val (.int m), .non, .non, .non] (St cs a g (c + 1) f R) = some (decide (g = 0), St cs a g (c + 1) f R) := ev_tr (cmp_i x3 c_i (z := decide (g = 0)) (by simp only [cmpR, Rv.tree]; exact eqI g 0)) rfl
  have y2 : evT (C n) (.tr (.cmp .lt (.idx (.var 0) (.const (.str "at"))) (.bi .len (.idx (.var 0) (.const (.str "cells")))))) [.val (.obj 0), .val (.int m), .non, .non, .non] (St cs a g (c + 1) f R) = some (decide (a < (cs.length : Int)), St cs a g (c + 1) f R) := ev_tr (cmp_i x2 x1 (z := decide (a < (cs.length : Int))) rfl) rfl
  by_cases h0 : g = 0
  · by_cases h1 : a < (cs.length : Int)
    · obtain ⟨o2, a', g', f', e, k1, k2⟩ := dr_cell (n := n) (cs := cs) (a := a) (g := g) (c := c + 1) (f := f) (R := R) (m := m) ha h1 hg
      exact fin k1 k2 (ex_ifT (by rw [evT, y1, decide_eq_true h0]; simp only [y2]; rw [decide_eq_true h1]) e)
    · exact fin ha hg (ex_ifF (by rw [evT, y1, decide_eq_true h0]; simp only [y2]; rw [decide_eq_false h1]) rfl)
  · exact fin ha hg (ex_ifF (by rw [evT, y1, decide_eq_false h0]) rfl)
end
end K53
end

section
set_option maxHeartbeats 0
set_option Elab.async false
set_option linter.all false
set_option maxRecDepth 100000
/-! K53n: bounds of values and of coefficients. -/
namespace K53n
open K53
def pb (p : List Int) (B : Nat) : Nat := p.foldr (fun a t => t * B + a.natAbs) 0
theorem pb_cons (a : Int) (p : List Int) (B : Nat) : pb (a :: p) B = pb p B * B + a.natAbs := rfl
theorem val_le : ∀ (p : List Int) (x : Int) (B : Nat), x.natAbs ≤ B → (peval p x).natAbs ≤ pb p B
  | [], _, _, _ => Nat.le_refl _
  | a :: p, x, B, h => by
    rw [peval_cons, pb_cons]
    refine Nat.le_trans (Int.natAbs_add_le _ _) (Nat.add_le_add_right ?_ _)
    rw [Int.natAbs_mul]
    exact Nat.mul_le_mul (val_le p x B h) h
def nrm : List Int → Nat
  | [] => 0
  | a :: p => a.natAbs + nrm p
theorem mem_nrm : ∀ (p : List Int) (a : Int), a ∈ p → a.natAbs ≤ nrm p
  | b :: p, a, h => by
    show a.natAbs ≤ b.natAbs + nrm p
    rcases List.mem_cons.mp h with rfl | h
    · omega
    · have := mem_nrm p a h; omega
theorem nrm_take : ∀ (p : List Int) (k : Nat), nrm (p.take k) ≤ nrm p
  | [], k => by simp [nrm]
  | a :: p, 0 => Nat.zero_le _
  | a :: p, k + 1 => Nat.add_le_add_left (nrm_take p k) _
theorem nrm_app : ∀ (p q : List Int), nrm (p ++ q) = nrm p + nrm q
  | [], q => by simp [nrm]
  | a :: p, q => by show a.natAbs + nrm (p ++ q) = a.natAbs + nrm p + nrm q; rw [nrm_app p q]; omega
theorem nrm_rep : ∀ k, nrm (List.replicate k 0) = 0
  | 0 => rfl
  | k + 1 => by rw [List.replicate_succ]; show (0 : Int).natAbs + nrm (List.replicate k 0) = 0; rw [nrm_rep k]; rfl
theorem nrm_zip : ∀ (p q : List Int), nrm (List.zipWith (· + ·) p q) ≤ nrm p + nrm q
  | [], q => by simp [nrm]
  | a :: p, [] => by simp [nrm]
  | a :: p, b :: q => by
    show (a + b).natAbs + nrm (List.zipWith (· + ·) p q) ≤ (a.natAbs + nrm p) + (b.natAbs + nrm q)
    have h1 := nrm_zip p q
    have h2 := Int.natAbs_add_le a b
    omega
theorem nrm_set : ∀ (f : List Int) (j : Nat) (v : Int), nrm (f.set j ((f[j]?).getD 0 + v)) ≤ nrm f + v.natAbs
  | [], j, v => by simp [nrm]
  | a :: f, 0, v => by
    show (a + v).natAbs + nrm f ≤ a.natAbs + nrm f + v.natAbs
    have h2 := Int.natAbs_add_le a v
    omega
  | a :: f, j + 1, v => by
    show a.natAbs + nrm (f.set j ((f[j]?).getD 0 + v)) ≤ a.natAbs + nrm f + v.natAbs
    have := nrm_set f j v
    omega
theorem nrm_row {i : Nat} {x : Int} : ∀ (ys : List Int) (k : Nat) (f : List Int), nrm (rowP i x ys k f) ≤ nrm f + x.natAbs * nrm ys
  | [], _, f => Nat.le_add_right _ _
  | y :: ys, k, f => by
    refine Nat.le_trans (nrm_row ys (k + 1) (addAt f (i + k) (x * y))) ?_
    have h := nrm_set f (i + k) (x * y)
    rw [Int.natAbs_mul] at h
    show nrm (f.set (i + k) ((f[i + k]?).getD 0 + x * y)) + x.natAbs * nrm ys ≤ nrm f + x.natAbs * (y.natAbs + nrm ys)
    rw [Nat.mul_add]
    omega
theorem nrm_mul {q : List Int} : ∀ (xs : List Int) (i : Nat) (f : List Int), nrm (mulP xs i q f) ≤ nrm f + nrm xs * nrm q
  | [], _, f => Nat.le_add_right _ _
  | x :: xs, i, f => by
    refine Nat.le_trans (nrm_mul xs (i + 1) (rowP i x q 0 f)) ?_
    have h := nrm_row (i := i) (x := x) q 0 f
    show nrm (rowP i x q 0 f) + nrm xs * nrm q ≤ nrm f + (x.natAbs + nrm xs) * nrm q
    rw [Nat.add_mul]
    omega
theorem nrm_times (p q : List Int) : nrm (timesP p q) ≤ nrm p * nrm q := by
  refine Nat.le_trans (nrm_take _ _) (Nat.le_trans (nrm_mul p 0 _) ?_)
  rw [nrm_rep]; omega
theorem nrm_sum (p q : List Int) : nrm (sumP p q) ≤ nrm p + nrm q := by
  refine Nat.le_trans (nrm_zip _ _) ?_
  unfold padP
  rw [nrm_app, nrm_app, nrm_rep, nrm_rep]; omega
theorem nrm_step (o t : List Int) (a : Int) : nrm (stepP o t a) ≤ nrm t * nrm o + a.natAbs := by
  refine Nat.le_trans (nrm_take _ _) (Nat.le_trans (nrm_sum _ _) ?_)
  have h1 := nrm_times t o
  have h2 : nrm (tidyP [a]) ≤ a.natAbs := Nat.le_trans (nrm_take _ _) (Nat.le_of_eq rfl)
  generalize nrm (timesP t o) = u at h1 ⊢
  generalize nrm (tidyP [a]) = w at h2 ⊢
  omega
theorem nrm_after (p q : List Int) : nrm (afterP p q) ≤ pb p (nrm q) := by
  unfold afterP
  have key : ∀ (l t : List Int) (T : Nat), nrm t ≤ T → nrm (l.foldl (stepP q) t) ≤ l.foldl (fun T a => T * nrm q + a.natAbs) T := by
    intro l
    induction l with
    | nil => intro t T h; exact h
    | cons a l ih =>
      intro t T h
      rw [List.foldl_cons, List.foldl_cons]
      exact ih _ _ (Nat.le_trans (nrm_step q t a) (Nat.add_le_add_right (Nat.mul_le_mul_right _ h) _))
  have h := key p.reverse [] 0 (Nat.le_refl _)
  have e : p.reverse.foldl (fun (T : Nat) (a : Int) => T * nrm q + a.natAbs) 0 = pb p (nrm q) := by rw [List.foldl_reverse]; rfl
  rw [e] at h
  exact h
end K53n
end

section
set_option maxHeartbeats 0
set_option Elab.async false
set_option linter.all false
set_option maxRecDepth 100000
/-! K53g: the small polynomials are good, and so are their second iterates. -/
namespace K53
open PySem L2 Co K53n
def rows : Nat → List (List Int)
  | 0 => [[]]
  | d + 1 => ([-2, -1, 0, 1, 2] : List Int).flatMap fun v => (rows d).map (v :: ·)
def smallL : List (List Int) := ([2, 3] : List Nat).flatMap fun d => (rows d).flatMap fun vs => ([1, -1, 2] : List Int).map fun h => vs ++ [h]
theorem mem_rows : ∀ (vs : List Int), (∀ v ∈ vs, -2 ≤ v ∧ v ≤ 2) → vs ∈ rows vs.length
  | [], _ => by simp [rows]
  | v :: vs, h => by
    show v :: vs ∈ ([-2, -1, 0, 1, 2] : List Int).flatMap fun v => (rows vs.length).map (v :: ·)
    rw [List.mem_flatMap]
    have hv := h v (by simp)
    refine ⟨v, ?_, List.mem_map.mpr ⟨vs, mem_rows vs (fun w hw => h w (by simp [hw])), rfl⟩⟩
    have : v = -2 ∨ v = -1 ∨ v = 0 ∨ v = 1 ∨ v = 2 := by omega
    rcases this with rfl | rfl | rfl | rfl | rfl <;> simp
theorem mem_small {vs : List Int} {h : Int} (hl : vs.length = 2 ∨ vs.length = 3) (hv : ∀ v ∈ vs, -2 ≤ v ∧ v ≤ 2) (hh : h = 1 ∨ h = -1 ∨ h = 2) : vs ++ [h] ∈ smallL := by
  unfold smallL
  rw [List.mem_flatMap]
  refine ⟨vs.length, by rcases hl with e | e <;> rw [e] <;> simp, List.mem_flatMap.mpr ⟨vs, mem_rows vs hv, List.mem_map.mpr ⟨h, ?_, rfl⟩⟩⟩
  rcases hh with rfl | rfl | rfl <;> simp
def moreP (p : List Int) : List Int := afterP p (afterP p [0, 1])
theorem bits_of {y : Int} (h : y.natAbs < 2 ^ 64) : Builtin.Int.intBits y ≤ 64 := intBits_le_64 (by omega) (by omega)
theorem pb_mono : ∀ (p : List Int) {B B' : Nat}, B ≤ B' → pb p B ≤ pb p B'
  | [], _, _, _ => Nat.le_refl _
  | a :: p, B, B', h => by rw [pb_cons, pb_cons]; exact Nat.add_le_add_right (Nat.mul_le_mul (pb_mono p h) h) _
/-- tidy, as a test -/
def tidyB (p : List Int) : Bool := match p.getLast? with | some a => decide (a ≠ 0) | none => true
theorem tidy_of {p : List Int} (h : tidyB p = true) : Tidy p := by
  intro k hk
  unfold tidyB at h
  rw [List.getLast?_eq_getElem?, hk] at h
  simp only [Nat.add_sub_cancel] at h
  intro e
  rw [e] at h
  simp at h
def sd (p : List Int) : Int := peval p (peval p 50) - 2 * peval p (peval p 51) + peval p (peval p 52)
def fitB (p : List Int) : Bool := tidyB p && decide (3 ≤ p.length) && decide (p.length ≤ 4) && decide (nrm p < 2 ^ 64) && decide (pb p 59 < 2 ^ 64) && decide (pb p (pb p 59) < 2 ^ 64) && decide (pb p 1 < 2 ^ 64) && decide (pb p (pb p 1) < 2 ^ 64) && decide (sd p ≠ 0)
theorem fit_all : smallL.all fitB = true := by decide +kernel
theorem sd_short {q : List Int} (h : q.length ≤ 2) : peval q 50 - 2 * peval q 51 + peval q 52 = 0 := by
  match q, h with
  | [], _ => rfl
  | [a], _ => simp only [peval_cons, peval_nil]; omega
  | [a, b], _ => simp only [peval_cons, peval_nil]; omega
  | _ :: _ :: _ :: _, h => simp at h
structure Fit (p : List Int) : Prop where
  good : Good p
  tidy : Tidy p
  l3 : 3 ≤ p.length
  l4 : p.length ≤ 4
  co : ∀ x, ∀ y ∈ afterP p [0, 1], IntMulOk x y
  la : (afterP p [0, 1]).length ≤ 4
  mgood : Good (moreP p)
  ml3 : 3 ≤ (moreP p).length
  ml : (moreP p).length ≤ 10
theorem fit {p : List Int} (h : p ∈ smallL) : Fit p := by
  have q := List.all_eq_true.mp fit_all p h
  unfold fitB at q
  simp only [Bool.and_eq_true, decide_eq_true_eq] at q
  obtain ⟨⟨⟨⟨⟨⟨⟨⟨a1, a2⟩, a3⟩, a4⟩, a5⟩, a6⟩, a7⟩, a8⟩, a9⟩ := q
  have n1 : nrm (afterP p [0, 1]) ≤ pb p 1 := nrm_after p [0, 1]
  have n2 : nrm (moreP p) ≤ pb p (pb p 1) := Nat.le_trans (nrm_after p (afterP p [0, 1])) (pb_mono p n1)
  have e1 : ∀ x, peval (afterP p [0, 1]) x = peval p x := fun x => by rw [peval_after]; congr 1; simp [peval_cons, peval_nil]
  have e2 : ∀ x, peval (moreP p) x = peval p (peval p x) := fun x => by unfold moreP; rw [peval_after, e1]
  have v1 : ∀ k : Nat, k < 60 → (peval p (k : Int)).natAbs ≤ pb p 59 := fun k hk => val_le p _ 59 (by omega)
  have nz : (moreP p).length ≥ 3 := by
    rcases Nat.lt_or_ge (moreP p).length 3 with hlt | hge
    · exfalso
      have := sd_short (q := moreP p) (by omega)
      rw [e2, e2, e2] at this
      exact a9 this
    · exact hge
  have la : (afterP p [0, 1]).length ≤ 4 := by
    have := after_len (p := p) (q := [0, 1]) (k := p.length - 1) (m := 1) (by omega) rfl
    omega
  have ne : (afterP p [0, 1]).length ≠ 0 := fun z => by
    have z' := List.eq_nil_of_length_eq_zero z
    have pz : ∀ x, peval p x = 0 := fun x => by rw [← e1 x, z']; rfl
    apply a9
    unfold sd
    simp only [pz]
    decide
  have ml : (moreP p).length ≤ 10 := by
    have := after_len (p := p) (q := afterP p [0, 1]) (k := p.length - 1) (m := (afterP p [0, 1]).length - 1) (by omega) (by omega)
    have h1 : p.length - 1 ≤ 3 := by omega
    have h2 : (afterP p [0, 1]).length - 1 ≤ 3 := by omega
    have h3 := Nat.mul_le_mul h1 h2
    unfold moreP
    omega
  refine ⟨⟨fun x y hy => .of_right (bits_of (Nat.lt_of_le_of_lt (mem_nrm p y hy) a4)), fun k hk t => .of_right (bits_of (Nat.lt_of_le_of_lt (v1 k hk) a5))⟩, tidy_of a1, a2, a3, fun x y hy => .of_right (bits_of (Nat.lt_of_le_of_lt (Nat.le_trans (mem_nrm _ y hy) n1) a7)), la, ⟨fun x y hy => .of_right (bits_of (Nat.lt_of_le_of_lt (Nat.le_trans (mem_nrm _ y hy) n2) a8)), fun k hk t => .of_right (bits_of ?_)⟩, nz, ml⟩
  rw [e2]
  exact Nat.lt_of_le_of_lt (val_le p _ (pb p 59) (v1 k hk)) a6
/-- other: small, or a second iterate -/
structure Oth (q : List Int) : Prop where
  good : Good q
  tidy : Tidy q
  l3 : 3 ≤ q.length
  l10 : q.length ≤ 10
theorem oth_small {p : List Int} (h : p ∈ smallL) : Oth p := let f := fit h; ⟨f.good, f.tidy, f.l3, by have := f.l4; omega⟩
theorem oth_more {p : List Int} (h : p ∈ smallL) : Oth (moreP p) := let f := fit h; ⟨f.mgood, tidy_after _ _, f.ml3, f.ml⟩
theorem two_ok {p q : List Int} (hp : p ∈ smallL) (hq : Oth q) : TwoOk p q := by
  have f := fit hp
  have a := f.l3
  have b := f.l4
  have c := hq.l3
  have d := hq.l10
  refine ⟨f.good, hq.good, f.tidy, hq.tidy, p.length - 1, q.length - 1, by omega, by omega, ?_, by omega, by omega, by omega, by omega⟩
  have h1 : p.length - 1 ≤ 3 := by omega
  have h2 : q.length - 1 ≤ 9 := by omega
  have := Nat.mul_le_mul h1 h2
  omega
theorem q32 {n : Nat} {S : Store} {p : List Int} (hp : p ∈ smallL) : callN L.prg (n + 6) 32 [Ip p, .int 2] S = some (Ip (moreP p), S) := by
  have f := fit hp
  have a := f.l4
  have b := f.la
  refine call_ret (d := d32) rfl rfl ?_
  have c01 : ∀ x, ∀ y ∈ ([0, 1] : List Int), IntMulOk x y := fun x y hy => .of_right (by
    have : y = 0 ∨ y = 1 := by simpa using hy
    rcases this with rfl | rfl <;> decide +kernel)
  have a1 : (C (n + 5)).call 31 [Ip p, Ip [0, 1]] S = some (Ip (afterP p [0, 1]), S) := by
    rw [cC]; exact q31 c01 (by show p.length * (2 + 1) + 2 ≤ 190; omega)
  have hz : p.length * ((afterP p [0, 1]).length + 1) + (afterP p [0, 1]).length ≤ 190 := by
    have h1 : (afterP p [0, 1]).length + 1 ≤ 5 := by omega
    have := Nat.mul_le_mul a h1
    generalize (afterP p [0, 1]).length = z at *
    omega
  have a2 : (C (n + 5)).call 31 [Ip p, Ip (afterP p [0, 1])] S = some (Ip (moreP p), S) := by rw [cC]; exact q31 f.co hz
  have z2 : ([D.int 0, D.int 1] : List D).length ≤ sizeLine := sz100 (show 2 ≤ 1000 by decide)
  have t0 : evE (C (n + 5)) (.tup (.cons (.const (.int (0))) (.cons (.const (.int (1))) .nil))) [.val (Ip p), .val (.int 2), .non, .non] S = some (.fz (Ip [0, 1]), S) := by
    simp only [evE, evA, Rv.d]; rw [if_pos z2]; rfl
  have e0 := ex_set (i := 2) t0 rfl
  have hf : exS (C (n + 5)) (.for (.nm 3) (.rng1 (.var 1)) (.cons [0, 2] (.set 2 (.call 31 (.cons (.var 0) (.cons (.var 2) .nil)))) .nil)) [.val (Ip p), .val (.int 2), .val (Ip [0, 1]), .non] S = some (.nx [.val (Ip p), .val (.int 2), .val (Ip (moreP p)), .val (.int 1)] S) := by
    have ei : evI (C (n + 5)) true (.rng1 (.var 1)) [.val (Ip p), .val (.int 2), .val (Ip [0, 1]), .non] S = some ([.int 0, .int 1], S) := by
      simp only [evI, evE, List.getElem?_cons_zero, List.getElem?_cons_succ]; rw [if_pos (by decide)]; rfl
    refine for_of ei ?_
    have b1 := (st_nx (fz := [0, 2]) (r := .nil) (σ := [.val (Ip p), .val (.int 2), .val (Ip [0, 1]), .val (.int 0)]) rfl (ex_set (i := 2) (ev_call2 (ev_v (i := 0) rfl) rfl (ev_v (i := 2) rfl) rfl a1) rfl)).trans (show exB (C (n + 5)) .nil _ _ = some (.nx _ _) from rfl)
    have b2 := (st_nx (fz := [0, 2]) (r := .nil) (σ := [.val (Ip p), .val (.int 2), .val (Ip (afterP p [0, 1])), .val (.int 1)]) rfl (ex_set (i := 2) (ev_call2 (ev_v (i := 0) rfl) rfl (ev_v (i := 2) rfl) rfl a2) rfl)).trans (show exB (C (n + 5)) .nil _ _ = some (.nx _ _) from rfl)
    have ea1 : (Pat.nm 3).asg (.int 0) [.val (Ip p), .val (.int 2), .val (Ip [0, 1]), .non] = some [.val (Ip p), .val (.int 2), .val (Ip [0, 1]), .val (.int 0)] := rfl
    have ea2 : (Pat.nm 3).asg (.int 1) [.val (Ip p), .val (.int 2), .val (Ip (afterP p [0, 1])), .val (.int 0)] = some [.val (Ip p), .val (.int 2), .val (Ip (afterP p [0, 1])), .val (.int 1)] := rfl
    simp only [forGo, loopF, ea1]
    rw [b1]
    simp only [List.set_cons_succ, List.set_cons_zero, frz, List.getElem?_cons_zero, List.getElem?_cons_succ, ea2]
    rw [b2]
    rfl
  have u3 := st_ret (c := C (n + 5)) (S := S) (fz := [2]) (r := .nil) (σ := [.val (Ip p), .val (.int 2), .val (Ip (moreP p)), .val (.int 1)]) rfl (ex_ret (ev_v (i := 2) rfl) rfl)
  have u2 := (st_nx (fz := [1]) (σ := [.val (Ip p), .val (.int 2), .val (Ip [0, 1]), .non]) rfl hf).trans u3
  exact (st_nx (fz := []) (σ := [.val (Ip p), .val (.int 2), .non, .non]) rfl e0).trans u2
end K53
end

section
set_option maxHeartbeats 0
set_option Elab.async false
set_option linter.all false
set_option maxRecDepth 100000
/-! K53h: picks, small polynomials drawn. -/
namespace K53
open PySem L2 Co
section
variable {cs : List Int} {a g c f : Int} {R : Store}
theorem pick_ev {n : Nat} {l : List D} {d : D} (hd : d = .lst l) (hl : 0 < l.length) (hl2 : l.length ≤ 100) (ha : 0 ≤ a) (hg : 0 ≤ g) :
    ∃ (j : Nat) (e : D) (a' g' c' f' : Int), callN L.prg (n + 2) 19 [.obj 0, d] (St cs a g c f R) = some (e, St cs a' g' c' f' R) ∧ j < l.length ∧ l[j]? = some e ∧ 0 ≤ a' ∧ 0 ≤ g' := by
  subst hd
  have hlog : ((l.length : Nat) : Int).natAbs.log2 < 9000 := by
    rw [Int.natAbs_natCast]
    exact Nat.lt_of_le_of_lt (Nat.log2_le_self _) (by omega)
  obtain ⟨r, a', g', c', f', e, h1, h2, h3, h4⟩ := q18 (n := n) (cs := cs) (a := a) (g := g) (c := c) (f := f) (R := R) (m := (l.length : Int)) ha hg (by omega) hlog
  obtain ⟨j, rfl⟩ : ∃ j : Nat, r = (j : Int) := ⟨r.toNat, by omega⟩
  have hj : j < l.length := by omega
  have hc : (C (n + 1)).call 18 [.obj 0, .int (l.length : Int)] (St cs a g c f R) = some (.int (j : Int), St cs a' g' c' f' R) := by rw [cC]; exact e
  have el : evE (C (n + 1)) (.bi .len (.var 1)) [.val (.obj 0), .val (.lst l)] (St cs a g c f R) = some (.fz (.int (l.length : Int)), St cs a g c f R) := by simp [evE, biR, Rv.seq]
  have ed := ev_call2 (i := 18) (ev_v (c := C (n + 1)) (i := 0) (σ := [.val (.obj 0), .val (.lst l)]) (S := St cs a g c f R) rfl) rfl el rfl hc
  have hx : atI l (j : Int) = some l[j] := by unfold atI ixN; simp [hj]
  have ei : evE (C (n + 1)) (.idx (.var 1) (.call 18 (.cons (.var 0) (.cons (.bi .len (.var 1)) .nil)))) [.val (.obj 0), .val (.lst l)] (St cs a g c f R) = some (.fz l[j], St cs a' g' c' f' R) := by
    have ev1 : evE (C (n + 1)) (.var 1) [.val (.obj 0), .val (.lst l)] (St cs a g c f R) = some (.fz (.lst l), St cs a g c f R) := ev_v rfl
    rw [evE, ev1]
    simp only [ed, idxR, Rv.seq, hx]
  exact ⟨j, l[j], a', g', c', f', call_ret (d := d19) rfl rfl (st_ret (fz := [0]) (r := .nil) (σ := [.val (.obj 0), .val (.lst l)]) rfl (ex_ret ei rfl)), hj, by simp [hj], h3, h4⟩
/-- a row of small numbers, drawn -/
theorem lc_draw {n : Nat} {d : Int} {F : D → Store → Option (Option D × Store)} (hF : ∀ (x : D) (S : Store), F x S = match evE (C (n + 1)) (.bin .sub (.call 18 (.cons (.var 0) (.cons (.const (.int (5))) .nil))) (.const (.int (2)))) [.val (.obj 0), .val (.int d), .val x] S with | some (r, S3) => (match r.d with | some x => some (some x, S3) | none => none) | none => none) :
    ∀ (l : List D) (acc : List D) (a g c f : Int), 0 ≤ a → 0 ≤ g → acc.length + l.length ≤ 100 → ∃ (vs : List Int) (a' g' c' f' : Int), lcGo F l acc (St cs a g c f R) = some (acc ++ vs.map D.int, St cs a' g' c' f' R) ∧ vs.length = l.length ∧ (∀ v ∈ vs, -2 ≤ v ∧ v ≤ 2) ∧ 0 ≤ a' ∧ 0 ≤ g'
  | [], acc, a, g, c, f, ha, hg, _ => ⟨[], a, g, c, f, by simp [lcGo], rfl, by simp, ha, hg⟩
  | x :: l, acc, a, g, c, f, ha, hg, hz => by
    rw [List.length_cons] at hz
    obtain ⟨r, a1, g1, c1, f1, e, h1, h2, h3, h4⟩ := q18 (n := n) (cs := cs) (a := a) (g := g) (c := c) (f := f) (R := R) (m := 5) ha hg (by decide) (by decide +kernel)
    obtain ⟨vs, a2, g2, c2, f2, e2, k1, k2, k3, k4⟩ := lc_draw hF l (acc ++ [.int (r - 2)]) a1 g1 c1 f1 h3 h4 (by simp; omega)
    have hc : (C (n + 1)).call 18 [.obj 0, .int 5] (St cs a g c f R) = some (.int r, St cs a1 g1 c1 f1 R) := by rw [cC]; exact e
    have ex : evE (C (n + 1)) (.bin .sub (.call 18 (.cons (.var 0) (.cons (.const (.int (5))) .nil))) (.const (.int (2)))) [.val (.obj 0), .val (.int d), .val x] (St cs a g c f R) = some (.fz (.int (r - 2)), St cs a1 g1 c1 f1 R) :=
      bin_i (ev_call2 (ev_v rfl) rfl (x' := .fz (.int 5)) (S2 := St cs a g c f R) rfl rfl hc) c_i (op := .sub) rfl
    have hf := hF x (St cs a g c f R)
    rw [ex] at hf
    have hf : F x (St cs a g c f R) = some (some (.int (r - 2)), St cs a1 g1 c1 f1 R) := hf
    refine ⟨(r - 2) :: vs, a2, g2, c2, f2, ?_, by simp [k1], fun v hv => ?_, k3, k4⟩
    · have hz' : acc.length < sizeLine := Nat.lt_of_lt_of_le (show acc.length < 1000 by omega) (by decide)
      rw [lcGo, hf]
      simp only [if_pos hz']
      rw [e2]
      simp
    · rcases List.mem_cons.mp hv with rfl | hv
      · omega
      · exact k2 v hv
end
end K53
end

section
set_option maxHeartbeats 0
set_option Elab.async false
set_option linter.all false
set_option maxRecDepth 100000
/-! K53i: a small polynomial is drawn. -/
namespace K53
open PySem L2 Co
section
variable {cs : List Int} {a g c f : Int} {R : Store}
abbrev elB : Co.CE := .bin .sub (.call 18 (.cons (.var 0) (.cons (.const (.int (5))) .nil))) (.const (.int (2)))
abbrev heads : Co.CE := .lst (.cons (.const (.int (1))) (.cons (.const (.int (1))) (.cons (.neg (.const (.int (1)))) (.cons (.const (.int (2))) .nil))))
theorem q34 {n k : Nat} (hk : k = 2 ∨ k = 3) (ha : 0 ≤ a) (hg : 0 ≤ g) : ∃ (p : List Int) (a' g' c' f' : Int), callN L.prg (n + 3) 34 [.obj 0, .int (k : Int)] (St cs a g c f R) = some (Ip p, St cs a' g' c' f' R) ∧ p ∈ smallL ∧ 0 ≤ a' ∧ 0 ≤ g' := by
  obtain ⟨vs, a1, g1, c1, f1, e1, v1, v2, h1, h2⟩ := lc_draw (n := n + 1) (d := (k : Int)) (cs := cs) (R := R) (F := lcF (C (n + 2)) (.nm 2) [2] .yes elB [.val (.obj 0), .val (.int (k : Int)), .non]) (fun x S => rfl) ((List.range k).map fun k : Nat => D.int (k : Int)) [] a g c f ha hg (by simp; omega)
  have el : evE (C (n + 2)) (.lc (.nm 2) [2] (.rng1 (.var 1)) .yes elB) [.val (.obj 0), .val (.int (k : Int)), .non] (St cs a g c f R) = some (.fr (vs.map D.int), St cs a1 g1 c1 f1 R) := by
    have ei : evI (C (n + 2)) false (.rng1 (.var 1)) [.val (.obj 0), .val (.int (k : Int)), .non] (St cs a g c f R) = some ((List.range k).map fun k : Nat => D.int (k : Int), St cs a g c f R) := by
      simp only [evI, evE, List.getElem?_cons_zero, List.getElem?_cons_succ]; rw [if_pos (by omega), Int.toNat_natCast]
    rw [evE, ei]
    show (match lcGo (lcF (C (n + 2)) (.nm 2) [2] .yes elB [.val (.obj 0), .val (.int (k : Int)), .non]) ((List.range k).map fun k : Nat => D.int (k : Int)) [] (St cs a g c f R) with | some (r, S2) => some (Rv.fr r, S2) | none => none) = _
    rw [e1]
    rfl
  have et : evE (C (n + 2)) (.bi .tuple (.lc (.nm 2) [2] (.rng1 (.var 1)) .yes elB)) [.val (.obj 0), .val (.int (k : Int)), .non] (St cs a g c f R) = some (.fz (Ip vs), St cs a1 g1 c1 f1 R) := by
    rw [evE, el]; rfl
  obtain ⟨j, e, a2, g2, c2, f2, e2, hj, he, h3, h4⟩ := pick_ev (n := n) (cs := cs) (a := a1) (g := g1) (c := c1) (f := f1) (R := R) (l := [.int 1, .int 1, .int (-1), .int 2]) rfl (by decide) (by decide) h1 h2
  have z4 : ([D.int 1, D.int 1, D.int (-1), D.int 2] : List D).length ≤ sizeLine := sz100 (show 4 ≤ 1000 by decide)
  have eh : evE (C (n + 2)) heads [.val (.obj 0), .val (.int (k : Int)), .non] (St cs a1 g1 c1 f1 R) = some (.fr [.int 1, .int 1, .int (-1), .int 2], St cs a1 g1 c1 f1 R) := by
    simp only [evE, evA, Rv.d]; rw [if_pos z4]
  have hc : (C (n + 2)).call 19 [.obj 0, .lst [.int 1, .int 1, .int (-1), .int 2]] (St cs a1 g1 c1 f1 R) = some (e, St cs a2 g2 c2 f2 R) := by rw [cC]; exact e2
  have ep := ev_call2 (i := 19) (ev_v (c := C (n + 2)) (i := 0) (σ := [.val (.obj 0), .val (.int (k : Int)), .non]) (S := St cs a1 g1 c1 f1 R) rfl) rfl eh rfl hc
  obtain ⟨h, rfl, hh⟩ : ∃ h : Int, e = .int h ∧ (h = 1 ∨ h = -1 ∨ h = 2) := by
    have hj' : j = 0 ∨ j = 1 ∨ j = 2 ∨ j = 3 := by have : j < 4 := hj; omega
    rcases hj' with rfl | rfl | rfl | rfl <;> cases he
    · exact ⟨1, rfl, .inl rfl⟩
    · exact ⟨1, rfl, .inl rfl⟩
    · exact ⟨-1, rfl, .inr (.inl rfl)⟩
    · exact ⟨2, rfl, .inr (.inr rfl)⟩
  have z1 : ([D.int h] : List D).length ≤ sizeLine := sz100 (show 1 ≤ 1000 by decide)
  have eu : evE (C (n + 2)) (.tup (.cons (.call 19 (.cons (.var 0) (.cons heads .nil))) .nil)) [.val (.obj 0), .val (.int (k : Int)), .non] (St cs a1 g1 c1 f1 R) = some (.fz (.tup [.int h]), St cs a2 g2 c2 f2 R) := by
    rw [evE, evA, ep]
    simp only [Rv.d, evA]
    rw [if_pos z1]
  have hv : vs.length = k := by rw [v1]; simp
  have zz : (vs.map D.int).length + ([D.int h] : List D).length ≤ sizeLine := sz100 (by simp; omega)
  have eb : evE (C (n + 2)) (.bin .add (.bi .tuple (.lc (.nm 2) [2] (.rng1 (.var 1)) .yes elB)) (.tup (.cons (.call 19 (.cons (.var 0) (.cons heads .nil))) .nil))) [.val (.obj 0), .val (.int (k : Int)), .non] (St cs a g c f R) = some (.fz (Ip (vs ++ [h])), St cs a2 g2 c2 f2 R) := by
    rw [evE, et]
    simp only [eu, binR]
    rw [if_pos zz]
    simp
  refine ⟨vs ++ [h], a2, g2, c2, f2, call_ret (d := d34) rfl rfl (st_ret (fz := [0, 0]) (r := .nil) (σ := [.val (.obj 0), .val (.int (k : Int)), .non]) rfl (ex_ret eb rfl)), mem_small (by omega) v2 hh, h3, h4⟩
end
end K53
end

section
set_option maxHeartbeats 0
set_option Elab.async false
set_option linter.all false
set_option maxRecDepth 100000
/-! K53j: the pen is made. -/
namespace K53
open PySem L2 Co
abbrev pkeys : List Key := [.inr "cells", .inr "at", .inr "digits", .inr "count", .inr "fold"]
theorem q17 {n : Nat} (ns : List Int) : ∃ f, callN L.prg (n + 1) 17 [.scr (ns.map D.int)] [] = some (.obj 0, St ns 0 0 0 f []) := by
  obtain ⟨σ', e, o, rfl⟩ := for_pure (n := n) (p := .nm 2) (b := .cons [] (.set 1 (.bin .mod (.bi .int (.bin .add (.bin .mul (.var 1) (.const (.int (47)))) (.var 2))) (.const (.int (1000000007))))) .nil) (S := [])
    (g := fun (t : Int) σ => ∃ o, σ = [.val (.scr (ns.map D.int)), .val (.int t), o]) (stp := fun d t => (t * 47 + dInt d).fmod 1000000007) (fun d => ∃ a, d = .int a) (by
      rintro d t σ ⟨a, rfl⟩ ⟨o, rfl⟩
      refine ⟨_, ?_, .val (.int a), rfl⟩
      have ea : (Pat.nm 2).asg (.int a) [.val (.scr (ns.map D.int)), .val (.int t), o] = some [.val (.scr (ns.map D.int)), .val (.int t), .val (.int a)] := rfl
      have ee : evE (C n) (.bin .mod (.bi .int (.bin .add (.bin .mul (.var 1) (.const (.int (47)))) (.var 2))) (.const (.int (1000000007)))) [.val (.scr (ns.map D.int)), .val (.int t), .val (.int a)] [] = some (.fz (.int ((t * 47 + a).fmod 1000000007)), []) :=
        bin_i (int_i (bin_i (bin_i (ev_v (i := 1) rfl) c_i (mulR (j := 47) (by decide +kernel))) (ev_v (i := 2) rfl) (op := .add) rfl)) c_i (modI (j := 1000000007) (by decide))
      simp only [loopF, ea]
      exact (st_nx (fz := []) (r := .nil) (σ := [.val (.scr (ns.map D.int)), .val (.int t), .val (.int a)]) rfl (ex_set ee rfl)).trans rfl)
    (ns.map D.int) 0 [.val (.scr (ns.map D.int)), .val (.int 0), .non] (by simp) ⟨_, rfl⟩
  generalize (ns.map D.int).foldl (fun s d => (s * 47 + dInt d).fmod 1000000007) 0 = t at e
  have hf := for_of (n := n) (it := .seq (.var 0)) (σ := [.val (.scr (ns.map D.int)), .val (.int 0), .non]) (S := []) (by simp only [evI, evE, List.getElem?_cons_zero, Rv.seqB, Rv.seq]) e
  have nd : pkeys.Nodup := by decide +kernel
  have ed : evE (C n) (.dct pkeys (.cons (.bi .list (.var 0)) (.cons (.const (.int (0))) (.cons (.const (.int (0))) (.cons (.const (.int (0))) (.cons (.var 1) .nil)))))) [.val (.scr (ns.map D.int)), .val (.int t), o] [] = some (.fz (.obj 0), St ns 0 0 0 t []) := by
    have ea : evA (C n) (.cons (.bi .list (.var 0)) (.cons (.const (.int (0))) (.cons (.const (.int (0))) (.cons (.const (.int (0))) (.cons (.var 1) .nil))))) [.val (.scr (ns.map D.int)), .val (.int t), o] [] = some ([.lst (ns.map D.int), .int 0, .int 0, .int 0, .int t], []) := by
      simp only [evA, evE, List.getElem?_cons_zero, List.getElem?_cons_succ, biR, Rv.seq, Rv.d]
    rw [evE, ea]
    simp only
    rw [if_pos ⟨rfl, by decide, nd⟩]
    rfl
  have u3 := st_ret (c := C n) (fz := [1]) (r := .nil) (σ := [.val (.scr (ns.map D.int)), .val (.int t), o]) rfl (ex_ret ed rfl)
  have u2 := (st_nx (fz := [0]) (σ := [.val (.scr (ns.map D.int)), .val (.int 0), .non]) rfl hf).trans u3
  have u1 := (st_nx (c := C n) (fz := []) (σ := [.val (.scr (ns.map D.int)), .non, .non]) rfl (ex_set (i := 1) (e := .const (.int 0)) (S := []) rfl rfl)).trans u2
  exact ⟨t, call_ret (d := d17) rfl rfl u1⟩
end K53
end

section
set_option maxHeartbeats 0
set_option Elab.async false
set_option linter.all false
set_option maxRecDepth 100000
/-! K53k: a lap of the law. -/
namespace K53
open PySem L2 Co
theorem ex_par {c : Co.Ctx} {is : List Nat} {as : CA} {ds : List D} {σ σ' : Co.Env} {S S1 : Store} (h1 : evA c as σ S = some (ds, S1)) (h2 : parGo is ds σ = some σ') : exS c (.par is as) σ S = some (.nx σ' S1) := by simp only [exS, h1, h2]
theorem forGo_nx {f : D → Co.Env → Store → Option Out} {d : D} {ds : List D} {σ σ' : Co.Env} {S S' : Store} {o : Option Out} (h : f d σ S = some (.nx σ' S')) (k : forGo f ds σ' S' = o) : forGo f (d :: ds) σ S = o := by simp only [forGo, h]; exact k
theorem ev_not {c : Co.Ctx} {t : CT} {σ : Co.Env} {S S1 : Store} {z : Bool} (h : evT c t σ S = some (z, S1)) : evT c (.not t) σ S = some (!z, S1) := by simp only [evT, h]
section
variable {cs : List Int} {a g c f : Int} {R : Store}
abbrev drE (m : Int) : Co.CE := .call 18 (.cons (.var 1) (.cons (.const (.int m)) .nil))
theorem dr_ev {n : Nat} {σ : Co.Env} {m : Int} (h : σ[1]? = some (.val (.obj 0))) (hm : m = 2 ∨ m = 3) (ha : 0 ≤ a) (hg : 0 ≤ g) :
    ∃ (r a' g' c' f' : Int), evE (C (n + 7)) (drE m) σ (St cs a g c f R) = some (.fz (.int r), St cs a' g' c' f' R) ∧ 0 ≤ r ∧ r < m ∧ 0 ≤ a' ∧ 0 ≤ g' := by
  have hlog : m.natAbs.log2 < 9000 := by rcases hm with rfl | rfl <;> decide +kernel
  obtain ⟨r, a', g', c', f', e, h1, h2, h3, h4⟩ := q18 (n := n + 6) (cs := cs) (a := a) (g := g) (c := c) (f := f) (R := R) (m := m) ha hg (by omega) hlog
  have hc : (C (n + 7)).call 18 [.obj 0, .int m] (St cs a g c f R) = some (.int r, St cs a' g' c' f' R) := by rw [cC]; exact e
  exact ⟨r, a', g', c', f', ev_call2 (ev_v h) rfl (x' := .fz (.int m)) (S2 := St cs a g c f R) rfl rfl hc, h1, h2, h3, h4⟩
abbrev smE : Co.CE := .call 34 (.cons (.var 1) (.cons (.bin .add (.const (.int (2))) (drE 2)) .nil))
theorem sm_ev {n : Nat} {σ : Co.Env} (h : σ[1]? = some (.val (.obj 0))) (ha : 0 ≤ a) (hg : 0 ≤ g) :
    ∃ (p : List Int) (a' g' c' f' : Int), evE (C (n + 7)) smE σ (St cs a g c f R) = some (.fz (Ip p), St cs a' g' c' f' R) ∧ p ∈ smallL ∧ 0 ≤ a' ∧ 0 ≤ g' := by
  obtain ⟨r, a1, g1, c1, f1, e1, h1, h2, h3, h4⟩ := dr_ev (n := n) (σ := σ) (m := 2) (cs := cs) (c := c) (f := f) (R := R) h (.inl rfl) ha hg
  obtain ⟨k, hk, rk⟩ : ∃ k : Nat, (k = 2 ∨ k = 3) ∧ 2 + r = (k : Int) := ⟨(2 + r).toNat, by omega, by omega⟩
  have e2 := bin_i (op := .add) (c_i (cx := C (n + 7)) (i := 2) (σ := σ) (S := St cs a g c f R)) e1 (k := 2 + r) rfl
  rw [rk] at e2
  obtain ⟨p, a2, g2, c2, f2, e3, hp, k1, k2⟩ := q34 (n := n + 4) (cs := cs) (c := c1) (f := f1) (R := R) hk h3 h4
  have hc : (C (n + 7)).call 34 [.obj 0, .int (k : Int)] (St cs a1 g1 c1 f1 R) = some (Ip p, St cs a2 g2 c2 f2 R) := by rw [cC]; exact e3
  exact ⟨p, a2, g2, c2, f2, ev_call2 (ev_v h) rfl e2 rfl hc, hp, k1, k2⟩
abbrev otL : Co.CE := .lst (.cons (.call 32 (.cons (.var 3) (.cons (.const (.int (2))) .nil))) (.cons smE (.cons (.var 3) .nil)))
abbrev otE : Co.CE := .call 19 (.cons (.var 1) (.cons otL .nil))
theorem ot_ev {n : Nat} {σ : Co.Env} {p : List Int} (h : σ[1]? = some (.val (.obj 0))) (h3 : σ[3]? = some (.val (Ip p))) (hp : p ∈ smallL) (ha : 0 ≤ a) (hg : 0 ≤ g) :
    ∃ (q : List Int) (a' g' c' f' : Int), evE (C (n + 7)) otE σ (St cs a g c f R) = some (.fz (Ip q), St cs a' g' c' f' R) ∧ Oth q ∧ 0 ≤ a' ∧ 0 ≤ g' := by
  have hc : (C (n + 7)).call 32 [Ip p, .int 2] (St cs a g c f R) = some (Ip (moreP p), St cs a g c f R) := by rw [cC]; exact q32 (n := n + 1) hp
  have e1 : evE (C (n + 7)) (.call 32 (.cons (.var 3) (.cons (.const (.int (2))) .nil))) σ (St cs a g c f R) = some (.fz (Ip (moreP p)), St cs a g c f R) := ev_call2 (ev_v h3) rfl (x' := .fz (.int 2)) (S2 := St cs a g c f R) rfl rfl hc
  obtain ⟨q, a1, g1, c1, f1, e2, hq, k1, k2⟩ := sm_ev (n := n) (σ := σ) (cs := cs) (c := c) (f := f) (R := R) h ha hg
  have z : ([Ip (moreP p), Ip q, Ip p] : List D).length ≤ sizeLine := sz100 (show 3 ≤ 1000 by decide)
  have el : evE (C (n + 7)) otL σ (St cs a g c f R) = some (.fr [Ip (moreP p), Ip q, Ip p], St cs a1 g1 c1 f1 R) := by
    have e3 := ev_v (c := C (n + 7)) (S := St cs a1 g1 c1 f1 R) h3
    rw [evE]
    simp only [evA, e1, e2, e3, Rv.d]
    rw [if_pos z]
  obtain ⟨j, e, a2, g2, c2, f2, e4, hj, he, k3, k4⟩ := pick_ev (n := n + 5) (cs := cs) (c := c1) (f := f1) (R := R) (l := [Ip (moreP p), Ip q, Ip p]) rfl (by simp) (by simp) k1 k2
  have h19 : (C (n + 7)).call 19 [.obj 0, .lst [Ip (moreP p), Ip q, Ip p]] (St cs a1 g1 c1 f1 R) = some (e, St cs a2 g2 c2 f2 R) := by rw [cC]; exact e4
  obtain ⟨q', rfl, hq'⟩ : ∃ q', e = Ip q' ∧ Oth q' := by
    have hj' : j = 0 ∨ j = 1 ∨ j = 2 := by have : j < 3 := hj; omega
    rcases hj' with rfl | rfl | rfl
    · exact ⟨moreP p, (Option.some.inj he).symm, oth_more hp⟩
    · exact ⟨q, (Option.some.inj he).symm, oth_small hq⟩
    · exact ⟨p, (Option.some.inj he).symm, oth_small hp⟩
  exact ⟨q', a2, g2, c2, f2, ev_call2 (ev_v h) rfl el rfl h19, hq', k3, k4⟩

/-! ### the special pair -/
abbrev moB : CB := .cons [5] (.set 5 (.call 29 (.cons (.var 5) (.cons (.tup (.cons (.bin .sub (.const (.int (0))) (.var 7)) (.cons (.const (.int (1))) .nil))) .nil)))) .nil
variable {x0 x1 x2 x3 x4 x5 x6 x7 x8 x9 x10 : Co.Slot}
theorem mo_turn {n : Nat} {S : Store} {p : List Int} {k : Int} (hk : k = 1 ∨ k = 2) (hz : p.length ≤ 100) :
    loopF (n + 7) (.nm 7) moB (.int k) [x0, x1, x2, x3, x4, .val (Ip p), x6, x7, x8, x9, x10] S = some (.nx [x0, x1, x2, x3, x4, .val (Ip (timesP p [0 - k, 1])), x6, .val (.int k), x8, x9, x10] S) := by
  have hm : ∀ x, ∀ y ∈ ([0 - k, 1] : List Int), IntMulOk x y := fun x y hy => .of_right (by
    have : y = 0 - k ∨ y = 1 := by simpa using hy
    rcases hk with rfl | rfl <;> rcases this with rfl | rfl <;> decide +kernel)
  have hc : (C (n + 7)).call 29 [Ip p, Ip [0 - k, 1]] S = some (Ip (timesP p [0 - k, 1]), S) := by rw [cC]; exact q29 (n := n + 3) hm (by simp; omega)
  have z2 : ([D.int (0 - k), D.int 1] : List D).length ≤ sizeLine := sz100 (show 2 ≤ 1000 by decide)
  have et : evE (C (n + 7)) (.tup (.cons (.bin .sub (.const (.int (0))) (.var 7)) (.cons (.const (.int (1))) .nil))) [x0, x1, x2, x3, x4, .val (Ip p), x6, .val (.int k), x8, x9, x10] S = some (.fz (Ip [0 - k, 1]), S) := by
    have e1 := bin_i (op := .sub) (c_i (cx := C (n + 7)) (i := 0) (σ := [x0, x1, x2, x3, x4, .val (Ip p), x6, .val (.int k), x8, x9, x10]) (S := S)) (ev_v (i := 7) (d := .int k) rfl) (k := 0 - k) rfl
    rw [evE, evA, e1]
    simp only [Rv.d, evA, evE]
    rw [if_pos z2]
    rfl
  have ea : (Pat.nm 7).asg (.int k) [x0, x1, x2, x3, x4, .val (Ip p), x6, x7, x8, x9, x10] = some [x0, x1, x2, x3, x4, .val (Ip p), x6, .val (.int k), x8, x9, x10] := rfl
  have es := ex_set (i := 5) (ev_call2 (ev_v (i := 5) (d := Ip p) rfl) rfl et rfl hc) rfl
  simp only [loopF, ea]
  exact (st_nx (fz := [5]) (r := .nil) (σ := [x0, x1, x2, x3, x4, .val (Ip p), x6, .val (.int k), x8, x9, x10]) rfl es).trans rfl
abbrev moF : CS := .for (.nm 7) (.rng2 (.const (.int (1))) (.bin .add (.var 6) (.const (.int (1))))) moB
theorem mo_for {n : Nat} {S : Store} {r : Int} (hr : r = 0 ∨ r = 1) : ∃ (m : List Int) (y7 : Co.Slot), exS (C (n + 7)) moF [x0, x1, x2, x3, x4, .val (Ip [0, 1]), .val (.int (1 + r)), x7, x8, x9, x10] S = some (.nx [x0, x1, x2, x3, x4, .val (Ip m), .val (.int (1 + r)), y7, x8, x9, x10] S) ∧ m.length ≤ 100 ∧ tidyP (sumP [0, 0, 1] m) ∈ smallL := by
  rcases hr with rfl | rfl
  · have ei : evI (C (n + 7)) true (.rng2 (.const (.int (1))) (.bin .add (.var 6) (.const (.int (1))))) [x0, x1, x2, x3, x4, .val (Ip [0, 1]), .val (.int (1 + 0)), x7, x8, x9, x10] S = some ([.int 1], S) := by
      have e1 := bin_i (op := .add) (ev_v (c := C (n + 7)) (i := 6) (σ := [x0, x1, x2, x3, x4, .val (Ip [0, 1]), .val (.int (1 + 0)), x7, x8, x9, x10]) (S := S) rfl) c_i (j := 1) (k := 2) rfl
      simp only [evI, evE] at e1 ⊢
      rw [e1]
      simp only
      rw [if_pos (by decide)]
      rfl
    exact ⟨timesP [0, 1] [0 - 1, 1], _, for_of ei (forGo_nx (mo_turn (.inl rfl) (by simp)) rfl), by decide +kernel, by decide +kernel⟩
  · have ei : evI (C (n + 7)) true (.rng2 (.const (.int (1))) (.bin .add (.var 6) (.const (.int (1))))) [x0, x1, x2, x3, x4, .val (Ip [0, 1]), .val (.int (1 + 1)), x7, x8, x9, x10] S = some ([.int 1, .int 2], S) := by
      have e1 := bin_i (op := .add) (ev_v (c := C (n + 7)) (i := 6) (σ := [x0, x1, x2, x3, x4, .val (Ip [0, 1]), .val (.int (1 + 1)), x7, x8, x9, x10]) (S := S) rfl) c_i (j := 1) (k := 3) rfl
      simp only [evI, evE] at e1 ⊢
      rw [e1]
      simp only
      rw [if_pos (by decide)]
      rfl
    exact ⟨timesP (timesP [0, 1] [0 - 1, 1]) [0 - 2, 1], _, for_of ei (forGo_nx (mo_turn (.inl rfl) (by simp)) (forGo_nx (mo_turn (.inr rfl) (by decide +kernel)) rfl)), by decide +kernel, by decide +kernel⟩
abbrev spB : CB := (.cons [1] (.par [5, 6] (.cons (.tup (.cons (.const (.int (0))) (.cons (.const (.int (1))) .nil))) (.cons (.bin .add (.const (.int (1))) (drE 2)) .nil))) (.cons [] moF (.cons [5] (.par [3, 4] (.cons (.tup (.cons (.const (.int (0))) (.cons (.const (.int (0))) (.cons (.const (.int (1))) .nil)))) (.cons (.call 28 (.cons (.tup (.cons (.const (.int (0))) (.cons (.const (.int (0))) (.cons (.const (.int (1))) .nil)))) (.cons (.var 5) .nil))) .nil))) .nil)))
theorem t001 {c : Co.Ctx} {σ : Co.Env} {S : Store} : evE c (.tup (.cons (.const (.int (0))) (.cons (.const (.int (0))) (.cons (.const (.int (1))) .nil)))) σ S = some (.fz (Ip [0, 0, 1]), S) := by
  have z : ([D.int 0, D.int 0, D.int 1] : List D).length ≤ sizeLine := sz100 (show 3 ≤ 1000 by decide)
  simp only [evE, evA, Rv.d]
  rw [if_pos z]
  rfl
theorem t01 {c : Co.Ctx} {σ : Co.Env} {S : Store} : evE c (.tup (.cons (.const (.int (0))) (.cons (.const (.int (1))) .nil))) σ S = some (.fz (Ip [0, 1]), S) := by
  have z : ([D.int 0, D.int 1] : List D).length ≤ sizeLine := sz100 (show 2 ≤ 1000 by decide)
  simp only [evE, evA, Rv.d]
  rw [if_pos z]
  rfl
theorem m001 : ([0, 0, 1] : List Int) ∈ smallL := by decide +kernel
theorem sp_b {n : Nat} (ha : 0 ≤ a) (hg : 0 ≤ g) : ∃ (q : List Int) (y5 y6 y7 : Co.Slot) (a' g' c' f' : Int), exB (C (n + 7)) spB [x0, .val (.obj 0), x2, x3, x4, x5, x6, x7, x8, x9, x10] (St cs a g c f R) = some (.nx [x0, .val (.obj 0), x2, .val (Ip [0, 0, 1]), .val (Ip q), y5, y6, y7, x8, x9, x10] (St cs a' g' c' f' R)) ∧ q ∈ smallL ∧ 0 ≤ a' ∧ 0 ≤ g' := by
  obtain ⟨r, a1, g1, c1, f1, e1, h1, h2, h3, h4⟩ := dr_ev (n := n) (σ := [x0, .val (.obj 0), x2, x3, x4, x5, x6, x7, x8, x9, x10]) (m := 2) (cs := cs) (c := c) (f := f) (R := R) rfl (.inl rfl) ha hg
  have e2 := bin_i (op := .add) (c_i (cx := C (n + 7)) (i := 1) (σ := [x0, .val (.obj 0), x2, x3, x4, x5, x6, x7, x8, x9, x10]) (S := St cs a g c f R)) e1 (k := 1 + r) rfl
  have eA : evA (C (n + 7)) (.cons (.tup (.cons (.const (.int (0))) (.cons (.const (.int (1))) .nil))) (.cons (.bin .add (.const (.int (1))) (drE 2)) .nil)) [x0, .val (.obj 0), x2, x3, x4, x5, x6, x7, x8, x9, x10] (St cs a g c f R) = some ([Ip [0, 1], .int (1 + r)], St cs a1 g1 c1 f1 R) := by
    simp only [evA, t01, e2, Rv.d]
  have u1 := ex_par (is := [5, 6]) (σ' := [x0, .val (.obj 0), x2, x3, x4, .val (Ip [0, 1]), .val (.int (1 + r)), x7, x8, x9, x10]) eA rfl
  obtain ⟨m, y7, u2, lm, hq⟩ := mo_for (n := n) (x0 := x0) (x1 := .val (.obj 0)) (x2 := x2) (x3 := x3) (x4 := x4) (x7 := x7) (x8 := x8) (x9 := x9) (x10 := x10) (S := St cs a1 g1 c1 f1 R) (r := r) (by omega)
  have hc : (C (n + 7)).call 28 [Ip [0, 0, 1], Ip m] (St cs a1 g1 c1 f1 R) = some (Ip (tidyP (sumP [0, 0, 1] m)), St cs a1 g1 c1 f1 R) := by rw [cC]; exact q28 (n := n + 3) (by simp) (by omega)
  have e3 := ev_call2 (σ := [x0, .val (.obj 0), x2, x3, x4, .val (Ip m), .val (.int (1 + r)), y7, x8, x9, x10]) t001 rfl (ev_v (i := 5) rfl) rfl hc
  have eB : evA (C (n + 7)) (.cons (.tup (.cons (.const (.int (0))) (.cons (.const (.int (0))) (.cons (.const (.int (1))) .nil)))) (.cons (.call 28 (.cons (.tup (.cons (.const (.int (0))) (.cons (.const (.int (0))) (.cons (.const (.int (1))) .nil)))) (.cons (.var 5) .nil))) .nil)) [x0, .val (.obj 0), x2, x3, x4, .val (Ip m), .val (.int (1 + r)), y7, x8, x9, x10] (St cs a1 g1 c1 f1 R) = some ([Ip [0, 0, 1], Ip (tidyP (sumP [0, 0, 1] m))], St cs a1 g1 c1 f1 R) := by
    simp only [evA, t001, e3, Rv.d]
  have u3 := ex_par (is := [3, 4]) (σ' := [x0, .val (.obj 0), x2, .val (Ip [0, 0, 1]), .val (Ip (tidyP (sumP [0, 0, 1] m))), .val (Ip m), .val (.int (1 + r)), y7, x8, x9, x10]) eB rfl
  have v3 := (st_nx (fz := [5]) (r := .nil) (σ := [x0, .val (.obj 0), x2, x3, x4, .val (Ip m), .val (.int (1 + r)), y7, x8, x9, x10]) rfl u3).trans (show exB (C (n + 7)) .nil _ _ = some (.nx _ _) from rfl)
  have v2 := (st_nx (fz := []) (σ := [x0, .val (.obj 0), x2, x3, x4, .val (Ip [0, 1]), .val (.int (1 + r)), x7, x8, x9, x10]) rfl u2).trans v3
  have v1 := (st_nx (fz := [1]) (σ := [x0, .val (.obj 0), x2, x3, x4, x5, x6, x7, x8, x9, x10]) rfl u1).trans v2
  exact ⟨_, _, _, _, a1, g1, c1, f1, v1, hq, h3, h4⟩
abbrev spS : CS := .ifs (.tr (.cmp .eq (drE 3) (.const (.int (0))))) spB .nil
theorem sp_ev {n : Nat} {p q : List Int} (hp : p ∈ smallL) (hq : Oth q) (ha : 0 ≤ a) (hg : 0 ≤ g) : ∃ (p' q' : List Int) (y5 y6 y7 : Co.Slot) (a' g' c' f' : Int), exS (C (n + 7)) spS [x0, .val (.obj 0), x2, .val (Ip p), .val (Ip q), x5, x6, x7, x8, x9, x10] (St cs a g c f R) = some (.nx [x0, .val (.obj 0), x2, .val (Ip p'), .val (Ip q'), y5, y6, y7, x8, x9, x10] (St cs a' g' c' f' R)) ∧ p' ∈ smallL ∧ Oth q' ∧ 0 ≤ a' ∧ 0 ≤ g' := by
  obtain ⟨r, a1, g1, c1, f1, e1, h1, h2, h3, h4⟩ := dr_ev (n := n) (σ := [x0, .val (.obj 0), x2, .val (Ip p), .val (Ip q), x5, x6, x7, x8, x9, x10]) (m := 3) (cs := cs) (c := c) (f := f) (R := R) rfl (.inr rfl) ha hg
  have et := ev_tr (cmp_i (op := .eq) e1 c_i (j := 0) (z := decide (r = 0)) (by simp only [cmpR, Rv.tree]; exact eqI r 0)) rfl
  by_cases h0 : r = 0
  · rw [decide_eq_true h0] at et
    obtain ⟨q', y5, y6, y7, a2, g2, c2, f2, e2, k1, k2, k3⟩ := sp_b (n := n) (cs := cs) (c := c1) (f := f1) (R := R) (x0 := x0) (x2 := x2) (x3 := .val (Ip p)) (x4 := .val (Ip q)) (x5 := x5) (x6 := x6) (x7 := x7) (x8 := x8) (x9 := x9) (x10 := x10) h3 h4
    exact ⟨_, q', y5, y6, y7, a2, g2, c2, f2, ex_ifT et e2, m001, oth_small k1, k2, k3⟩
  · rw [decide_eq_false h0] at et
    exact ⟨p, q, x5, x6, x7, a1, g1, c1, f1, ex_ifF et rfl, hp, hq, h3, h4⟩
end
end K53
end

section
set_option maxHeartbeats 0
set_option Elab.async false
set_option linter.all false
set_option maxRecDepth 100000
/-! K53l: what is told of a pair. -/
namespace K53
open PySem L2 Co
abbrev KD (d : D) : Prop := d = .non ∨ (∃ i, d = .int i) ∨ (∃ b, d = .bl b) ∨ (∃ s, d = .str s) ∨ ∃ l, d = .tup l
section
variable {x0 x1 x2 x3 x4 x5 x6 x7 x8 x9 x10 : Co.Slot} {p q : List Int}
theorem ev_isnot {c : Co.Ctx} {i : Nat} {σ : Co.Env} {S : Store} {d : D} (h : σ[i]? = some (.val d)) : evE c (.cmp .isnot (.var i) (.const .non)) σ S = some (.fz (.bl (!Co.isNon d)), S) := by
  refine ev_cmp (ev_v h) (y := .fz .non) (S2 := S) rfl ?_
  simp only [cmpS, neIns, Bool.false_eq_true, if_false, cmpR]
theorem ev_is {c : Co.Ctx} {i : Nat} {σ : Co.Env} {S : Store} {d : D} (h : σ[i]? = some (.val d)) : evE c (.cmp .is (.var i) (.const .non)) σ S = some (.fz (.bl (Co.isNon d)), S) := by
  refine ev_cmp (ev_v h) (y := .fz .non) (S2 := S) rfl ?_
  simp only [cmpS, neIns, Bool.false_eq_true, if_false, cmpR]
theorem ev_andT {c : Co.Ctx} {e1 e2 : Co.CE} {σ : Co.Env} {S S1 : Store} {o : Option (Rv × Store)} (h : evE c e1 σ S = some (.fz (.bl true), S1)) (k : evE c e2 σ S1 = o) : evE c (.andV e1 e2) σ S = o := by rw [evE, h]; exact k
theorem ev_andF {c : Co.Ctx} {e1 e2 : Co.CE} {σ : Co.Env} {S S1 : Store} (h : evE c e1 σ S = some (.fz (.bl false), S1)) : evE c (.andV e1 e2) σ S = some (.fz (.bl false), S1) := by rw [evE, h]
abbrev anE : Co.CE := .andV (.cmp .isnot (.var 8) (.const .non)) (.call 20 (.cons (.var 9) (.cons (.var 8) .nil)))
/-- told of Apart(d), and due -/
theorem told_ev {n : Nat} (ok : TwoOk p q) {d : D} (hd : KD d) : ∃ z : Bool, (∀ (S : Store) (i : Nat), S[i]? = some (.ins 1 [("number", d)]) → callN L.prg (n + 7) 16 [Ip p, Ip q, .obj i] S = some (.bl z, S)) ∧
    (∀ (S : Store) (σ : Co.Env), σ[8]? = some (.val (dueD p q)) → σ[9]? = some (.val d) → evE (C (n + 7)) anE σ S = some (.fz (.bl z), S)) ∧ (∀ x : Nat, dueD p q = .int (x : Int) → z = sameI (x : Int) d) := by
  rcases dueD_kind p q with e | ⟨x, e⟩
  · refine ⟨false, fun S i hi => ?_, fun S σ h8 h9 => ?_, fun x hx => ?_⟩
    · have h := q16a (n := n) ok hi hd
      rw [e] at h
      exact h
    · rw [e] at h8
      exact ev_andF (ev_isnot h8)
    · rw [e] at hx; cases hx
  · refine ⟨sameI (x : Int) d, fun S i hi => ?_, fun S σ h8 h9 => ?_, fun y hy => ?_⟩
    · have h := q16a (n := n) ok hi hd
      rw [e] at h
      exact h
    · rw [e] at h8
      have hc : (C (n + 7)).call 20 [d, .int (x : Int)] S = some (.bl (sameI (x : Int) d), S) := by rw [cC]; exact q20 (n := n + 6) hd
      exact ev_andT (ev_isnot h8) (ev_call2 (ev_v h9) rfl (ev_v h8) rfl hc)
    · rw [e] at hy
      injection hy with hy
      rw [hy]
abbrev nuT : CT := .not (.tr (.call 21 (.cons (.call 16 (.cons (.var 3) (.cons (.var 4) (.cons (.mk 1 (.cons (.var 9) .nil)) .nil)))) (.cons anE .nil))))
abbrev nuB : CB := .cons [3, 4, 9, 9, 8] (.ifs nuT (.cons [] (.ret (.const (.bl false))) .nil) .nil) .nil
theorem says {n : Nat} {z : Bool} {S : Store} : (C (n + 7)).call 21 [.bl z, .bl z] S = some (.bl true, S) := by
  rw [cC, q21 (n := n + 6)]
  simp
theorem nu_turn {n : Nat} {S : Store} (ok : TwoOk p q) {d : D} (hd : KD d) (h6 : ∀ S, callN L.prg (n + 6) 6 [d] S = some (d, S)) :
    loopF (n + 7) (.nm 9) nuB d [x0, x1, x2, .val (Ip p), .val (Ip q), x5, x6, x7, .val (dueD p q), x9, x10] S = some (.nx [x0, x1, x2, .val (Ip p), .val (Ip q), x5, x6, x7, .val (dueD p q), .val d, x10] (S ++ [.ins 1 [("number", d)]])) := by
  obtain ⟨z, h1, h2, -⟩ := told_ev (n := n) ok hd
  have ea : (Pat.nm 9).asg d [x0, x1, x2, .val (Ip p), .val (Ip q), x5, x6, x7, .val (dueD p q), x9, x10] = some [x0, x1, x2, .val (Ip p), .val (Ip q), x5, x6, x7, .val (dueD p q), .val d, x10] := rfl
  have em := mk1 (n := n + 6) (e := .var 9) (σ := [x0, x1, x2, .val (Ip p), .val (Ip q), x5, x6, x7, .val (dueD p q), .val d, x10]) (S := S) (ev_v rfl) rfl h6
  have hi : (S ++ [Ob.ins 1 [("number", d)]])[S.length]? = some (.ins 1 [("number", d)]) := by simp
  have hc : (C (n + 7)).call 16 [Ip p, Ip q, .obj S.length] (S ++ [Ob.ins 1 [("number", d)]]) = some (.bl z, S ++ [Ob.ins 1 [("number", d)]]) := by rw [cC]; exact h1 _ _ hi
  have e1 := ev_call3 (ev_v (i := 3) rfl) rfl (ev_v (i := 4) rfl) rfl em rfl hc
  have e2 := h2 (S ++ [Ob.ins 1 [("number", d)]]) [x0, x1, x2, .val (Ip p), .val (Ip q), x5, x6, x7, .val (dueD p q), .val d, x10] rfl rfl
  have et := ev_not (ev_tr (ev_call2 e1 rfl e2 rfl says) rfl)
  simp only [loopF, ea]
  exact (st_nx (fz := [3, 4, 9, 9, 8]) (r := .nil) (σ := [x0, x1, x2, .val (Ip p), .val (Ip q), x5, x6, x7, .val (dueD p q), .val d, x10]) rfl (ex_ifF et rfl)).trans rfl
theorem nu_for {n : Nat} (ok : TwoOk p q) : ∀ (ds : List D) (x9 : Co.Slot) (S : Store), (∀ d ∈ ds, KD d ∧ ∀ S, callN L.prg (n + 6) 6 [d] S = some (d, S)) →
    ∃ (y9 : Co.Slot) (T : Store), forGo (loopF (n + 7) (.nm 9) nuB) ds [x0, x1, x2, .val (Ip p), .val (Ip q), x5, x6, x7, .val (dueD p q), x9, x10] S = some (.nx [x0, x1, x2, .val (Ip p), .val (Ip q), x5, x6, x7, .val (dueD p q), y9, x10] (S ++ T))
  | [], x9, S, _ => ⟨x9, [], by simp [forGo]⟩
  | d :: ds, x9, S, h => by
    obtain ⟨y9, T, e⟩ := nu_for ok ds (.val d) (S ++ [.ins 1 [("number", d)]]) (fun d' h' => h d' (by simp [h']))
    obtain ⟨k1, k2⟩ := h d (by simp)
    refine ⟨y9, .ins 1 [("number", d)] :: T, ?_⟩
    have : S ++ .ins 1 [("number", d)] :: T = S ++ [.ins 1 [("number", d)]] ++ T := by simp
    rw [this]
    exact forGo_nx (nu_turn ok k1 k2) e
abbrev tenA : CA := (.cons (.const (.int (0))) (.cons (.const (.int (1))) (.cons (.const (.int (2))) (.cons (.const (.int (3))) (.cons (.const .non) (.cons (.const (.bl true)) (.cons (.const (.bl false)) (.cons (.const (.str "0")) (.cons (.neg (.const (.int (1)))) (.cons (.tup (.cons (.const (.int (0))) .nil)) .nil))))))))))
abbrev ten : List D := [.int 0, .int 1, .int 2, .int 3, .non, .bl true, .bl false, .str "0", .int (-1), .tup [.int 0]]
theorem ten_ok {n : Nat} : ∀ d ∈ ten, KD d ∧ ∀ S, callN L.prg (n + 6) 6 [d] S = some (d, S) := by
  intro d hd
  have cases : (Atom d) ∨ d = .tup [.int 0] := by
    simp only [ten, List.mem_cons, List.not_mem_nil, or_false] at hd
    rcases hd with rfl | rfl | rfl | rfl | rfl | rfl | rfl | rfl | rfl | rfl
    · exact .inl (.inr (.inl ⟨_, rfl⟩))
    · exact .inl (.inr (.inl ⟨_, rfl⟩))
    · exact .inl (.inr (.inl ⟨_, rfl⟩))
    · exact .inl (.inr (.inl ⟨_, rfl⟩))
    · exact .inl (.inl rfl)
    · exact .inl (.inr (.inr (.inl ⟨_, rfl⟩)))
    · exact .inl (.inr (.inr (.inl ⟨_, rfl⟩)))
    · exact .inl (.inr (.inr (.inr ⟨_, rfl⟩)))
    · exact .inl (.inr (.inl ⟨_, rfl⟩))
    · exact .inr rfl
  rcases cases with k | rfl
  · refine ⟨?_, fun S => q6a (n := n + 5) k⟩
    rcases k with h | h | h | h
    · exact .inl h
    · exact .inr (.inl h)
    · exact .inr (.inr (.inl h))
    · exact .inr (.inr (.inr (.inl h)))
  · refine ⟨.inr (.inr (.inr (.inr ⟨_, rfl⟩))), fun S => ?_⟩
    have h := q6t (n := n + 5) (d := .tup [.int 0]) (l := [.int 0]) (l' := []) (S := S) (.inl rfl) (by simp) id (fun e he => by
      simp only [List.mem_cons, List.not_mem_nil, or_false] at he
      subst he
      exact q6a (n := n + 4) (.inr (.inl ⟨_, rfl⟩)))
    simpa using h
abbrev nuS : CS := .for (.nm 9) (.seq (.tup tenA)) nuB
theorem nu_ev {n : Nat} {S : Store} (ok : TwoOk p q) : ∃ (y9 : Co.Slot) (T : Store), exS (C (n + 7)) nuS [x0, x1, x2, .val (Ip p), .val (Ip q), x5, x6, x7, .val (dueD p q), x9, x10] S = some (.nx [x0, x1, x2, .val (Ip p), .val (Ip q), x5, x6, x7, .val (dueD p q), y9, x10] (S ++ T)) := by
  obtain ⟨y9, T, e⟩ := nu_for (n := n) (x0 := x0) (x1 := x1) (x2 := x2) (x5 := x5) (x6 := x6) (x7 := x7) (x10 := x10) ok ten x9 S ten_ok
  refine ⟨y9, T, for_of ?_ e⟩
  have z1 : ([D.int 0] : List D).length ≤ sizeLine := sz100 (show 1 ≤ 1000 by decide)
  have z10 : ten.length ≤ sizeLine := sz100 (show 10 ≤ 1000 by decide)
  have eA : ∀ σ S, evA (C (n + 7)) tenA σ S = some (ten, S) := fun σ S => by
    simp only [evA, evE, Rv.d]
    rw [if_pos z1]
  simp only [evI]
  rw [evE, eA]
  simp only
  rw [if_pos z10]
  rfl
/-! ### Apart(due), Together(), a wrong paper -/
abbrev duS : CS := .ifs (.and (.tr (.cmp .isnot (.var 8) (.const .non))) (.tr (.cmp .isnot (.call 16 (.cons (.var 3) (.cons (.var 4) (.cons (.mk 1 (.cons (.var 8) .nil)) .nil)))) (.const (.bl true))))) (.cons [] (.ret (.const (.bl false))) .nil) .nil
theorem ev_isnotB {c : Co.Ctx} {e : Co.CE} {σ : Co.Env} {S S1 : Store} {z w : Bool} (h : evE c e σ S = some (.fz (.bl z), S1)) : evE c (.cmp .isnot e (.const (.bl w))) σ S = some (.fz (.bl (!(z == w))), S1) := by
  refine ev_cmp h (y := .fz (.bl w)) (S2 := S1) rfl ?_
  simp only [cmpS, neIns, Bool.false_eq_true, if_false, cmpR, isBl]
theorem du_ev {n : Nat} {S : Store} (ok : TwoOk p q) : ∃ T : Store, exS (C (n + 7)) duS [x0, x1, x2, .val (Ip p), .val (Ip q), x5, x6, x7, .val (dueD p q), x9, x10] S = some (.nx [x0, x1, x2, .val (Ip p), .val (Ip q), x5, x6, x7, .val (dueD p q), x9, x10] (S ++ T)) := by
  rcases dueD_kind p q with e | ⟨x, e⟩
  · refine ⟨[], ex_ifF (S1 := S) ?_ (by simp [exB])⟩
    have h := ev_tr (ev_isnot (c := C (n + 7)) (i := 8) (σ := [x0, x1, x2, .val (Ip p), .val (Ip q), x5, x6, x7, .val (dueD p q), x9, x10]) (S := S) (d := dueD p q) rfl) (z := false) (by rw [e]; rfl)
    rw [evT, h]
  · obtain ⟨z, h1, -, h3⟩ := told_ev (n := n) ok (d := .int (x : Int)) (.inr (.inl ⟨_, rfl⟩))
    have hz : z = true := by rw [h3 x e]; simp [sameI]
    subst hz
    refine ⟨[.ins 1 [("number", .int (x : Int))]], ex_ifF ?_ rfl⟩
    have h := ev_tr (ev_isnot (c := C (n + 7)) (i := 8) (σ := [x0, x1, x2, .val (Ip p), .val (Ip q), x5, x6, x7, .val (dueD p q), x9, x10]) (S := S) (d := dueD p q) rfl) (z := true) (by rw [e]; rfl)
    have em := mk1 (n := n + 6) (e := .var 8) (σ := [x0, x1, x2, .val (Ip p), .val (Ip q), x5, x6, x7, .val (dueD p q), x9, x10]) (S := S) (d := .int (x : Int)) (d' := .int (x : Int)) (x := .fz (dueD p q)) (ev_v rfl) (by rw [e]; rfl) (fun S => q6a (n := n + 5) (.inr (.inl ⟨_, rfl⟩)))
    have hi : (S ++ [Ob.ins 1 [("number", .int (x : Int))]])[S.length]? = some (.ins 1 [("number", .int (x : Int))]) := by simp
    have hc : (C (n + 7)).call 16 [Ip p, Ip q, .obj S.length] (S ++ [Ob.ins 1 [("number", .int (x : Int))]]) = some (.bl true, S ++ [Ob.ins 1 [("number", .int (x : Int))]]) := by rw [cC]; exact h1 _ _ hi
    have e1 := ev_tr (ev_isnotB (w := true) (ev_call3 (ev_v (i := 3) rfl) rfl (ev_v (i := 4) rfl) rfl em rfl hc)) (z := false) rfl
    rw [evT, h]
    exact e1
abbrev toS : CS := .ifs (.not (.tr (.call 21 (.cons (.call 16 (.cons (.var 3) (.cons (.var 4) (.cons (.mk 0 .nil) .nil)))) (.cons (.cmp .is (.var 8) (.const .non)) .nil))))) (.cons [] (.ret (.const (.bl false))) .nil) .nil
theorem to_ev {n : Nat} {S : Store} (ok : TwoOk p q) : ∃ T : Store, exS (C (n + 7)) toS [x0, x1, x2, .val (Ip p), .val (Ip q), x5, x6, x7, .val (dueD p q), x9, x10] S = some (.nx [x0, x1, x2, .val (Ip p), .val (Ip q), x5, x6, x7, .val (dueD p q), x9, x10] (S ++ T)) := by
  refine ⟨[.ins 0 []], ex_ifF ?_ rfl⟩
  have hi : (S ++ [Ob.ins 0 []])[S.length]? = some (.ins 0 []) := by simp
  have h0 : isTy (S ++ [Ob.ins 0 []]) (.fz (.obj S.length)) (.own 0) = some true := by simp [isTy, hi]
  have h1 : isTy (S ++ [Ob.ins 0 []]) (.fz (.obj S.length)) (.own 1) = some false := by simp [isTy, hi]
  have hc : (C (n + 7)).call 16 [Ip p, Ip q, .obj S.length] (S ++ [Ob.ins 0 []]) = some (.bl (Co.isNon (dueD p q)), S ++ [Ob.ins 0 []]) := by
    rw [cC, q16n (n := n) ok h0 h1 (.inr rfl)]
    rcases dueD_kind p q with e | ⟨x, e⟩ <;> rw [e] <;> rfl
  have e1 := ev_call3 (σ := [x0, x1, x2, .val (Ip p), .val (Ip q), x5, x6, x7, .val (dueD p q), x9, x10]) (ev_v (i := 3) rfl) rfl (ev_v (i := 4) rfl) rfl mk0 rfl hc
  have e2 := ev_is (c := C (n + 7)) (i := 8) (σ := [x0, x1, x2, .val (Ip p), .val (Ip q), x5, x6, x7, .val (dueD p q), x9, x10]) (S := S ++ [Ob.ins 0 []]) (d := dueD p q) rfl
  exact ev_not (ev_tr (ev_call2 e1 rfl e2 rfl says) rfl)
abbrev wrL : Co.CE := .lst (.cons (.const .non) (.cons (.var 8) (.cons (.const (.bl true)) (.cons (.tup (.cons (.var 8) .nil)) .nil))))
abbrev wrS : CS := .ifs (.tr (.cmp .isnot (.call 16 (.cons (.var 3) (.cons (.var 4) (.cons (.call 19 (.cons (.var 1) (.cons wrL .nil))) .nil)))) (.const (.bl false)))) (.cons [] (.ret (.const (.bl false))) .nil) .nil
theorem wr_ev {n : Nat} {cs : List Int} {a g c f : Int} {R : Store} (ok : TwoOk p q) (ha : 0 ≤ a) (hg : 0 ≤ g) : ∃ (a' g' c' f' : Int), exS (C (n + 7)) wrS [x0, .val (.obj 0), x2, .val (Ip p), .val (Ip q), x5, x6, x7, .val (dueD p q), x9, x10] (St cs a g c f R) = some (.nx [x0, .val (.obj 0), x2, .val (Ip p), .val (Ip q), x5, x6, x7, .val (dueD p q), x9, x10] (St cs a' g' c' f' R)) ∧ 0 ≤ a' ∧ 0 ≤ g' := by
  have z1 : ([dueD p q] : List D).length ≤ sizeLine := sz100 (show 1 ≤ 1000 by decide)
  have z4 : ([.non, dueD p q, .bl true, .tup [dueD p q]] : List D).length ≤ sizeLine := sz100 (show 4 ≤ 1000 by decide)
  have el : evE (C (n + 7)) wrL [x0, .val (.obj 0), x2, .val (Ip p), .val (Ip q), x5, x6, x7, .val (dueD p q), x9, x10] (St cs a g c f R) = some (.fr [.non, dueD p q, .bl true, .tup [dueD p q]], St cs a g c f R) := by
    have e8 : evE (C (n + 7)) (.var 8) [x0, .val (.obj 0), x2, .val (Ip p), .val (Ip q), x5, x6, x7, .val (dueD p q), x9, x10] (St cs a g c f R) = some (.fz (dueD p q), St cs a g c f R) := ev_v rfl
    have et : evE (C (n + 7)) (.tup (.cons (.var 8) .nil)) [x0, .val (.obj 0), x2, .val (Ip p), .val (Ip q), x5, x6, x7, .val (dueD p q), x9, x10] (St cs a g c f R) = some (.fz (.tup [dueD p q]), St cs a g c f R) := by
      rw [evE]; simp only [evA, e8, Rv.d]; rw [if_pos z1]
    have c1 : ∀ (d : D) σ S, evE (C (n + 7)) (.const d) σ S = some (.fz d, S) := fun d σ S => by rw [evE]
    rw [evE]
    simp only [evA, e8, et, c1, Rv.d]
    rw [if_pos z4]
  obtain ⟨j, e, a2, g2, c2, f2, e4, hj, he, k3, k4⟩ := pick_ev (n := n + 5) (cs := cs) (c := c) (f := f) (R := R) (l := [.non, dueD p q, .bl true, .tup [dueD p q]]) rfl (by simp) (by simp) ha hg
  have h19 : (C (n + 7)).call 19 [.obj 0, .lst [.non, dueD p q, .bl true, .tup [dueD p q]]] (St cs a g c f R) = some (e, St cs a2 g2 c2 f2 R) := by rw [cC]; exact e4
  have e3 := ev_call2 (i := 19) (ev_v (c := C (n + 7)) (i := 1) (σ := [x0, .val (.obj 0), x2, .val (Ip p), .val (Ip q), x5, x6, x7, .val (dueD p q), x9, x10]) (S := St cs a g c f R) rfl) rfl el rfl h19
  have hk : isTy (St cs a2 g2 c2 f2 R) (.fz e) (.own 0) = some false ∧ isTy (St cs a2 g2 c2 f2 R) (.fz e) (.own 1) = some false := by
    have hj' : j = 0 ∨ j = 1 ∨ j = 2 ∨ j = 3 := by have : j < 4 := hj; omega
    rcases hj' with rfl | rfl | rfl | rfl
    · rw [← (Option.some.inj he : D.non = e)]; exact ⟨rfl, rfl⟩
    · rw [← (Option.some.inj he : dueD p q = e)]
      rcases dueD_kind p q with e | ⟨x, e⟩ <;> rw [e] <;> exact ⟨rfl, rfl⟩
    · rw [← (Option.some.inj he : D.bl true = e)]; exact ⟨rfl, rfl⟩
    · rw [← (Option.some.inj he : D.tup [dueD p q] = e)]; exact ⟨rfl, rfl⟩
  have hc : (C (n + 7)).call 16 [Ip p, Ip q, e] (St cs a2 g2 c2 f2 R) = some (.bl false, St cs a2 g2 c2 f2 R) := by
    rw [cC, q16n (n := n) ok hk.1 hk.2 (.inr rfl)]
    rcases dueD_kind p q with e | ⟨x, e⟩ <;> rw [e]
  have e5 := ev_tr (ev_isnotB (w := false) (ev_call3 (ev_v (i := 3) rfl) rfl (ev_v (i := 4) rfl) rfl e3 rfl hc)) (z := false) rfl
  exact ⟨a2, g2, c2, f2, ex_ifF e5 rfl, k3, k4⟩
end
end K53
end

section
set_option maxHeartbeats 0
set_option Elab.async false
set_option linter.all false
set_option maxRecDepth 100000
/-! K53m: the law's body. -/
namespace K53
open PySem L2 Co
section
variable {cs : List Int} {a g c f : Int} {R : Store}
abbrev lapB : CB := (.cons [1, 1] (.set 3 smE) (.cons [1, 3, 1, 1, 3] (.set 4 otE) (.cons [1] spS (.cons [3, 4] (.set 8 (.call 35 (.cons (.var 3) (.cons (.var 4) .nil)))) (.cons [] nuS (.cons [3, 4, 8] duS (.cons [3, 4] toS (.cons [3, 4, 1, 8, 8] wrS .nil))))))))
theorem lap_ev {n : Nat} {d : D} {x0 x2 x3 x4 x5 x6 x7 x8 x9 x10 : Co.Slot} (ha : 0 ≤ a) (hg : 0 ≤ g) : ∃ (y3 y4 y5 y6 y7 y8 y9 : Co.Slot) (a' g' c' f' : Int) (T : Store),
    loopF (n + 7) (.nm 2) lapB d [x0, .val (.obj 0), x2, x3, x4, x5, x6, x7, x8, x9, x10] (St cs a g c f R) = some (.nx [x0, .val (.obj 0), .val d, y3, y4, y5, y6, y7, y8, y9, x10] (St cs a' g' c' f' T)) ∧ 0 ≤ a' ∧ 0 ≤ g' := by
  have ea : (Pat.nm 2).asg d [x0, .val (.obj 0), x2, x3, x4, x5, x6, x7, x8, x9, x10] = some [x0, .val (.obj 0), .val d, x3, x4, x5, x6, x7, x8, x9, x10] := rfl
  obtain ⟨p, a1, g1, c1, f1, e1, hp, h1, h2⟩ := sm_ev (n := n) (σ := [x0, .val (.obj 0), .val d, x3, x4, x5, x6, x7, x8, x9, x10]) (cs := cs) (c := c) (f := f) (R := R) rfl ha hg
  have u1 := ex_set (i := 3) (σ' := [x0, .val (.obj 0), .val d, .val (Ip p), x4, x5, x6, x7, x8, x9, x10]) e1 rfl
  obtain ⟨q, a2, g2, c2, f2, e2, hq, h3, h4⟩ := ot_ev (n := n) (σ := [x0, .val (.obj 0), .val d, .val (Ip p), x4, x5, x6, x7, x8, x9, x10]) (cs := cs) (c := c1) (f := f1) (R := R) rfl rfl hp h1 h2
  have u2 := ex_set (i := 4) (σ' := [x0, .val (.obj 0), .val d, .val (Ip p), .val (Ip q), x5, x6, x7, x8, x9, x10]) e2 rfl
  obtain ⟨p', q', y5, y6, y7, a3, g3, c3, f3, u3, hp', hq', h5, h6⟩ := sp_ev (n := n) (cs := cs) (c := c2) (f := f2) (R := R) (x0 := x0) (x2 := .val d) (x5 := x5) (x6 := x6) (x7 := x7) (x8 := x8) (x9 := x9) (x10 := x10) hp hq h3 h4
  have ok := two_ok hp' hq'
  have hc : (C (n + 7)).call 35 [Ip p', Ip q'] (St cs a3 g3 c3 f3 R) = some (dueD p' q', St cs a3 g3 c3 f3 R) := by
    have ft := fit hp'
    have b1 := ft.l3
    have b2 := ft.l4
    have b3 := hq'.l3
    have b4 := hq'.l10
    rw [cC]
    refine q35 (n := n) ft.good hq'.good (k := p'.length - 1) (m := q'.length - 1) (by omega) (by omega) ?_ ?_ ?_
    · have m1 : p'.length - 1 ≤ 3 := by omega
      have m2 : q'.length - 1 ≤ 9 := by omega
      have := Nat.mul_le_mul m1 m2
      omega
    · have m2 : q'.length + 1 ≤ 11 := by omega
      have := Nat.mul_le_mul b2 m2
      omega
    · have m2 : p'.length + 1 ≤ 5 := by omega
      have := Nat.mul_le_mul b4 m2
      omega
  have u4 := ex_set (i := 8) (σ := [x0, .val (.obj 0), .val d, .val (Ip p'), .val (Ip q'), y5, y6, y7, x8, x9, x10]) (σ' := [x0, .val (.obj 0), .val d, .val (Ip p'), .val (Ip q'), y5, y6, y7, .val (dueD p' q'), x9, x10]) (ev_call2 (ev_v (i := 3) rfl) rfl (ev_v (i := 4) rfl) rfl hc) rfl
  obtain ⟨y9, T1, u5⟩ := nu_ev (n := n) (S := St cs a3 g3 c3 f3 R) (x0 := x0) (x1 := .val (.obj 0)) (x2 := .val d) (x5 := y5) (x6 := y6) (x7 := y7) (x9 := x9) (x10 := x10) ok
  have u5 : exS (C (n + 7)) nuS [x0, .val (.obj 0), .val d, .val (Ip p'), .val (Ip q'), y5, y6, y7, .val (dueD p' q'), x9, x10] (St cs a3 g3 c3 f3 R) = some (.nx [x0, .val (.obj 0), .val d, .val (Ip p'), .val (Ip q'), y5, y6, y7, .val (dueD p' q'), y9, x10] (St cs a3 g3 c3 f3 (R ++ T1))) := u5
  obtain ⟨T2, u6⟩ := du_ev (n := n) (S := St cs a3 g3 c3 f3 (R ++ T1)) (x0 := x0) (x1 := .val (.obj 0)) (x2 := .val d) (x5 := y5) (x6 := y6) (x7 := y7) (x9 := y9) (x10 := x10) ok
  have u6 : exS (C (n + 7)) duS [x0, .val (.obj 0), .val d, .val (Ip p'), .val (Ip q'), y5, y6, y7, .val (dueD p' q'), y9, x10] (St cs a3 g3 c3 f3 (R ++ T1)) = some (.nx [x0, .val (.obj 0), .val d, .val (Ip p'), .val (Ip q'), y5, y6, y7, .val (dueD p' q'), y9, x10] (St cs a3 g3 c3 f3 (R ++ T1 ++ T2))) := u6
  obtain ⟨T3, u7⟩ := to_ev (n := n) (S := St cs a3 g3 c3 f3 (R ++ T1 ++ T2)) (x0 := x0) (x1 := .val (.obj 0)) (x2 := .val d) (x5 := y5) (x6 := y6) (x7 := y7) (x9 := y9) (x10 := x10) ok
  have u7 : exS (C (n + 7)) toS [x0, .val (.obj 0), .val d, .val (Ip p'), .val (Ip q'), y5, y6, y7, .val (dueD p' q'), y9, x10] (St cs a3 g3 c3 f3 (R ++ T1 ++ T2)) = some (.nx [x0, .val (.obj 0), .val d, .val (Ip p'), .val (Ip q'), y5, y6, y7, .val (dueD p' q'), y9, x10] (St cs a3 g3 c3 f3 (R ++ T1 ++ T2 ++ T3))) := u7
  obtain ⟨a4, g4, c4, f4, u8, h7, h8⟩ := wr_ev (n := n) (cs := cs) (c := c3) (f := f3) (R := R ++ T1 ++ T2 ++ T3) (x0 := x0) (x2 := .val d) (x5 := y5) (x6 := y6) (x7 := y7) (x9 := y9) (x10 := x10) ok h5 h6
  have v8 := (st_nx (fz := [3, 4, 1, 8, 8]) (r := .nil) (σ := [x0, .val (.obj 0), .val d, .val (Ip p'), .val (Ip q'), y5, y6, y7, .val (dueD p' q'), y9, x10]) rfl u8).trans (show exB (C (n + 7)) .nil _ _ = some (.nx _ _) from rfl)
  have v7 := (st_nx (fz := [3, 4]) (σ := [x0, .val (.obj 0), .val d, .val (Ip p'), .val (Ip q'), y5, y6, y7, .val (dueD p' q'), y9, x10]) rfl u7).trans v8
  have v6 := (st_nx (fz := [3, 4, 8]) (σ := [x0, .val (.obj 0), .val d, .val (Ip p'), .val (Ip q'), y5, y6, y7, .val (dueD p' q'), y9, x10]) rfl u6).trans v7
  have v5 := (st_nx (fz := []) (σ := [x0, .val (.obj 0), .val d, .val (Ip p'), .val (Ip q'), y5, y6, y7, .val (dueD p' q'), x9, x10]) rfl u5).trans v6
  have v4 := (st_nx (fz := [3, 4]) (σ := [x0, .val (.obj 0), .val d, .val (Ip p'), .val (Ip q'), y5, y6, y7, x8, x9, x10]) rfl u4).trans v5
  have v3 := (st_nx (fz := [1]) (σ := [x0, .val (.obj 0), .val d, .val (Ip p), .val (Ip q), x5, x6, x7, x8, x9, x10]) rfl u3).trans v4
  have v2 := (st_nx (fz := [1, 3, 1, 1, 3]) (σ := [x0, .val (.obj 0), .val d, .val (Ip p), x4, x5, x6, x7, x8, x9, x10]) rfl u2).trans v3
  have v1 := (st_nx (fz := [1, 1]) (σ := [x0, .val (.obj 0), .val d, x3, x4, x5, x6, x7, x8, x9, x10]) rfl u1).trans v2
  refine ⟨.val (Ip p'), .val (Ip q'), y5, y6, y7, .val (dueD p' q'), y9, a4, g4, c4, f4, R ++ T1 ++ T2 ++ T3, ?_, h7, h8⟩
  simp only [loopF, ea]
  exact v1
theorem laps {n : Nat} {x0 x10 : Co.Slot} : ∀ (ds : List D) (x2 x3 x4 x5 x6 x7 x8 x9 : Co.Slot) (a g c f : Int) (R : Store), 0 ≤ a → 0 ≤ g → ∃ (y2 y3 y4 y5 y6 y7 y8 y9 : Co.Slot) (S : Store),
    forGo (loopF (n + 7) (.nm 2) lapB) ds [x0, .val (.obj 0), x2, x3, x4, x5, x6, x7, x8, x9, x10] (St cs a g c f R) = some (.nx [x0, .val (.obj 0), y2, y3, y4, y5, y6, y7, y8, y9, x10] S)
  | [], x2, x3, x4, x5, x6, x7, x8, x9, a, g, c, f, R, _, _ => ⟨_, _, _, _, _, _, _, _, _, rfl⟩
  | d :: ds, x2, x3, x4, x5, x6, x7, x8, x9, a, g, c, f, R, ha, hg => by
    obtain ⟨y3, y4, y5, y6, y7, y8, y9, a1, g1, c1, f1, T, e1, h1, h2⟩ := lap_ev (n := n) (d := d) (cs := cs) (c := c) (f := f) (R := R) (x0 := x0) (x2 := x2) (x3 := x3) (x4 := x4) (x5 := x5) (x6 := x6) (x7 := x7) (x8 := x8) (x9 := x9) (x10 := x10) ha hg
    obtain ⟨z2, z3, z4, z5, z6, z7, z8, z9, S, e2⟩ := laps ds (.val d) y3 y4 y5 y6 y7 y8 y9 a1 g1 c1 f1 T h1 h2
    exact ⟨_, _, _, _, _, _, _, _, S, forGo_nx e1 e2⟩
end
/-! ### the last row -/
theorem q20t {n : Nat} {S : Store} {l : List D} (hz : l.length ≤ 1000) (h : ∀ d ∈ l, ∀ S, callN L.prg n 20 [d, d] S = some (.bl true, S)) : callN L.prg (n + 1) 20 [.tup l, .tup l] S = some (.bl true, S) := by
  refine call_ret (d := d20) rfl rfl ?_
  show exB (C n) b20 [.val (.tup l), .val (.tup l), .non] S = _
  have t1 : evT (C n) (.tr (.isi (.var 1) [.tuple])) [.val (.tup l), .val (.tup l), .non] S = some (true, S) := by simp [evT, evE, isTys, isTy, truR]
  have eq : ∀ i : Int, cmpS S .ne (.fz (.int i)) (.fz (.int i)) = some false := fun i => by
    simp only [cmpS, neIns, Bool.false_eq_true, if_false, cmpR, Rv.tree, eqI, Option.map_some, decide_true, Bool.not_true]
  have t2 : evT (C n) (.or (.not (.tr (.isi (.var 0) [.tuple]))) (.tr (.cmp .ne (.bi .len (.var 0)) (.bi .len (.var 1))))) [.val (.tup l), .val (.tup l), .non] S = some (false, S) := by
    simp [evT, evE, isTys, isTy, truR, biR, Rv.seq, eq]
  have el : evE (C n) (.lc (.nm 2) [2] (.rng1 (.bi .len (.var 1))) (.not (.tr (.call 20 (.cons (.idx (.var 0) (.var 2)) (.cons (.idx (.var 1) (.var 2)) .nil))))) (.var 2)) [.val (.tup l), .val (.tup l), .non] S = some (.fr [], S) := by
    have ei : evI (C n) false (.rng1 (.bi .len (.var 1))) [.val (.tup l), .val (.tup l), .non] S = some ((List.range l.length).map fun k : Nat => D.int (k : Int), S) := by
      simp only [evI, evE, List.getElem?_cons_zero, List.getElem?_cons_succ, biR, Rv.seq]; rw [if_pos (by omega), Int.toNat_natCast]
    rw [evE, ei]
    show (match lcGo (lcF (C n) (.nm 2) [2] (.not (.tr (.call 20 (.cons (.idx (.var 0) (.var 2)) (.cons (.idx (.var 1) (.var 2)) .nil))))) (.var 2) [.val (.tup l), .val (.tup l), .non]) ((List.range l.length).map fun k : Nat => D.int (k : Int)) [] S with | some (r, S2) => some (Rv.fr r, S2) | none => none) = _
    rw [lc_filter (t := fun _ => false)]
    · simp
    · intro d hd
      obtain ⟨k, hk, rfl⟩ := List.mem_map.mp hd
      have hk := List.mem_range.mp hk
      have hx : atI l (k : Int) = some l[k] := by unfold atI ixN; simp [hk]
      have hcc : (C n).call 20 [l[k], l[k]] S = some (.bl true, S) := by rw [cC]; exact h _ (List.getElem_mem hk) S
      have ei0 : ∀ i, i < 2 → evE (C n) (.idx (.var i) (.var 2)) [.val (.tup l), .val (.tup l), .val (.int (k : Int))] S = some (.fz l[k], S) := fun i hi => by
        have : i = 0 ∨ i = 1 := by omega
        rcases this with rfl | rfl <;> simp only [evE, List.getElem?_cons_zero, List.getElem?_cons_succ, idxR, Rv.seq, hx]
      have et := ev_not (ev_tr (ev_call2 (ei0 0 (by decide)) rfl (ei0 1 (by decide)) rfl hcc) rfl)
      have ea : (Pat.nm 2).asg (.int (k : Int)) (wipeE [.val (.tup l), .val (.tup l), .non] [2]) = some [.val (.tup l), .val (.tup l), .val (.int (k : Int))] := rfl
      unfold lcF
      rw [ea]
      simp only
      rw [et]
      rfl
    · exact sz100 (by simp; omega)
  have e0 : ([] : List D).length ≤ sizeLine := sz100 (show 0 ≤ 1000 by decide)
  have ec : evE (C n) (.cmp .eq (.lc (.nm 2) [2] (.rng1 (.bi .len (.var 1))) (.not (.tr (.call 20 (.cons (.idx (.var 0) (.var 2)) (.cons (.idx (.var 1) (.var 2)) .nil))))) (.var 2)) (.lst .nil)) [.val (.tup l), .val (.tup l), .non] S = some (.fz (.bl true), S) := by
    refine ev_cmp el (y := .fr []) (S2 := S) ?_ ?_
    · rw [evE, evA]; simp only; rw [if_pos e0]
    · simp only [cmpS, neIns, Bool.false_eq_true, if_false, cmpR, Rv.tree]
      decide +kernel
  exact st_ret (fz := []) (σ := [.val (.tup l), .val (.tup l), .non]) rfl (ex_ifT t1 ((st_nx (fz := []) (σ := [.val (.tup l), .val (.tup l), .non]) rfl (ex_ifF t2 rfl)).trans (st_ret (fz := []) (σ := [.val (.tup l), .val (.tup l), .non]) rfl (ex_ret ec rfl))))
theorem q20i {n : Nat} {S : Store} {i : Int} : callN L.prg (n + 1) 20 [.int i, .int i] S = some (.bl true, S) := by
  rw [q20 (.inr (.inl ⟨_, rfl⟩))]
  simp [sameI]
theorem q6l {n : Nat} {S : Store} : callN L.prg (n + 3) 6 [.lst [.int 1, .lst [.int 2]]] S = some (.tup [.int 1, .tup [.int 2]], S) := by
  refine (q6t (n := n + 2) (l := [.int 1, .lst [.int 2]]) (l' := []) (.inr rfl) (by simp) (fun d => match d with | .lst l => .tup l | d => d) fun e he => ?_).trans rfl
  simp only [List.mem_cons, List.not_mem_nil, or_false] at he
  rcases he with rfl | rfl
  · exact q6a (n := n + 1) (.inr (.inl ⟨_, rfl⟩))
  · refine (q6t (n := n + 1) (l := [.int 2]) (l' := []) (.inr rfl) (by simp) id fun e he => ?_).trans rfl
    simp only [List.mem_cons, List.not_mem_nil, or_false] at he
    subst he
    exact q6a (n := n) (.inr (.inl ⟨_, rfl⟩))
theorem ev_neO {c : Co.Ctx} {e1 e2 : Co.CE} {σ : Co.Env} {S S1 S2 : Store} {i j k : Nat} {f1 f2 : List (Str × D)} (h1 : evE c e1 σ S = some (.fz (.obj i), S1)) (h2 : evE c e2 σ S1 = some (.fz (.obj j), S2)) (hi : S2[i]? = some (.ins k f1)) (hj : S2[j]? = some (.ins k f2)) (ne : i ≠ j) :
    evE c (.cmp .ne e1 e2) σ S = some (.fz (.bl true), S2) := by
  refine ev_cmp h1 h2 ?_
  have : neIns S2 .ne (.fz (.obj i)) (.fz (.obj j)) = true := by simp [neIns, hi, hj, ne]
  simp only [cmpS, this, if_true]
abbrev laE : Co.CE := .andV (.call 20 (.cons (.attr (.var 10) "number") (.cons (.tup (.cons (.const (.int (1))) (.cons (.tup (.cons (.const (.int (2))) .nil)) .nil))) .nil))) (.andV (.cmp .ne (.mk 1 (.cons (.const (.int (1))) .nil)) (.mk 1 (.cons (.const (.int (1))) .nil))) (.cmp .ne (.mk 0 .nil) (.mk 0 .nil)))
abbrev keE : Co.CE := .mk 1 (.cons (.lst (.cons (.const (.int (1))) (.cons (.lst (.cons (.const (.int (2))) .nil)) .nil))) .nil)
theorem ke_ev {n : Nat} {σ : Co.Env} {S : Store} : evE (C (n + 7)) keE σ S = some (.fz (.obj S.length), S ++ [.ins 1 [("number", .tup [.int 1, .tup [.int 2]])]]) := by
  have z1 : ([D.int 2] : List D).length ≤ sizeLine := sz100 (show 1 ≤ 1000 by decide)
  have z2 : ([D.int 1, .lst [.int 2]] : List D).length ≤ sizeLine := sz100 (show 2 ≤ 1000 by decide)
  refine mk1 (n := n + 6) (x := .fr [.int 1, .lst [.int 2]]) ?_ rfl (fun S => q6l (n := n + 3))
  simp only [evE, evA, Rv.d]
  rw [if_pos z1]
  simp only [Rv.d]
  rw [if_pos z2]
theorem la_ev {n : Nat} {σ : Co.Env} {S : Store} {i : Nat} (h10 : σ[10]? = some (.val (.obj i))) (hi : S[i]? = some (.ins 1 [("number", .tup [.int 1, .tup [.int 2]])])) : ∃ S', evE (C (n + 7)) laE σ S = some (.fz (.bl true), S') := by
  have z1 : ([D.int 2] : List D).length ≤ sizeLine := sz100 (show 1 ≤ 1000 by decide)
  have z2 : ([D.int 1, .tup [.int 2]] : List D).length ≤ sizeLine := sz100 (show 2 ≤ 1000 by decide)
  have ea : evE (C (n + 7)) (.attr (.var 10) "number") σ S = some (.fz (.tup [.int 1, .tup [.int 2]]), S) := by
    have hl : List.lookup ("number" : Str) [(("number" : Str), D.tup [.int 1, .tup [.int 2]])] = some (.tup [.int 1, .tup [.int 2]]) := by simp
    simp only [evE, h10, hi, hl]
  have et : evE (C (n + 7)) (.tup (.cons (.const (.int (1))) (.cons (.tup (.cons (.const (.int (2))) .nil)) .nil))) σ S = some (.fz (.tup [.int 1, .tup [.int 2]]), S) := by
    simp only [evE, evA, Rv.d]
    rw [if_pos z1]
    simp only [Rv.d]
    rw [if_pos z2]
  have hc : (C (n + 7)).call 20 [.tup [.int 1, .tup [.int 2]], .tup [.int 1, .tup [.int 2]]] S = some (.bl true, S) := by
    rw [cC]
    refine q20t (n := n + 6) (by simp) fun d hd S => ?_
    simp only [List.mem_cons, List.not_mem_nil, or_false] at hd
    rcases hd with rfl | rfl
    · exact q20i (n := n + 5)
    · refine q20t (n := n + 5) (by simp) fun d hd S => ?_
      simp only [List.mem_cons, List.not_mem_nil, or_false] at hd
      subst hd
      exact q20i (n := n + 4)
  have e1 := ev_call2 ea rfl et rfl hc
  have em : ∀ S, evE (C (n + 7)) (.mk 1 (.cons (.const (.int (1))) .nil)) σ S = some (.fz (.obj S.length), S ++ [.ins 1 [("number", .int 1)]]) := fun S => mk1 (n := n + 6) (x := .fz (.int 1)) rfl rfl (fun S => q6a (n := n + 5) (.inr (.inl ⟨_, rfl⟩)))
  have e2 := ev_neO (em S) (em (S ++ [.ins 1 [("number", .int 1)]])) (k := 1) (f1 := [("number", .int 1)]) (f2 := [("number", .int 1)]) (by simp) (by simp) (by simp)
  have e3 := ev_neO (mk0 (n := n + 7) (σ := σ) (S := S ++ [Ob.ins 1 [("number", .int 1)]] ++ [Ob.ins 1 [("number", .int 1)]])) mk0 (k := 0) (f1 := []) (f2 := []) (by simp) (by simp) (by simp)
  exact ⟨_, ev_andT e1 (ev_andT e2 e3)⟩
theorem math : ∀ ns : List Int, ns.length ≤ 63 → ∃ S', callN L.prg 8 36 [.scr (ns.map D.int)] [] = some (.bl true, S') := by
  intro ns _
  obtain ⟨f, e1⟩ := q17 (n := 6) ns
  have hc : (C 7).call 17 [.scr (ns.map D.int)] [] = some (.obj 0, St ns 0 0 0 f []) := by rw [cC]; exact e1
  have u1 := ex_set (i := 1) (σ := [.val (.scr (ns.map D.int)), .non, .non, .non, .non, .non, .non, .non, .non, .non, .non]) (σ' := [.val (.scr (ns.map D.int)), .val (.obj 0), .non, .non, .non, .non, .non, .non, .non, .non, .non]) (ev_call1 (ev_v (i := 0) rfl) rfl hc) rfl
  obtain ⟨y2, y3, y4, y5, y6, y7, y8, y9, S, e2⟩ := laps (n := 0) (cs := ns) (x0 := .val (.scr (ns.map D.int))) (x10 := .non) [.int 0, .int 1, .int 2, .int 3] .non .non .non .non .non .non .non .non 0 0 0 f [] (by decide) (by decide)
  have ei : evI (C 7) true (.rng1 (.const (.int (4)))) [.val (.scr (ns.map D.int)), .val (.obj 0), .non, .non, .non, .non, .non, .non, .non, .non, .non] (St ns 0 0 0 f []) = some ([.int 0, .int 1, .int 2, .int 3], St ns 0 0 0 f []) := by
    simp only [evI, evE]; rw [if_pos (by decide)]; rfl
  have u2 := for_of (n := 7) ei e2
  have u3 := ex_set (i := 10) (σ := [.val (.scr (ns.map D.int)), .val (.obj 0), y2, y3, y4, y5, y6, y7, y8, y9, .non]) (σ' := [.val (.scr (ns.map D.int)), .val (.obj 0), y2, y3, y4, y5, y6, y7, y8, y9, .val (.obj S.length)]) (ke_ev (n := 0) (S := S)) rfl
  obtain ⟨S', e4⟩ := la_ev (n := 0) (σ := [.val (.scr (ns.map D.int)), .val (.obj 0), y2, y3, y4, y5, y6, y7, y8, y9, .val (.obj S.length)]) (S := S ++ [.ins 1 [("number", .tup [.int 1, .tup [.int 2]])]]) (i := S.length) rfl (by simp)
  refine ⟨S', ?_⟩
  have v4 := st_ret (fz := []) (r := .nil) (σ := [.val (.scr (ns.map D.int)), .val (.obj 0), y2, y3, y4, y5, y6, y7, y8, y9, .val (.obj S.length)]) rfl (ex_ret e4 rfl)
  have v3 := (st_nx (fz := []) (σ := [.val (.scr (ns.map D.int)), .val (.obj 0), y2, y3, y4, y5, y6, y7, y8, y9, .non]) rfl u3).trans v4
  have v2 := (st_nx (fz := []) (σ := [.val (.scr (ns.map D.int)), .val (.obj 0), .non, .non, .non, .non, .non, .non, .non, .non, .non]) rfl u2).trans v3
  exact call_ret (d := d36) rfl rfl ((st_nx (fz := [0]) (σ := [.val (.scr (ns.map D.int)), .non, .non, .non, .non, .non, .non, .non, .non, .non, .non]) rfl u1).trans v2)
end K53
end

section
set_option maxHeartbeats 0
set_option Elab.async false
set_option linter.all false
set_option maxRecDepth 100000
/-! the written part's words that the law needs, printed by gen.py -/
namespace K53
open PySem L2 Co
theorem at_mk {K : PySem.W.Frag} {h : Heap} {mg : Str → Option Value} {C0 C1 f0 f1 f2 f3 f4 f5 f6 f7 f8 f9 f10 f11 f12 f13 f14 f15 f16 f17 f18 f19 f20 f21 f22 f23 f24 f25 f26 f27 f28 f29 f30 f31 f32 f33 f34 f35 f36 : Addr} {od0 an0 od1 an1 od2 an2 od3 an3 od4 an4 od5 an5 od6 an6 od7 an7 od8 an8 od9 an9 od10 an10 od11 an11 od12 an12 od13 an13 od14 an14 od15 an15 od16 an16 od17 an17 od18 an18 od19 an19 od20 an20 od21 an21 od22 an22 od23 an23 od24 an24 od25 an25 od26 an26 od27 an27 od28 an28 od29 an29 od30 an30 od31 an31 od32 an32 od33 an33 od34 an34 od35 an35 od36 an36 : Option Addr} {sl0 sl1 sl2 sl3 sl4 sl5 sl6 sl7 sl8 sl9 sl10 sl11 sl12 sl13 sl14 sl15 sl16 sl17 sl18 sl19 sl20 sl21 sl22 sl23 sl24 sl25 sl26 sl27 sl28 sl29 sl30 sl31 sl32 sl33 sl34 sl35 sl36 : Array (Option Value)} {oc0 kV0 dc0 pm0 cd0 ct0 oc1 kV1 dc1 pm1 cd1 ct1 oc2 kV2 dc2 pm2 cd2 ct2 oc3 kV3 dc3 pm3 cd3 ct3 oc4 kV4 dc4 pm4 cd4 ct4 oc5 kV5 dc5 pm5 cd5 ct5 oc6 kV6 dc6 pm6 cd6 ct6 oc7 kV7 dc7 pm7 cd7 ct7 oc8 kV8 dc8 pm8 cd8 ct8 oc9 kV9 dc9 pm9 cd9 ct9 oc10 kV10 dc10 pm10 cd10 ct10 oc11 kV11 dc11 pm11 cd11 ct11 oc12 kV12 dc12 pm12 cd12 ct12 oc13 kV13 dc13 pm13 cd13 ct13 oc14 kV14 dc14 pm14 cd14 ct14 oc15 kV15 dc15 pm15 cd15 ct15 oc16 kV16 dc16 pm16 cd16 ct16 oc17 kV17 dc17 pm17 cd17 ct17 oc18 kV18 dc18 pm18 cd18 ct18 oc19 kV19 dc19 pm19 cd19 ct19 oc20 kV20 dc20 pm20 cd20 ct20 oc21 kV21 dc21 pm21 cd21 ct21 oc22 kV22 dc22 pm22 cd22 ct22 oc23 kV23 dc23 pm23 cd23 ct23 oc24 kV24 dc24 pm24 cd24 ct24 oc25 kV25 dc25 pm25 cd25 ct25 oc26 kV26 dc26 pm26 cd26 ct26 oc27 kV27 dc27 pm27 cd27 ct27 oc28 kV28 dc28 pm28 cd28 ct28 oc29 kV29 dc29 pm29 cd29 ct29 oc30 kV30 dc30 pm30 cd30 ct30 oc31 kV31 dc31 pm31 cd31 ct31 oc32 kV32 dc32 pm32 cd32 ct32 oc33 kV33 dc33 pm33 cd33 ct33 oc34 kV34 dc34 pm34 cd34 ct34 oc35 kV35 dc35 pm35 cd35 ct35 oc36 kV36 dc36 pm36 cd36 ct36 : Value} {t0 t1 t2 : Tok} {X0 X1 : ClassData} (X : K.In h) (G : h.Ns mainGlobals mg)
    (aC0 : PySem.W.nsIn K mainGlobals "Together" = some (some (.ref C0)))
    (aC1 : PySem.W.nsIn K mainGlobals "Apart" = some (some (.ref C1)))
    (pg0 : PySem.W.plainGet K C0 Str.empty = true)
    (hd0 : PySem.W.hasDictIn K C0 = true)
    (po0 : PySem.W.plainOver K C0 = true)
    (sa0 : PySem.W.findIn K (.ref C0) "__setattr__" = some (some (.builtin "object.__setattr__")))
    (la0 : PySem.W.findIn K (.ref C0) "__class__" = some (some (.builtin "object.__class__")))
    (mo0 : PySem.W.mroIn K C0 (.type "object") = some true)
    (ty0 : PySem.W.typeIn K (.ref C0) = some (.type "type"))
    (ci0 : PySem.W.clsIn K C0 = some X0)
    (mk0 : PySem.W.makesIn K C0 = true)
    (kp0 : PySem.W.keepIn K (.ref C0) = true)
    (ee0 : PySem.W.findIn K (.ref C0) "__eq__" = some (some (.builtin "object.__eq__")))
    (en0 : PySem.W.findIn K (.ref C0) "__ne__" = some (some (.builtin "object.__ne__")))
    (su0int : PySem.W.subIn K (.ref C0) (.type "int") = some false)
    (su0bool : PySem.W.subIn K (.ref C0) (.type "bool") = some false)
    (su0str : PySem.W.subIn K (.ref C0) (.type "str") = some false)
    (su0tuple : PySem.W.subIn K (.ref C0) (.type "tuple") = some false)
    (su0list : PySem.W.subIn K (.ref C0) (.type "list") = some false)
    (sp0x1 : PySem.W.subIn K (.ref C0) (.ref C1) = some false)
    (na0x0 : PySem.W.findIn K (.ref C0) "number" = some none)
    (in0 : PySem.W.findIn K (.ref C0) "__init__" = some (some (.builtin "object.__init__")))
    (pg1 : PySem.W.plainGet K C1 Str.empty = true)
    (hd1 : PySem.W.hasDictIn K C1 = true)
    (po1 : PySem.W.plainOver K C1 = true)
    (sa1 : PySem.W.findIn K (.ref C1) "__setattr__" = some (some (.builtin "object.__setattr__")))
    (la1 : PySem.W.findIn K (.ref C1) "__class__" = some (some (.builtin "object.__class__")))
    (mo1 : PySem.W.mroIn K C1 (.type "object") = some true)
    (ty1 : PySem.W.typeIn K (.ref C1) = some (.type "type"))
    (ci1 : PySem.W.clsIn K C1 = some X1)
    (mk1 : PySem.W.makesIn K C1 = true)
    (kp1 : PySem.W.keepIn K (.ref C1) = true)
    (ee1 : PySem.W.findIn K (.ref C1) "__eq__" = some (some (.builtin "object.__eq__")))
    (en1 : PySem.W.findIn K (.ref C1) "__ne__" = some (some (.builtin "object.__ne__")))
    (su1int : PySem.W.subIn K (.ref C1) (.type "int") = some false)
    (su1bool : PySem.W.subIn K (.ref C1) (.type "bool") = some false)
    (su1str : PySem.W.subIn K (.ref C1) (.type "str") = some false)
    (su1tuple : PySem.W.subIn K (.ref C1) (.type "tuple") = some false)
    (su1list : PySem.W.subIn K (.ref C1) (.type "list") = some false)
    (sp1x0 : PySem.W.subIn K (.ref C1) (.ref C0) = some false)
    (na1x0 : PySem.W.findIn K (.ref C1) "number" = some none)
    (in1 : PySem.W.findIn K (.ref C1) "__init__" = some (some (.ref f13)))
    (fn1 : PySem.W.isFn K (.ref f13) = true)
    (a0 : PySem.W.nsIn K mainGlobals "is_integer" = some (some (.ref f0)))
    (l0 : K.lookup f0 = some ⟨oc0, od0, .func (PySem.W.fnOf "is_integer" "is_integer" (defArgs s0) (defBody s0) (defScope s0) .none kV0 dc0 pm0 an0 cd0 ct0), sl0⟩)
    (c0 : PySem.W.codeIn K cd0 "is_integer" = true)
    (k0 : PySem.W.keepIn K (.ref f0) = true)
    (a1 : PySem.W.nsIn K mainGlobals "is_ratio" = some (some (.ref f1)))
    (l1 : K.lookup f1 = some ⟨oc1, od1, .func (PySem.W.fnOf "is_ratio" "is_ratio" (defArgs s1) (defBody s1) (defScope s1) .none kV1 dc1 pm1 an1 cd1 ct1), sl1⟩)
    (c1 : PySem.W.codeIn K cd1 "is_ratio" = true)
    (k1 : PySem.W.keepIn K (.ref f1) = true)
    (a2 : PySem.W.nsIn K mainGlobals "pair" = some (some (.ref f2)))
    (l2 : K.lookup f2 = some ⟨oc2, od2, .func (PySem.W.fnOf "pair" "pair" (defArgs s2) (defBody s2) (defScope s2) .none kV2 dc2 pm2 an2 cd2 ct2), sl2⟩)
    (c2 : PySem.W.codeIn K cd2 "pair" = true)
    (k2 : PySem.W.keepIn K (.ref f2) = true)
    (a3 : PySem.W.nsIn K mainGlobals "in_lowest" = some (some (.ref f3)))
    (l3 : K.lookup f3 = some ⟨oc3, od3, .func (PySem.W.fnOf "in_lowest" "in_lowest" (defArgs s3) (defBody s3) (defScope s3) .none kV3 dc3 pm3 an3 cd3 ct3), sl3⟩)
    (c3 : PySem.W.codeIn K cd3 "in_lowest" = true)
    (k3 : PySem.W.keepIn K (.ref f3) = true)
    (a4 : PySem.W.nsIn K mainGlobals "added" = some (some (.ref f4)))
    (l4 : K.lookup f4 = some ⟨oc4, od4, .func (PySem.W.fnOf "added" "added" (defArgs s4) (defBody s4) (defScope s4) .none kV4 dc4 pm4 an4 cd4 ct4), sl4⟩)
    (c4 : PySem.W.codeIn K cd4 "added" = true)
    (k4 : PySem.W.keepIn K (.ref f4) = true)
    (a5 : PySem.W.nsIn K mainGlobals "multiplied" = some (some (.ref f5)))
    (l5 : K.lookup f5 = some ⟨oc5, od5, .func (PySem.W.fnOf "multiplied" "multiplied" (defArgs s5) (defBody s5) (defScope s5) .none kV5 dc5 pm5 an5 cd5 ct5), sl5⟩)
    (c5 : PySem.W.codeIn K cd5 "multiplied" = true)
    (k5 : PySem.W.keepIn K (.ref f5) = true)
    (a6 : PySem.W.nsIn K mainGlobals "as_tuples" = some (some (.ref f6)))
    (l6 : K.lookup f6 = some ⟨oc6, od6, .func (PySem.W.fnOf "as_tuples" "as_tuples" (defArgs s6) (defBody s6) (defScope s6) .none kV6 dc6 pm6 an6 cd6 ct6), sl6⟩)
    (c6 : PySem.W.codeIn K cd6 "as_tuples" = true)
    (k6 : PySem.W.keepIn K (.ref f6) = true)
    (a7 : PySem.W.nsIn K mainGlobals "is_list" = some (some (.ref f7)))
    (l7 : K.lookup f7 = some ⟨oc7, od7, .func (PySem.W.fnOf "is_list" "is_list" (defArgs s7) (defBody s7) (defScope s7) .none kV7 dc7 pm7 an7 cd7 ct7), sl7⟩)
    (c7 : PySem.W.codeIn K cd7 "is_list" = true)
    (k7 : PySem.W.keepIn K (.ref f7) = true)
    (a8 : PySem.W.nsIn K mainGlobals "same_told" = some (some (.ref f8)))
    (l8 : K.lookup f8 = some ⟨oc8, od8, .func (PySem.W.fnOf "same_told" "same_told" (defArgs s8) (defBody s8) (defScope s8) .none kV8 dc8 pm8 an8 cd8 ct8), sl8⟩)
    (c8 : PySem.W.codeIn K cd8 "same_told" = true)
    (k8 : PySem.W.keepIn K (.ref f8) = true)
    (a9 : PySem.W.nsIn K mainGlobals "is_poly" = some (some (.ref f9)))
    (l9 : K.lookup f9 = some ⟨oc9, od9, .func (PySem.W.fnOf "is_poly" "is_poly" (defArgs s9) (defBody s9) (defScope s9) .none kV9 dc9 pm9 an9 cd9 ct9), sl9⟩)
    (c9 : PySem.W.codeIn K cd9 "is_poly" = true)
    (k9 : PySem.W.keepIn K (.ref f9) = true)
    (a10 : PySem.W.nsIn K mainGlobals "need_poly" = some (some (.ref f10)))
    (l10 : K.lookup f10 = some ⟨oc10, od10, .func (PySem.W.fnOf "need_poly" "need_poly" (defArgs s10) (defBody s10) (defScope s10) .none kV10 dc10 pm10 an10 cd10 ct10), sl10⟩)
    (c10 : PySem.W.codeIn K cd10 "need_poly" = true)
    (k10 : PySem.W.keepIn K (.ref f10) = true)
    (a11 : PySem.W.nsIn K mainGlobals "value_by" = some (some (.ref f11)))
    (l11 : K.lookup f11 = some ⟨oc11, od11, .func (PySem.W.fnOf "value_by" "value_by" (defArgs s11) (defBody s11) (defScope s11) .none kV11 dc11 pm11 an11 cd11 ct11), sl11⟩)
    (c11 : PySem.W.codeIn K cd11 "value_by" = true)
    (k11 : PySem.W.keepIn K (.ref f11) = true)
    (a12 : PySem.W.nsIn K mainGlobals "need_moved" = some (some (.ref f12)))
    (l12 : K.lookup f12 = some ⟨oc12, od12, .func (PySem.W.fnOf "need_moved" "need_moved" (defArgs s12) (defBody s12) (defScope s12) .none kV12 dc12 pm12 an12 cd12 ct12), sl12⟩)
    (c12 : PySem.W.codeIn K cd12 "need_moved" = true)
    (k12 : PySem.W.keepIn K (.ref f12) = true)
    (l13 : K.lookup f13 = some ⟨oc13, od13, .func (PySem.W.fnOf "__init__" "Apart.__init__" (defArgs s13) (defBody s13) (defScope s13) .none kV13 dc13 pm13 an13 cd13 ct13), sl13⟩)
    (c13 : PySem.W.codeIn K cd13 "Apart.__init__" = true)
    (k13 : PySem.W.keepIn K (.ref f13) = true)
    (a14 : PySem.W.nsIn K mainGlobals "first_apart" = some (some (.ref f14)))
    (l14 : K.lookup f14 = some ⟨oc14, od14, .func (PySem.W.fnOf "first_apart" "first_apart" (defArgs s14) (defBody s14) (defScope s14) .none kV14 dc14 pm14 an14 cd14 ct14), sl14⟩)
    (c14 : PySem.W.codeIn K cd14 "first_apart" = true)
    (k14 : PySem.W.keepIn K (.ref f14) = true)
    (a15 : PySem.W.nsIn K mainGlobals "need_both" = some (some (.ref f15)))
    (l15 : K.lookup f15 = some ⟨oc15, od15, .func (PySem.W.fnOf "need_both" "need_both" (defArgs s15) (defBody s15) (defScope s15) .none kV15 dc15 pm15 an15 cd15 ct15), sl15⟩)
    (c15 : PySem.W.codeIn K cd15 "need_both" = true)
    (k15 : PySem.W.keepIn K (.ref f15) = true)
    (a16 : PySem.W.nsIn K mainGlobals "together_holds" = some (some (.ref f16)))
    (l16 : K.lookup f16 = some ⟨oc16, od16, .func (PySem.W.fnOf "together_holds" "together_holds" (defArgs s16) (defBody s16) (defScope s16) .none kV16 dc16 pm16 an16 cd16 ct16), sl16⟩)
    (c16 : PySem.W.codeIn K cd16 "together_holds" = true)
    (k16 : PySem.W.keepIn K (.ref f16) = true)
    (a17 : PySem.W.nsIn K mainGlobals "_law_pen" = some (some (.ref f17)))
    (l17 : K.lookup f17 = some ⟨oc17, od17, .func (PySem.W.fnOf "_law_pen" "_law_pen" (defArgs s17) (defBody s17) (defScope s17) .none kV17 dc17 pm17 an17 cd17 ct17), sl17⟩)
    (c17 : PySem.W.codeIn K cd17 "_law_pen" = true)
    (k17 : PySem.W.keepIn K (.ref f17) = true)
    (a18 : PySem.W.nsIn K mainGlobals "_law_draw" = some (some (.ref f18)))
    (l18 : K.lookup f18 = some ⟨oc18, od18, .func (PySem.W.fnOf "_law_draw" "_law_draw" (defArgs s18) (defBody s18) (defScope s18) .none kV18 dc18 pm18 an18 cd18 ct18), sl18⟩)
    (c18 : PySem.W.codeIn K cd18 "_law_draw" = true)
    (k18 : PySem.W.keepIn K (.ref f18) = true)
    (a19 : PySem.W.nsIn K mainGlobals "_law_pick" = some (some (.ref f19)))
    (l19 : K.lookup f19 = some ⟨oc19, od19, .func (PySem.W.fnOf "_law_pick" "_law_pick" (defArgs s19) (defBody s19) (defScope s19) .none kV19 dc19 pm19 an19 cd19 ct19), sl19⟩)
    (c19 : PySem.W.codeIn K cd19 "_law_pick" = true)
    (k19 : PySem.W.keepIn K (.ref f19) = true)
    (a20 : PySem.W.nsIn K mainGlobals "_law_is" = some (some (.ref f20)))
    (l20 : K.lookup f20 = some ⟨oc20, od20, .func (PySem.W.fnOf "_law_is" "_law_is" (defArgs s20) (defBody s20) (defScope s20) .none kV20 dc20 pm20 an20 cd20 ct20), sl20⟩)
    (c20 : PySem.W.codeIn K cd20 "_law_is" = true)
    (k20 : PySem.W.keepIn K (.ref f20) = true)
    (a21 : PySem.W.nsIn K mainGlobals "_law_says" = some (some (.ref f21)))
    (l21 : K.lookup f21 = some ⟨oc21, od21, .func (PySem.W.fnOf "_law_says" "_law_says" (defArgs s21) (defBody s21) (defScope s21) .none kV21 dc21 pm21 an21 cd21 ct21), sl21⟩)
    (c21 : PySem.W.codeIn K cd21 "_law_says" = true)
    (k21 : PySem.W.keepIn K (.ref f21) = true)
    (a22 : PySem.W.nsIn K mainGlobals "_law_divisor" = some (some (.ref f22)))
    (l22 : K.lookup f22 = some ⟨oc22, od22, .func (PySem.W.fnOf "_law_divisor" "_law_divisor" (defArgs s22) (defBody s22) (defScope s22) .none kV22 dc22 pm22 an22 cd22 ct22), sl22⟩)
    (c22 : PySem.W.codeIn K cd22 "_law_divisor" = true)
    (k22 : PySem.W.keepIn K (.ref f22) = true)
    (a23 : PySem.W.nsIn K mainGlobals "_law_low" = some (some (.ref f23)))
    (l23 : K.lookup f23 = some ⟨oc23, od23, .func (PySem.W.fnOf "_law_low" "_law_low" (defArgs s23) (defBody s23) (defScope s23) .none kV23 dc23 pm23 an23 cd23 ct23), sl23⟩)
    (c23 : PySem.W.codeIn K cd23 "_law_low" = true)
    (k23 : PySem.W.keepIn K (.ref f23) = true)
    (a24 : PySem.W.nsIn K mainGlobals "_law_pair" = some (some (.ref f24)))
    (l24 : K.lookup f24 = some ⟨oc24, od24, .func (PySem.W.fnOf "_law_pair" "_law_pair" (defArgs s24) (defBody s24) (defScope s24) .none kV24 dc24 pm24 an24 cd24 ct24), sl24⟩)
    (c24 : PySem.W.codeIn K cd24 "_law_pair" = true)
    (k24 : PySem.W.keepIn K (.ref f24) = true)
    (a25 : PySem.W.nsIn K mainGlobals "_law_plus" = some (some (.ref f25)))
    (l25 : K.lookup f25 = some ⟨oc25, od25, .func (PySem.W.fnOf "_law_plus" "_law_plus" (defArgs s25) (defBody s25) (defScope s25) .none kV25 dc25 pm25 an25 cd25 ct25), sl25⟩)
    (c25 : PySem.W.codeIn K cd25 "_law_plus" = true)
    (k25 : PySem.W.keepIn K (.ref f25) = true)
    (a26 : PySem.W.nsIn K mainGlobals "_law_times" = some (some (.ref f26)))
    (l26 : K.lookup f26 = some ⟨oc26, od26, .func (PySem.W.fnOf "_law_times" "_law_times" (defArgs s26) (defBody s26) (defScope s26) .none kV26 dc26 pm26 an26 cd26 ct26), sl26⟩)
    (c26 : PySem.W.codeIn K cd26 "_law_times" = true)
    (k26 : PySem.W.keepIn K (.ref f26) = true)
    (a27 : PySem.W.nsIn K mainGlobals "_law_poly_tidy" = some (some (.ref f27)))
    (l27 : K.lookup f27 = some ⟨oc27, od27, .func (PySem.W.fnOf "_law_poly_tidy" "_law_poly_tidy" (defArgs s27) (defBody s27) (defScope s27) .none kV27 dc27 pm27 an27 cd27 ct27), sl27⟩)
    (c27 : PySem.W.codeIn K cd27 "_law_poly_tidy" = true)
    (k27 : PySem.W.keepIn K (.ref f27) = true)
    (a28 : PySem.W.nsIn K mainGlobals "_law_poly_sum" = some (some (.ref f28)))
    (l28 : K.lookup f28 = some ⟨oc28, od28, .func (PySem.W.fnOf "_law_poly_sum" "_law_poly_sum" (defArgs s28) (defBody s28) (defScope s28) .none kV28 dc28 pm28 an28 cd28 ct28), sl28⟩)
    (c28 : PySem.W.codeIn K cd28 "_law_poly_sum" = true)
    (k28 : PySem.W.keepIn K (.ref f28) = true)
    (a29 : PySem.W.nsIn K mainGlobals "_law_poly_times" = some (some (.ref f29)))
    (l29 : K.lookup f29 = some ⟨oc29, od29, .func (PySem.W.fnOf "_law_poly_times" "_law_poly_times" (defArgs s29) (defBody s29) (defScope s29) .none kV29 dc29 pm29 an29 cd29 ct29), sl29⟩)
    (c29 : PySem.W.codeIn K cd29 "_law_poly_times" = true)
    (k29 : PySem.W.keepIn K (.ref f29) = true)
    (a30 : PySem.W.nsIn K mainGlobals "_law_poly_at" = some (some (.ref f30)))
    (l30 : K.lookup f30 = some ⟨oc30, od30, .func (PySem.W.fnOf "_law_poly_at" "_law_poly_at" (defArgs s30) (defBody s30) (defScope s30) .none kV30 dc30 pm30 an30 cd30 ct30), sl30⟩)
    (c30 : PySem.W.codeIn K cd30 "_law_poly_at" = true)
    (k30 : PySem.W.keepIn K (.ref f30) = true)
    (a31 : PySem.W.nsIn K mainGlobals "_law_poly_after" = some (some (.ref f31)))
    (l31 : K.lookup f31 = some ⟨oc31, od31, .func (PySem.W.fnOf "_law_poly_after" "_law_poly_after" (defArgs s31) (defBody s31) (defScope s31) .none kV31 dc31 pm31 an31 cd31 ct31), sl31⟩)
    (c31 : PySem.W.codeIn K cd31 "_law_poly_after" = true)
    (k31 : PySem.W.keepIn K (.ref f31) = true)
    (a32 : PySem.W.nsIn K mainGlobals "_law_poly_more" = some (some (.ref f32)))
    (l32 : K.lookup f32 = some ⟨oc32, od32, .func (PySem.W.fnOf "_law_poly_more" "_law_poly_more" (defArgs s32) (defBody s32) (defScope s32) .none kV32 dc32 pm32 an32 cd32 ct32), sl32⟩)
    (c32 : PySem.W.codeIn K cd32 "_law_poly_more" = true)
    (k32 : PySem.W.keepIn K (.ref f32) = true)
    (a33 : PySem.W.nsIn K mainGlobals "_law_c_commute" = some (some (.ref f33)))
    (l33 : K.lookup f33 = some ⟨oc33, od33, .func (PySem.W.fnOf "_law_c_commute" "_law_c_commute" (defArgs s33) (defBody s33) (defScope s33) .none kV33 dc33 pm33 an33 cd33 ct33), sl33⟩)
    (c33 : PySem.W.codeIn K cd33 "_law_c_commute" = true)
    (k33 : PySem.W.keepIn K (.ref f33) = true)
    (a34 : PySem.W.nsIn K mainGlobals "_law_c_small" = some (some (.ref f34)))
    (l34 : K.lookup f34 = some ⟨oc34, od34, .func (PySem.W.fnOf "_law_c_small" "_law_c_small" (defArgs s34) (defBody s34) (defScope s34) .none kV34 dc34 pm34 an34 cd34 ct34), sl34⟩)
    (c34 : PySem.W.codeIn K cd34 "_law_c_small" = true)
    (k34 : PySem.W.keepIn K (.ref f34) = true)
    (a35 : PySem.W.nsIn K mainGlobals "_law_due" = some (some (.ref f35)))
    (l35 : K.lookup f35 = some ⟨oc35, od35, .func (PySem.W.fnOf "_law_due" "_law_due" (defArgs s35) (defBody s35) (defScope s35) .none kV35 dc35 pm35 an35 cd35 ct35), sl35⟩)
    (c35 : PySem.W.codeIn K cd35 "_law_due" = true)
    (k35 : PySem.W.keepIn K (.ref f35) = true)
    (a36 : PySem.W.nsIn K mainGlobals "law" = some (some (.ref f36)))
    (l36 : K.lookup f36 = some ⟨oc36, od36, .func (PySem.W.fnOf "law" "law" (defArgs s36) (defBody s36) (defScope s36) .none kV36 dc36 pm36 an36 cd36 ct36), sl36⟩)
    (c36 : PySem.W.codeIn K cd36 "law" = true)
    (k36 : PySem.W.keepIn K (.ref f36) = true)
    (g0 : PySem.W.nsIn K mainGlobals "MOST_ITEMS" = some (some (.int (65) t0)))
    (g1 : PySem.W.nsIn K mainGlobals "MOST_MOVED" = some (some (.int (37) t1)))
    (g2 : PySem.W.nsIn K mainGlobals "MOST_BOTH" = some (some (.int (400) t2)))
    (z0 : PySem.W.nsIn K mainGlobals "len" = some none)
    (z1 : PySem.W.nsIn K mainGlobals "abs" = some none)
    (z2 : PySem.W.nsIn K mainGlobals "int" = some none)
    (z3 : PySem.W.nsIn K mainGlobals "list" = some none)
    (z4 : PySem.W.nsIn K mainGlobals "tuple" = some none)
    (z5 : PySem.W.nsIn K mainGlobals "all" = some none)
    (z6 : PySem.W.nsIn K mainGlobals "max" = some none)
    (z7 : PySem.W.nsIn K mainGlobals "isinstance" = some none)
    (z8 : PySem.W.nsIn K mainGlobals "range" = some none)
    (z9 : PySem.W.nsIn K mainGlobals "enumerate" = some none)
    (z10 : PySem.W.nsIn K mainGlobals "zip" = some none)
    (z11 : PySem.W.nsIn K mainGlobals "bool" = some none)
    (z12 : PySem.W.nsIn K mainGlobals "str" = some none)
    (zg : PySem.W.nsIn K mainGlobals "gcd" = some (some (.builtin "math.gcd")))
    (clg : PySem.W.specialIn K (.builtin "object.__class__") "__get__" = some (some (.builtin "getset_descriptor.__get__")))
    (clt : PySem.W.takesIn K (.builtin "object.__class__") = some true) (nd : ([C0, C1] : List Addr).Nodup) :
    L.At K mg [f0, f1, f2, f3, f4, f5, f6, f7, f8, f9, f10, f11, f12, f13, f14, f15, f16, f17, f18, f19, f20, f21, f22, f23, f24, f25, f26, f27, f28, f29, f30, f31, f32, f33, f34, f35, f36] [C0, C1] := by
  refine { ok := ?ok, fn := ?fn, fns := ?fns, gl := ?gl, cls := ?cls, atr := ?atr, clsOk := ?clsOk, gcd := ?gcd, free := ?free }
  case ok => exact List.forall_mem_cons.mpr ⟨ok0, List.forall_mem_cons.mpr ⟨ok1, List.forall_mem_cons.mpr ⟨ok2, List.forall_mem_cons.mpr ⟨ok3, List.forall_mem_cons.mpr ⟨ok4, List.forall_mem_cons.mpr ⟨ok5, List.forall_mem_cons.mpr ⟨ok6, List.forall_mem_cons.mpr ⟨ok7, List.forall_mem_cons.mpr ⟨ok8, List.forall_mem_cons.mpr ⟨ok9, List.forall_mem_cons.mpr ⟨ok10, List.forall_mem_cons.mpr ⟨ok11, List.forall_mem_cons.mpr ⟨ok12, List.forall_mem_cons.mpr ⟨ok13, List.forall_mem_cons.mpr ⟨ok14, List.forall_mem_cons.mpr ⟨ok15, List.forall_mem_cons.mpr ⟨ok16, List.forall_mem_cons.mpr ⟨ok17, List.forall_mem_cons.mpr ⟨ok18, List.forall_mem_cons.mpr ⟨ok19, List.forall_mem_cons.mpr ⟨ok20, List.forall_mem_cons.mpr ⟨ok21, List.forall_mem_cons.mpr ⟨ok22, List.forall_mem_cons.mpr ⟨ok23, List.forall_mem_cons.mpr ⟨ok24, List.forall_mem_cons.mpr ⟨ok25, List.forall_mem_cons.mpr ⟨ok26, List.forall_mem_cons.mpr ⟨ok27, List.forall_mem_cons.mpr ⟨ok28, List.forall_mem_cons.mpr ⟨ok29, List.forall_mem_cons.mpr ⟨ok30, List.forall_mem_cons.mpr ⟨ok31, List.forall_mem_cons.mpr ⟨ok32, List.forall_mem_cons.mpr ⟨ok33, List.forall_mem_cons.mpr ⟨ok34, List.forall_mem_cons.mpr ⟨ok35, List.forall_mem_cons.mpr ⟨ok36, List.forall_mem_nil _⟩⟩⟩⟩⟩⟩⟩⟩⟩⟩⟩⟩⟩⟩⟩⟩⟩⟩⟩⟩⟩⟩⟩⟩⟩⟩⟩⟩⟩⟩⟩⟩⟩⟩⟩⟩⟩
  case fn => exact .cons ⟨_, fun_mk (st := s0) l0 c0 k0, (fun_mk (st := s0) l0 c0 k0).binds fun _ _ _ _ _ _ us hl => match us, hl with | [_], _ => rfl⟩ (.cons ⟨_, fun_mk (st := s1) l1 c1 k1, (fun_mk (st := s1) l1 c1 k1).binds fun _ _ _ _ _ _ us hl => match us, hl with | [_], _ => rfl⟩ (.cons ⟨_, fun_mk (st := s2) l2 c2 k2, (fun_mk (st := s2) l2 c2 k2).binds fun _ _ _ _ _ _ us hl => match us, hl with | [_], _ => rfl⟩ (.cons ⟨_, fun_mk (st := s3) l3 c3 k3, (fun_mk (st := s3) l3 c3 k3).binds fun _ _ _ _ _ _ us hl => match us, hl with | [_, _], _ => rfl⟩ (.cons ⟨_, fun_mk (st := s4) l4 c4 k4, (fun_mk (st := s4) l4 c4 k4).binds fun _ _ _ _ _ _ us hl => match us, hl with | [_, _], _ => rfl⟩ (.cons ⟨_, fun_mk (st := s5) l5 c5 k5, (fun_mk (st := s5) l5 c5 k5).binds fun _ _ _ _ _ _ us hl => match us, hl with | [_, _], _ => rfl⟩ (.cons ⟨_, fun_mk (st := s6) l6 c6 k6, (fun_mk (st := s6) l6 c6 k6).binds fun _ _ _ _ _ _ us hl => match us, hl with | [_], _ => rfl⟩ (.cons ⟨_, fun_mk (st := s7) l7 c7 k7, (fun_mk (st := s7) l7 c7 k7).binds fun _ _ _ _ _ _ us hl => match us, hl with | [_], _ => rfl⟩ (.cons ⟨_, fun_mk (st := s8) l8 c8 k8, (fun_mk (st := s8) l8 c8 k8).binds fun _ _ _ _ _ _ us hl => match us, hl with | [_, _], _ => rfl⟩ (.cons ⟨_, fun_mk (st := s9) l9 c9 k9, (fun_mk (st := s9) l9 c9 k9).binds fun _ _ _ _ _ _ us hl => match us, hl with | [_], _ => rfl⟩ (.cons ⟨_, fun_mk (st := s10) l10 c10 k10, (fun_mk (st := s10) l10 c10 k10).binds fun _ _ _ _ _ _ us hl => match us, hl with | [_, _], _ => rfl⟩ (.cons ⟨_, fun_mk (st := s11) l11 c11 k11, (fun_mk (st := s11) l11 c11 k11).binds fun _ _ _ _ _ _ us hl => match us, hl with | [_, _], _ => rfl⟩ (.cons ⟨_, fun_mk (st := s12) l12 c12 k12, (fun_mk (st := s12) l12 c12 k12).binds fun _ _ _ _ _ _ us hl => match us, hl with | [_, _], _ => rfl⟩ (.cons ⟨_, fun_mk (st := s13) l13 c13 k13, (fun_mk (st := s13) l13 c13 k13).binds fun _ _ _ _ _ _ us hl => match us, hl with | [_, _], _ => rfl⟩ (.cons ⟨_, fun_mk (st := s14) l14 c14 k14, (fun_mk (st := s14) l14 c14 k14).binds fun _ _ _ _ _ _ us hl => match us, hl with | [_, _], _ => rfl⟩ (.cons ⟨_, fun_mk (st := s15) l15 c15 k15, (fun_mk (st := s15) l15 c15 k15).binds fun _ _ _ _ _ _ us hl => match us, hl with | [_, _], _ => rfl⟩ (.cons ⟨_, fun_mk (st := s16) l16 c16 k16, (fun_mk (st := s16) l16 c16 k16).binds fun _ _ _ _ _ _ us hl => match us, hl with | [_, _, _], _ => rfl⟩ (.cons ⟨_, fun_mk (st := s17) l17 c17 k17, (fun_mk (st := s17) l17 c17 k17).binds fun _ _ _ _ _ _ us hl => match us, hl with | [_], _ => rfl⟩ (.cons ⟨_, fun_mk (st := s18) l18 c18 k18, (fun_mk (st := s18) l18 c18 k18).binds fun _ _ _ _ _ _ us hl => match us, hl with | [_, _], _ => rfl⟩ (.cons ⟨_, fun_mk (st := s19) l19 c19 k19, (fun_mk (st := s19) l19 c19 k19).binds fun _ _ _ _ _ _ us hl => match us, hl with | [_, _], _ => rfl⟩ (.cons ⟨_, fun_mk (st := s20) l20 c20 k20, (fun_mk (st := s20) l20 c20 k20).binds fun _ _ _ _ _ _ us hl => match us, hl with | [_, _], _ => rfl⟩ (.cons ⟨_, fun_mk (st := s21) l21 c21 k21, (fun_mk (st := s21) l21 c21 k21).binds fun _ _ _ _ _ _ us hl => match us, hl with | [_, _], _ => rfl⟩ (.cons ⟨_, fun_mk (st := s22) l22 c22 k22, (fun_mk (st := s22) l22 c22 k22).binds fun _ _ _ _ _ _ us hl => match us, hl with | [_, _], _ => rfl⟩ (.cons ⟨_, fun_mk (st := s23) l23 c23 k23, (fun_mk (st := s23) l23 c23 k23).binds fun _ _ _ _ _ _ us hl => match us, hl with | [_, _], _ => rfl⟩ (.cons ⟨_, fun_mk (st := s24) l24 c24 k24, (fun_mk (st := s24) l24 c24 k24).binds fun _ _ _ _ _ _ us hl => match us, hl with | [_], _ => rfl⟩ (.cons ⟨_, fun_mk (st := s25) l25 c25 k25, (fun_mk (st := s25) l25 c25 k25).binds fun _ _ _ _ _ _ us hl => match us, hl with | [_, _], _ => rfl⟩ (.cons ⟨_, fun_mk (st := s26) l26 c26 k26, (fun_mk (st := s26) l26 c26 k26).binds fun _ _ _ _ _ _ us hl => match us, hl with | [_, _], _ => rfl⟩ (.cons ⟨_, fun_mk (st := s27) l27 c27 k27, (fun_mk (st := s27) l27 c27 k27).binds fun _ _ _ _ _ _ us hl => match us, hl with | [_], _ => rfl⟩ (.cons ⟨_, fun_mk (st := s28) l28 c28 k28, (fun_mk (st := s28) l28 c28 k28).binds fun _ _ _ _ _ _ us hl => match us, hl with | [_, _], _ => rfl⟩ (.cons ⟨_, fun_mk (st := s29) l29 c29 k29, (fun_mk (st := s29) l29 c29 k29).binds fun _ _ _ _ _ _ us hl => match us, hl with | [_, _], _ => rfl⟩ (.cons ⟨_, fun_mk (st := s30) l30 c30 k30, (fun_mk (st := s30) l30 c30 k30).binds fun _ _ _ _ _ _ us hl => match us, hl with | [_, _], _ => rfl⟩ (.cons ⟨_, fun_mk (st := s31) l31 c31 k31, (fun_mk (st := s31) l31 c31 k31).binds fun _ _ _ _ _ _ us hl => match us, hl with | [_, _], _ => rfl⟩ (.cons ⟨_, fun_mk (st := s32) l32 c32 k32, (fun_mk (st := s32) l32 c32 k32).binds fun _ _ _ _ _ _ us hl => match us, hl with | [_, _], _ => rfl⟩ (.cons ⟨_, fun_mk (st := s33) l33 c33 k33, (fun_mk (st := s33) l33 c33 k33).binds fun _ _ _ _ _ _ us hl => match us, hl with | [_, _], _ => rfl⟩ (.cons ⟨_, fun_mk (st := s34) l34 c34 k34, (fun_mk (st := s34) l34 c34 k34).binds fun _ _ _ _ _ _ us hl => match us, hl with | [_, _], _ => rfl⟩ (.cons ⟨_, fun_mk (st := s35) l35 c35 k35, (fun_mk (st := s35) l35 c35 k35).binds fun _ _ _ _ _ _ us hl => match us, hl with | [_, _], _ => rfl⟩ (.cons ⟨_, fun_mk (st := s36) l36 c36 k36, (fun_mk (st := s36) l36 c36 k36).binds fun _ _ _ _ _ _ us hl => match us, hl with | [_], _ => rfl⟩ (.nil)))))))))))))))))))))))))))))))))))))
  case fns => exact List.forall_mem_cons.mpr ⟨⟨f0, rfl, PySem.W.mg_of X G a0⟩, List.forall_mem_cons.mpr ⟨⟨f1, rfl, PySem.W.mg_of X G a1⟩, List.forall_mem_cons.mpr ⟨⟨f2, rfl, PySem.W.mg_of X G a2⟩, List.forall_mem_cons.mpr ⟨⟨f3, rfl, PySem.W.mg_of X G a3⟩, List.forall_mem_cons.mpr ⟨⟨f4, rfl, PySem.W.mg_of X G a4⟩, List.forall_mem_cons.mpr ⟨⟨f5, rfl, PySem.W.mg_of X G a5⟩, List.forall_mem_cons.mpr ⟨⟨f6, rfl, PySem.W.mg_of X G a6⟩, List.forall_mem_cons.mpr ⟨⟨f7, rfl, PySem.W.mg_of X G a7⟩, List.forall_mem_cons.mpr ⟨⟨f8, rfl, PySem.W.mg_of X G a8⟩, List.forall_mem_cons.mpr ⟨⟨f9, rfl, PySem.W.mg_of X G a9⟩, List.forall_mem_cons.mpr ⟨⟨f10, rfl, PySem.W.mg_of X G a10⟩, List.forall_mem_cons.mpr ⟨⟨f11, rfl, PySem.W.mg_of X G a11⟩, List.forall_mem_cons.mpr ⟨⟨f12, rfl, PySem.W.mg_of X G a12⟩, List.forall_mem_cons.mpr ⟨⟨f14, rfl, PySem.W.mg_of X G a14⟩, List.forall_mem_cons.mpr ⟨⟨f15, rfl, PySem.W.mg_of X G a15⟩, List.forall_mem_cons.mpr ⟨⟨f16, rfl, PySem.W.mg_of X G a16⟩, List.forall_mem_cons.mpr ⟨⟨f17, rfl, PySem.W.mg_of X G a17⟩, List.forall_mem_cons.mpr ⟨⟨f18, rfl, PySem.W.mg_of X G a18⟩, List.forall_mem_cons.mpr ⟨⟨f19, rfl, PySem.W.mg_of X G a19⟩, List.forall_mem_cons.mpr ⟨⟨f20, rfl, PySem.W.mg_of X G a20⟩, List.forall_mem_cons.mpr ⟨⟨f21, rfl, PySem.W.mg_of X G a21⟩, List.forall_mem_cons.mpr ⟨⟨f22, rfl, PySem.W.mg_of X G a22⟩, List.forall_mem_cons.mpr ⟨⟨f23, rfl, PySem.W.mg_of X G a23⟩, List.forall_mem_cons.mpr ⟨⟨f24, rfl, PySem.W.mg_of X G a24⟩, List.forall_mem_cons.mpr ⟨⟨f25, rfl, PySem.W.mg_of X G a25⟩, List.forall_mem_cons.mpr ⟨⟨f26, rfl, PySem.W.mg_of X G a26⟩, List.forall_mem_cons.mpr ⟨⟨f27, rfl, PySem.W.mg_of X G a27⟩, List.forall_mem_cons.mpr ⟨⟨f28, rfl, PySem.W.mg_of X G a28⟩, List.forall_mem_cons.mpr ⟨⟨f29, rfl, PySem.W.mg_of X G a29⟩, List.forall_mem_cons.mpr ⟨⟨f30, rfl, PySem.W.mg_of X G a30⟩, List.forall_mem_cons.mpr ⟨⟨f31, rfl, PySem.W.mg_of X G a31⟩, List.forall_mem_cons.mpr ⟨⟨f32, rfl, PySem.W.mg_of X G a32⟩, List.forall_mem_cons.mpr ⟨⟨f33, rfl, PySem.W.mg_of X G a33⟩, List.forall_mem_cons.mpr ⟨⟨f34, rfl, PySem.W.mg_of X G a34⟩, List.forall_mem_cons.mpr ⟨⟨f35, rfl, PySem.W.mg_of X G a35⟩, List.forall_mem_cons.mpr ⟨⟨f36, rfl, PySem.W.mg_of X G a36⟩, List.forall_mem_nil _⟩⟩⟩⟩⟩⟩⟩⟩⟩⟩⟩⟩⟩⟩⟩⟩⟩⟩⟩⟩⟩⟩⟩⟩⟩⟩⟩⟩⟩⟩⟩⟩⟩⟩⟩⟩
  case gl => exact List.forall_mem_cons.mpr ⟨⟨_, _, .int (65), rfl, PySem.W.mg_of X G g0, ⟨_, rfl⟩, fun _ _ => is_int.mpr rfl⟩, List.forall_mem_cons.mpr ⟨⟨_, _, .int (37), rfl, PySem.W.mg_of X G g1, ⟨_, rfl⟩, fun _ _ => is_int.mpr rfl⟩, List.forall_mem_cons.mpr ⟨⟨_, _, .int (400), rfl, PySem.W.mg_of X G g2, ⟨_, rfl⟩, fun _ _ => is_int.mpr rfl⟩, List.forall_mem_nil _⟩⟩⟩
  case cls => exact List.forall_mem_cons.mpr ⟨⟨C0, rfl, PySem.W.mg_of X G aC0, ⟨mk0, kp0⟩, fun io hio => by cases hio; exact in0⟩, List.forall_mem_cons.mpr ⟨⟨C1, rfl, PySem.W.mg_of X G aC1, ⟨mk1, kp1⟩, fun io hio => by cases hio; exact ⟨f13, rfl, in1, fn1⟩⟩, List.forall_mem_nil _⟩⟩
  case atr =>
    intro i C f hC hf
    have q : ∀ C ∈ [C0, C1], ∀ f ∈ gAtrs, NoAttr K C f := List.forall_mem_cons.mpr ⟨List.forall_mem_cons.mpr ⟨na0x0, List.forall_mem_nil _⟩, List.forall_mem_cons.mpr ⟨List.forall_mem_cons.mpr ⟨na1x0, List.forall_mem_nil _⟩, List.forall_mem_nil _⟩⟩
    exact q C (List.mem_of_getElem? hC) f hf
  case clsOk => exact clsOk_of (List.forall_mem_cons.mpr ⟨⟨⟨pg0, hd0, po0, sa0⟩, la0, mo0, ty0, by rw [ci0]; rfl, List.forall_mem_cons.mpr ⟨su0int, List.forall_mem_cons.mpr ⟨su0bool, List.forall_mem_cons.mpr ⟨su0str, List.forall_mem_cons.mpr ⟨su0tuple, List.forall_mem_cons.mpr ⟨su0list, List.forall_mem_nil _⟩⟩⟩⟩⟩, ee0, en0⟩, List.forall_mem_cons.mpr ⟨⟨⟨pg1, hd1, po1, sa1⟩, la1, mo1, ty1, by rw [ci1]; rfl, List.forall_mem_cons.mpr ⟨su1int, List.forall_mem_cons.mpr ⟨su1bool, List.forall_mem_cons.mpr ⟨su1str, List.forall_mem_cons.mpr ⟨su1tuple, List.forall_mem_cons.mpr ⟨su1list, List.forall_mem_nil _⟩⟩⟩⟩⟩, ee1, en1⟩, List.forall_mem_nil _⟩⟩) nd clg clt (List.forall_mem_cons.mpr ⟨List.forall_mem_cons.mpr ⟨fun z => absurd rfl z, List.forall_mem_cons.mpr ⟨fun _ => sp0x1, List.forall_mem_nil _⟩⟩, List.forall_mem_cons.mpr ⟨List.forall_mem_cons.mpr ⟨fun _ => sp1x0, List.forall_mem_cons.mpr ⟨fun z => absurd rfl z, List.forall_mem_nil _⟩⟩, List.forall_mem_nil _⟩⟩)
  case gcd => exact fun _ => PySem.W.mg_of X G zg
  case free => exact List.forall_mem_cons.mpr ⟨PySem.W.mg_none_of X G z0, List.forall_mem_cons.mpr ⟨PySem.W.mg_none_of X G z1, List.forall_mem_cons.mpr ⟨PySem.W.mg_none_of X G z2, List.forall_mem_cons.mpr ⟨PySem.W.mg_none_of X G z3, List.forall_mem_cons.mpr ⟨PySem.W.mg_none_of X G z4, List.forall_mem_cons.mpr ⟨PySem.W.mg_none_of X G z5, List.forall_mem_cons.mpr ⟨PySem.W.mg_none_of X G z6, List.forall_mem_cons.mpr ⟨PySem.W.mg_none_of X G z7, List.forall_mem_cons.mpr ⟨PySem.W.mg_none_of X G z8, List.forall_mem_cons.mpr ⟨PySem.W.mg_none_of X G z9, List.forall_mem_cons.mpr ⟨PySem.W.mg_none_of X G z10, List.forall_mem_cons.mpr ⟨PySem.W.mg_none_of X G z11, List.forall_mem_cons.mpr ⟨PySem.W.mg_none_of X G z12, List.forall_mem_nil _⟩⟩⟩⟩⟩⟩⟩⟩⟩⟩⟩⟩⟩
end K53
end

section
set_option maxHeartbeats 0
set_option maxHeartbeats 0
set_option Elab.async false
set_option linter.all false
set_option maxRecDepth 100000
namespace K53
open PySem L2 Co
theorem walk {l : PySem.W.OpenLaw} {q : Program} {loose : List Str} {XP : (Str → Option Value) → Heap → Prop} {YP : World → Heap → Prop} {d : DefRec} {K : Params → PySem.W.Frag} (hn : l.most = some 63) (hdf : d.params.defaults = [])
    (hY : ∀ (w : World) (h : Heap), YP w h → (K w.params).In h)
    (F : ∀ (w : World) (mg : Str → Option Value) (fa : Addr) (h : Heap), (K w.params).In h → h.Ns mainGlobals mg → mg d.name = some (.ref fa) →
      ∃ fd : FuncData, (∀ (s : Shared) (u : Value), BindsTo s fd ⟨[u], []⟩ [("script", u)]) ∧ ∀ base : Heap, (K w.params).In base → base.Ns mainGlobals mg → FnOk l.prog w (K w.params) mg base CX0 16 fa fd ["script"] (spLaw (K w.params))) :
    PySem.W.WalkO q loose XP YP l.row.toRowW d [] (fun f vs => PySem.call f vs) :=
  L2.walk_of (n := 63) (k := 16) (x := "script") (CX := fun _ => CX0) (sp := fun w => spLaw (K w.params)) hn (by decide) hdf ⟨rfl, by decide, by decide⟩ hY F (fun _ _ a ns hl _ hS => ⟨a, ns, rfl, hS, hl, fun _ => rfl⟩) fun _ _ _ _ _ z => z
theorem law_mk {l : PySem.W.OpenLaw} {w : World} {K : PySem.W.Frag} {mg : Str → Option Value} {faL : Addr} (hfa : mg "law" = some (.ref faL)) {fa cl : List Addr} (A : L.At K mg fa cl) :
    ∃ fd : FuncData, (∀ (s : Shared) (u : Value), BindsTo s fd ⟨[u], []⟩ [("script", u)]) ∧ ∀ base : Heap, K.In base → base.Ns mainGlobals mg → FnOk l.prog w K mg base CX0 16 faL fd ["script"] (spLaw K) := by
  obtain ⟨f, h1, fd, F, B⟩ := Paired.at A.fn 36 d36 rfl
  obtain ⟨f', h2, h3⟩ := A.fns (("law" : Str), 36) (by simp [L, gFns])
  have e1 : f' = f := by
    have h2 : fa[36]? = some f' := h2
    rw [h1] at h2
    exact (Option.some.inj h2).symm
  subst e1
  have e2 : f' = faL := by
    have h3 : mg "law" = some (.ref f') := h3
    rw [hfa] at h3
    cases h3
    rfl
  subst e2
  obtain ⟨oc, od, kV, doc, pm, an, cdv, ct, osl, rfl, lk, hcd⟩ := F.ex
  exact ⟨_, fun s v => .of_eq rfl, fun base _ _ => law_ok A (i := 36) rfl h1 F rfl math⟩
end K53
open PySem PySem.W PyProof.Rows
set_option maxRecDepth 100000 in
theorem PySem.Challenge.cw_roundfractions_k53_judge_together_and_ap_holds : PySem.Challenge.rw_roundfractions_k53_judge_together_and_ap.Holds := by
  w_on; o_law; k_head; (case hw => w_witness2)
  k_fill
  refine K53.walk (l := PySem.Challenge.rw_roundfractions_k53_judge_together_and_ap) rfl rfl (fun w h Y => PySem.W.kIn_of Y) ?F
  case F =>
    intro w mg fa h KX G hmg
    refine' K53.law_mk hmg (K53.at_mk KX G ?q_aC0 ?q_aC1 ?q_pg0 ?q_hd0 ?q_po0 ?q_sa0 ?q_la0 ?q_mo0 ?q_ty0 ?q_ci0 ?q_mk0 ?q_kp0 ?q_ee0 ?q_en0 ?q_su0int ?q_su0bool ?q_su0str ?q_su0tuple ?q_su0list ?q_sp0x1 ?q_na0x0 ?q_in0 ?q_pg1 ?q_hd1 ?q_po1 ?q_sa1 ?q_la1 ?q_mo1 ?q_ty1 ?q_ci1 ?q_mk1 ?q_kp1 ?q_ee1 ?q_en1 ?q_su1int ?q_su1bool ?q_su1str ?q_su1tuple ?q_su1list ?q_sp1x0 ?q_na1x0 ?q_in1 ?q_fn1 ?q_a0 ?q_l0 ?q_c0 ?q_k0 ?q_a1 ?q_l1 ?q_c1 ?q_k1 ?q_a2 ?q_l2 ?q_c2 ?q_k2 ?q_a3 ?q_l3 ?q_c3 ?q_k3 ?q_a4 ?q_l4 ?q_c4 ?q_k4 ?q_a5 ?q_l5 ?q_c5 ?q_k5 ?q_a6 ?q_l6 ?q_c6 ?q_k6 ?q_a7 ?q_l7 ?q_c7 ?q_k7 ?q_a8 ?q_l8 ?q_c8 ?q_k8 ?q_a9 ?q_l9 ?q_c9 ?q_k9 ?q_a10 ?q_l10 ?q_c10 ?q_k10 ?q_a11 ?q_l11 ?q_c11 ?q_k11 ?q_a12 ?q_l12 ?q_c12 ?q_k12 ?q_l13 ?q_c13 ?q_k13 ?q_a14 ?q_l14 ?q_c14 ?q_k14 ?q_a15 ?q_l15 ?q_c15 ?q_k15 ?q_a16 ?q_l16 ?q_c16 ?q_k16 ?q_a17 ?q_l17 ?q_c17 ?q_k17 ?q_a18 ?q_l18 ?q_c18 ?q_k18 ?q_a19 ?q_l19 ?q_c19 ?q_k19 ?q_a20 ?q_l20 ?q_c20 ?q_k20 ?q_a21 ?q_l21 ?q_c21 ?q_k21 ?q_a22 ?q_l22 ?q_c22 ?q_k22 ?q_a23 ?q_l23 ?q_c23 ?q_k23 ?q_a24 ?q_l24 ?q_c24 ?q_k24 ?q_a25 ?q_l25 ?q_c25 ?q_k25 ?q_a26 ?q_l26 ?q_c26 ?q_k26 ?q_a27 ?q_l27 ?q_c27 ?q_k27 ?q_a28 ?q_l28 ?q_c28 ?q_k28 ?q_a29 ?q_l29 ?q_c29 ?q_k29 ?q_a30 ?q_l30 ?q_c30 ?q_k30 ?q_a31 ?q_l31 ?q_c31 ?q_k31 ?q_a32 ?q_l32 ?q_c32 ?q_k32 ?q_a33 ?q_l33 ?q_c33 ?q_k33 ?q_a34 ?q_l34 ?q_c34 ?q_k34 ?q_a35 ?q_l35 ?q_c35 ?q_k35 ?q_a36 ?q_l36 ?q_c36 ?q_k36 ?q_g0 ?q_g1 ?q_g2 ?q_z0 ?q_z1 ?q_z2 ?q_z3 ?q_z4 ?q_z5 ?q_z6 ?q_z7 ?q_z8 ?q_z9 ?q_z10 ?q_z11 ?q_z12 ?q_zg ?q_clg ?q_clt ?q_nd)
    (case q_aC0 => k_is)
    (case q_aC1 => k_is)
    (case q_pg0 => k_is)
    (case q_hd0 => k_is)
    (case q_po0 => k_is)
    (case q_sa0 => k_is)
    (case q_la0 => k_is)
    (case q_mo0 => k_is)
    (case q_ty0 => k_is)
    (case q_ci0 => k_is)
    (case q_mk0 => k_is)
    (case q_kp0 => k_is)
    (case q_ee0 => k_is)
    (case q_en0 => k_is)
    (case q_su0int => k_is)
    (case q_su0bool => k_is)
    (case q_su0str => k_is)
    (case q_su0tuple => k_is)
    (case q_su0list => k_is)
    (case q_sp0x1 => k_is)
    (case q_na0x0 => k_is)
    (case q_in0 => k_is)
    (case q_pg1 => k_is)
    (case q_hd1 => k_is)
    (case q_po1 => k_is)
    (case q_sa1 => k_is)
    (case q_la1 => k_is)
    (case q_mo1 => k_is)
    (case q_ty1 => k_is)
    (case q_ci1 => k_is)
    (case q_mk1 => k_is)
    (case q_kp1 => k_is)
    (case q_ee1 => k_is)
    (case q_en1 => k_is)
    (case q_su1int => k_is)
    (case q_su1bool => k_is)
    (case q_su1str => k_is)
    (case q_su1tuple => k_is)
    (case q_su1list => k_is)
    (case q_sp1x0 => k_is)
    (case q_na1x0 => k_is)
    (case q_in1 => k_is)
    (case q_fn1 => k_is)
    (case q_a0 => k_is)
    (case q_l0 => k_is)
    (case q_c0 => k_is)
    (case q_k0 => k_is)
    (case q_a1 => k_is)
    (case q_l1 => k_is)
    (case q_c1 => k_is)
    (case q_k1 => k_is)
    (case q_a2 => k_is)
    (case q_l2 => k_is)
    (case q_c2 => k_is)
    (case q_k2 => k_is)
    (case q_a3 => k_is)
    (case q_l3 => k_is)
    (case q_c3 => k_is)
    (case q_k3 => k_is)
    (case q_a4 => k_is)
    (case q_l4 => k_is)
    (case q_c4 => k_is)
    (case q_k4 => k_is)
    (case q_a5 => k_is)
    (case q_l5 => k_is)
    (case q_c5 => k_is)
    (case q_k5 => k_is)
    (case q_a6 => k_is)
    (case q_l6 => k_is)
    (case q_c6 => k_is)
    (case q_k6 => k_is)
    (case q_a7 => k_is)
    (case q_l7 => k_is)
    (case q_c7 => k_is)
    (case q_k7 => k_is)
    (case q_a8 => k_is)
    (case q_l8 => k_is)
    (case q_c8 => k_is)
    (case q_k8 => k_is)
    (case q_a9 => k_is)
    (case q_l9 => k_is)
    (case q_c9 => k_is)
    (case q_k9 => k_is)
    (case q_a10 => k_is)
    (case q_l10 => k_is)
    (case q_c10 => k_is)
    (case q_k10 => k_is)
    (case q_a11 => k_is)
    (case q_l11 => k_is)
    (case q_c11 => k_is)
    (case q_k11 => k_is)
    (case q_a12 => k_is)
    (case q_l12 => k_is)
    (case q_c12 => k_is)
    (case q_k12 => k_is)
    (case q_l13 => k_is)
    (case q_c13 => k_is)
    (case q_k13 => k_is)
    (case q_a14 => k_is)
    (case q_l14 => k_is)
    (case q_c14 => k_is)
    (case q_k14 => k_is)
    (case q_a15 => k_is)
    (case q_l15 => k_is)
    (case q_c15 => k_is)
    (case q_k15 => k_is)
    (case q_a16 => k_is)
    (case q_l16 => k_is)
    (case q_c16 => k_is)
    (case q_k16 => k_is)
    (case q_a17 => k_is)
    (case q_l17 => k_is)
    (case q_c17 => k_is)
    (case q_k17 => k_is)
    (case q_a18 => k_is)
    (case q_l18 => k_is)
    (case q_c18 => k_is)
    (case q_k18 => k_is)
    (case q_a19 => k_is)
    (case q_l19 => k_is)
    (case q_c19 => k_is)
    (case q_k19 => k_is)
    (case q_a20 => k_is)
    (case q_l20 => k_is)
    (case q_c20 => k_is)
    (case q_k20 => k_is)
    (case q_a21 => k_is)
    (case q_l21 => k_is)
    (case q_c21 => k_is)
    (case q_k21 => k_is)
    (case q_a22 => k_is)
    (case q_l22 => k_is)
    (case q_c22 => k_is)
    (case q_k22 => k_is)
    (case q_a23 => k_is)
    (case q_l23 => k_is)
    (case q_c23 => k_is)
    (case q_k23 => k_is)
    (case q_a24 => k_is)
    (case q_l24 => k_is)
    (case q_c24 => k_is)
    (case q_k24 => k_is)
    (case q_a25 => k_is)
    (case q_l25 => k_is)
    (case q_c25 => k_is)
    (case q_k25 => k_is)
    (case q_a26 => k_is)
    (case q_l26 => k_is)
    (case q_c26 => k_is)
    (case q_k26 => k_is)
    (case q_a27 => k_is)
    (case q_l27 => k_is)
    (case q_c27 => k_is)
    (case q_k27 => k_is)
    (case q_a28 => k_is)
    (case q_l28 => k_is)
    (case q_c28 => k_is)
    (case q_k28 => k_is)
    (case q_a29 => k_is)
    (case q_l29 => k_is)
    (case q_c29 => k_is)
    (case q_k29 => k_is)
    (case q_a30 => k_is)
    (case q_l30 => k_is)
    (case q_c30 => k_is)
    (case q_k30 => k_is)
    (case q_a31 => k_is)
    (case q_l31 => k_is)
    (case q_c31 => k_is)
    (case q_k31 => k_is)
    (case q_a32 => k_is)
    (case q_l32 => k_is)
    (case q_c32 => k_is)
    (case q_k32 => k_is)
    (case q_a33 => k_is)
    (case q_l33 => k_is)
    (case q_c33 => k_is)
    (case q_k33 => k_is)
    (case q_a34 => k_is)
    (case q_l34 => k_is)
    (case q_c34 => k_is)
    (case q_k34 => k_is)
    (case q_a35 => k_is)
    (case q_l35 => k_is)
    (case q_c35 => k_is)
    (case q_k35 => k_is)
    (case q_a36 => k_is)
    (case q_l36 => k_is)
    (case q_c36 => k_is)
    (case q_k36 => k_is)
    (case q_g0 => k_is)
    (case q_g1 => k_is)
    (case q_g2 => k_is)
    (case q_z0 => k_is)
    (case q_z1 => k_is)
    (case q_z2 => k_is)
    (case q_z3 => k_is)
    (case q_z4 => k_is)
    (case q_z5 => k_is)
    (case q_z6 => k_is)
    (case q_z7 => k_is)
    (case q_z8 => k_is)
    (case q_z9 => k_is)
    (case q_z10 => k_is)
    (case q_z11 => k_is)
    (case q_z12 => k_is)
    (case q_zg => k_is)
    (case q_clg => k_is)
    (case q_clt => k_is)
    (case q_nd => decide)
#print axioms PySem.Challenge.cw_roundfractions_k53_judge_together_and_ap_holds
end
