import PyProof.Rows.All
import Wide.All
import OpenK.AllK
import Wide.FinOn
import KE.GoesEnum
import HandS.ForMost
import HandS.ForExc
import HandS.TupMul
import HandS.New0
import HandS.New
import HandS.Style
import HandS.Rev
import HandS.Walk
import HandS.More
import HandS.IsInst
import HandS.OwnEq
import KE.KIsAll
import HandS.Wide
import HandS.Gcd
import HandS.TupAny
import HandS.Zip
import HandS.SortInts
import HandS.Flow
import HandS.Small
import Flt.Len
import HandS.Words
import PySem.Challenge.RW_roundfractions_k56_judge_shared_and_unsh

section
set_option maxHeartbeats 0
set_option maxHeartbeats 0
set_option Elab.async false
set_option linter.all false
set_option maxRecDepth 100000
/-! Co0: a few more rules over the layer: tuple * int of any int, tuple[::-1], enumerate(tuple), an instance of a class without __init__, is of things of unlike kinds. -/
namespace L2
open PySem PySem.Spec PyProof.Rows
theorem tuple_mulS (l : Addr) (items : Array Value) (n : Nat) (dd : Option Addr) (sl : Array (Option Value)) (x : Int) (u : Tok) (c0 : (decide (x < -(2 ^ 63)) || decide (x ≥ 2 ^ 63)) = false) (c1 : (items.isEmpty || x == 1) = true) :
    Meets (Builtin.«tuple.__mul__» ⟨[.ref l, .int x u], []⟩) (fun _ R s => s.heap.get? l = some { cls := .type "tuple", dict := dd, data := .seq items n, slots := sl } ∧ R (.ok (.ret (Value.ref l))) s) :=
  .of_wp fun prog w A R s h => by
    obtain ⟨hp, g, d, tk, os⟩ := s
    obtain ⟨hl, h⟩ := h
    have f1 := AutoSeq1.idx_int
    wp_walk using wpAny_loadPart' hl
    repeat (first
      | (refine wpAny_ite_false (decide_eq_false (by rw [c0]; exact Bool.false_ne_true)) ?_; wp_walk using wpAny_loadPart' hl)
      | (refine wpAny_ite_true (decide_eq_true c1) ?_; wp_walk using wpAny_loadPart' hl))
    exact ⟨_, rfl, h⟩
theorem tuple_mulE (l : Addr) (items : Array Value) (n : Nat) (dd : Option Addr) (sl : Array (Option Value)) (x : Int) (u : Tok) (c0 : (decide (x < -(2 ^ 63)) || decide (x ≥ 2 ^ 63)) = false) (c1 : (items.isEmpty || x == 1) = false) (c2 : (decide (x ≤ 0) || items.isEmpty) = true) :
    Meets (Builtin.«tuple.__mul__» ⟨[.ref l, .int x u], []⟩) (fun _ R s => s.heap.get? l = some { cls := .type "tuple", dict := dd, data := .seq items n, slots := sl } ∧
      R (.ok (.ret (Value.ref s.heap.objs.size))) { s with heap := s.heap.push { cls := Value.type "tuple", data := Data.seq #[] }, toks := s.toks }) :=
  .of_wp fun prog w A R s h => by
    obtain ⟨hp, g, d, tk, os⟩ := s
    obtain ⟨hl, h⟩ := h
    have f1 := AutoSeq1.idx_int
    wp_walk using wpAny_loadPart' hl
    repeat (first
      | (refine wpAny_ite_false (decide_eq_false (by rw [c0]; exact Bool.false_ne_true)) ?_; wp_walk using wpAny_loadPart' hl)
      | (refine wpAny_ite_false (decide_eq_false (by rw [c1]; exact Bool.false_ne_true)) ?_; wp_walk using wpAny_loadPart' hl)
      | (refine wpAny_ite_true (decide_eq_true c2) ?_; wp_walk using wpAny_loadPart' hl))
    exact ⟨_, rfl, h⟩
/-- t * k, k up to a thousand -/
def rRepTA (K : PySem.W.Frag) : R2 := fun x y H Q => ∃ l k xs, x = .ref l ∧ y = .int k ∧ SqT K H l xs ∧ (-(2 ^ 63) ≤ k ∧ k ≤ 1000) ∧ xs.length ≤ 1000 ∧
  ((xs = [] ∨ k = 1) → Q (.ref l) H) ∧ (xs ≠ [] → k ≠ 1 → ∀ p, H p = none → Q (.ref p) (upd H p (.tup (List.replicate k.toNat xs).flatten)))
section
variable {X : Cx}
theorem op_repTA : OpR X (binaryOp .Mult) (rRepTA X.K) := by
  intro pins s σ H x y v u Q I rx ry h
  obtain ⟨l, k, xs, rfl, rfl, hT, ⟨h1, h2⟩, hz, q1, q2⟩ := h
  by_cases hs : xs = [] ∨ k = 1
  · cases rx
    obtain ⟨t, rfl⟩ := ry
    obtain ⟨its, r, ⟨⟨cls, dd, data, sl⟩, ho, hc, n, hd⟩, hs'⟩ := I.tuple hT
    simp only at hc hd
    subst hc hd
    have c0 : (decide (k < -(2 ^ 63)) || decide (k ≥ 2 ^ 63)) = false := by
      rw [decide_eq_false (by omega), decide_eq_false (by omega)] <;> rfl
    have c1 : (its.toArray.isEmpty || k == 1) = true := by
      rcases hs with e | e
      · subst e; cases r; rfl
      · subst e; simp
    refine wpAny_binaryOp_repeat_ref (T := "tuple") (U := "int") (by decide) ⟨_, ho, rfl⟩ (fun s' => typeIs_int s' k t) noFill_tuple_mul F.fills_int_mul F.slot_int_rmul repeat_tuple F.slot_int_index.lookup
      (call_meets F.slot_int_rmul (typeIs_int s k t) F.entry_int_rmul (F.args_int_rmul_2 _ _) (int_rmul_tuple k t l its.toArray n dd sl)
        ⟨ho, rfl, ⟨_, ho, rfl⟩, call_meets F.slot_tuple_mul ⟨_, ho, rfl⟩ F.entry_tuple_mul (F.args_tuple_mul_2 _ _) (tuple_mulS l its.toArray n dd sl k t c0 c1) ⟨ho, ?_⟩⟩)
    exact ⟨.ref l, H, I, rfl, q1 hs⟩
  · have hne : xs ≠ [] := fun e => hs (.inl e)
    have hk : k ≠ 1 := fun e => hs (.inr e)
    by_cases hp : 2 ≤ k
    · exact op_repT pins s σ H _ _ v u Q I rx ry ⟨l, k, xs, rfl, rfl, hT, hne, hp, h2, hz, q2 hne hk⟩
    · cases rx
      obtain ⟨t, rfl⟩ := ry
      obtain ⟨its, r, ⟨⟨cls, dd, data, sl⟩, ho, hc, n, hd⟩, hs'⟩ := I.tuple hT
      simp only at hc hd
      subst hc hd
      have hn : its ≠ [] := fun e => hne (by subst e; cases r; rfl)
      have hi : its.toArray.isEmpty = false := by
        cases its with
        | nil => exact absurd rfl hn
        | cons a b => rfl
      have c0 : (decide (k < -(2 ^ 63)) || decide (k ≥ 2 ^ 63)) = false := by
        rw [decide_eq_false (by omega), decide_eq_false (by omega)] <;> rfl
      have c1 : (its.toArray.isEmpty || k == 1) = false := by
        rw [hi, Bool.false_or]; exact beq_eq_false_iff_ne.mpr hk
      have c2 : (decide (k ≤ 0) || its.toArray.isEmpty) = true := by
        rw [decide_eq_true (by omega)]; rfl
      refine wpAny_binaryOp_repeat_ref (T := "tuple") (U := "int") (by decide) ⟨_, ho, rfl⟩ (fun s' => typeIs_int s' k t) noFill_tuple_mul F.fills_int_mul F.slot_int_rmul repeat_tuple F.slot_int_index.lookup
        (call_meets F.slot_int_rmul (typeIs_int s k t) F.entry_int_rmul (F.args_int_rmul_2 _ _) (int_rmul_tuple k t l its.toArray n dd sl)
          ⟨ho, rfl, ⟨_, ho, rfl⟩, call_meets F.slot_tuple_mul ⟨_, ho, rfl⟩ F.entry_tuple_mul (F.args_tuple_mul_2 _ _) (tuple_mulE l its.toArray n dd sl k t c0 c1 c2) ⟨ho, ?_⟩⟩)
      have e0 : k.toNat = 0 := by omega
      have q := q2 hne hk _ (I.hok.fresh (Nat.le_refl _))
      rw [e0] at q
      refine ⟨.ref s.heap.objs.size, _, I.laid (t' := s.toks) (o := .tup []) (fun b ob q => Heap.get?_push_of_some _ q) (Nat.le_refl _) ?_, rfl, q⟩
      exact ⟨Nat.zero_le _, [], .nil, IsTup.new _ _⟩

/-! ### t[::-1] -/
theorem filterMap_congr' {α β : Type} {f g : α → Option β} : ∀ {l : List α}, (∀ k ∈ l, f k = g k) → l.filterMap f = l.filterMap g
  | [], _ => rfl
  | a :: l, h => by
    rw [List.filterMap_cons, List.filterMap_cons, h a (by simp), filterMap_congr' fun k hk => h k (by simp [hk])]
theorem rev_pick (items : Array Value) : ((List.range items.size).filterMap fun (k : Nat) => items[(((items.size : Int) - 1) + (k : Int) * (-1)).toNat]?).toArray = items.toList.reverse.toArray := by
  congr 1
  have e : ∀ (l : List Value), ((List.range l.length).filterMap fun (k : Nat) => l[(((l.length : Int) - 1) + (k : Int) * (-1)).toNat]?) = l.reverse := by
    intro l
    have e1 : ((List.range l.length).filterMap fun (k : Nat) => l[(((l.length : Int) - 1) + (k : Int) * (-1)).toNat]?) = ((List.range l.length).map (fun k => l.length - 1 - k)).filterMap (l[·]?) := by
      rw [List.filterMap_map]
      refine filterMap_congr' fun k hk => ?_
      have hk' : k < l.length := List.mem_range.mp hk
      show l[(((l.length : Int) - 1) + (k : Int) * (-1)).toNat]? = l[l.length - 1 - k]?
      congr 1
      omega
    rw [e1, PySem.W.krv_range, List.filterMap_reverse]
    congr 1
    have := PySem.W.krv_all l.toArray
    simpa using this
  have := e items.toList
  simpa using this
theorem getItem_tuple_rev {prog : Program} {w : World} {A : Around} {E : Value → Shared → Prop} {s : Shared} {t sl : Addr} {items : Array Value} {vl vu vk : Value} {Q : Value → Shared → Prop} (ht : IsTup s.heap t items) (hs : s.heap.IsSliceOf sl vl vu vk) (pl : IsPart vl none) (pu : IsPart vu none) (pk : IsPart vk (some (-1)))
    (h : Q (.ref s.heap.objs.size) { s with heap := s.heap.push { cls := .type "tuple", data := .seq (items.toList.reverse).toArray } })
    (hsz : items.size ≤ sizeLine) : wpAny (model prog w) A (getItem (.ref t) (.ref sl)) Q E s := by
  have hrev : sizeOk (.seq (items.toList.reverse).toArray) := by
    show (items.toList.reverse).toArray.size ≤ sizeLine
    rw [List.size_toArray, List.length_reverse, Array.length_toList]; exact hsz
  obtain ⟨os, hos, hcs, hds⟩ := id hs
  have hTs : s.TypeIs (.ref sl) "slice" := ⟨os, hos, hcs⟩
  unfold getItem
  try with_reducible refine wpAny_holding ?_
  first | refine wpAny_bind (wpAny_pure ?_) | skip
  refine wpAny_bind (wpAny_sequenceKey ht.typeIs (by decide) ?_)
  refine wpAny_bind (wpAny_callSpecial?_slot (name := Str.ofString "__getitem__") ht.typeIs PyProof.Rows.slot_tuple_getitem
    (wpAny_call_entry PyProof.Rows.slot_tuple_getitem ht.typeIs entry_tuple_getitem ?_ (args_tuple_getitem _ _)))
  show wpAny _ _ (Builtin.Tuple.tupleItemsOf (.ref t) >>= _) _ _ s
  refine wpAny_bind (tupleItemsOf_ ht ?_)
  refine wpAny_bind (wpAny_typeOf hTs ?_)
  rw [if_pos (by decide)]
  have app : ∀ {Q : Int × Int × Nat → Shared → Prop}, Q ((items.size : Int) - 1, -1, items.size) s → wpAny (model prog w) A.in1 (Builtin.Slice.sliceApplied (.ref sl) (pure (items.size : Int))) Q E s := by
    intro Q hq
    unfold Builtin.Slice.sliceApplied Builtin.Slice.sliceFields
    refine wpAny_bind (wpAny_bind (wpAny_field hos hds (x := vl) rfl (wpAny_bind (wpAny_field hos hds (x := vu) rfl (wpAny_bind (wpAny_field hos hds (x := vk) rfl (wpAny_pure ?_)))))))
    refine wpAny_bind (HT.slicePart_ pk ?_)
    show wpAny _ _ (if ((-1 : Int) == 0) = true then _ else _) _ _ s
    rw [if_neg (by decide)]
    refine wpAny_bind (HT.slicePart_ pl (wpAny_bind (HT.slicePart_ pu (wpAny_bind (wpAny_pure ?_)))))
    show wpAny _ _ (match Builtin.Slice.sliceAdjust none none (-1) (items.size : Int) with | (lo, hi) => pure (lo, (-1 : Int), Builtin.Slice.slicePlaces lo hi (-1))) _ _ s
    have e1 : Builtin.Slice.sliceAdjust none none (-1) (items.size : Int) = ((items.size : Int) - 1, -1) := rfl
    rw [e1]
    have e2 : Builtin.Slice.slicePlaces ((items.size : Int) - 1) (-1) (-1) = items.size := by
      unfold Builtin.Slice.slicePlaces
      rw [if_neg (by decide)]
      split
      · rw [show (- -1 : Int) = 1 from rfl, Int.ediv_one]; omega
      · omega
    show wpAny _ _ (pure ((items.size : Int) - 1, (-1 : Int), Builtin.Slice.slicePlaces ((items.size : Int) - 1) (-1) (-1))) _ _ s
    rw [e2]
    exact wpAny_pure hq
  refine wpAny_bind (app ?_)
  have hno : ¬ (((((items.size : Int) - 1 : Int)) == 0 && (-1 : Int) == 1 && items.size == items.size) = true) := by
    intro q
    rw [Bool.and_eq_true, Bool.and_eq_true] at q
    exact absurd (eq_of_beq q.1.2) (by decide)
  show wpAny _ _ (if ((((items.size : Int) - 1 : Int)) == 0 && (-1 : Int) == 1 && items.size == items.size) = true then _ else _) _ _ s
  rw [if_neg hno, rev_pick]
  first
    | exact wpAny_bind (m := Builtin.Tuple.tupleExact _) (wpAny_newObj_type (wpAny_pure ⟨_, rfl, wpAny_pure h⟩) hrev)
    | exact wpAny_bind (m := Builtin.Tuple.tupleExact _) (wpAny_newObj_type (wpAny_bind (wpAny_pure (wpAny_pure ⟨_, rfl, wpAny_pure h⟩))) hrev)
    | exact wpAny_bind (wpAny_bind (m := Builtin.Tuple.tupleExact _) (wpAny_newObj_type (wpAny_pure (wpAny_pure ⟨_, rfl, wpAny_pure h⟩)) hrev))
    | exact wpAny_bind (wpAny_bind (m := Builtin.Tuple.tupleExact _) (wpAny_newObj_type (wpAny_pure ⟨_, rfl, wpAny_pure h⟩) hrev))
def tRevA (K : PySem.W.Frag) (te : TE) : TE := fun σ H Q => te σ H fun x H1 => ∃ a xs, x = .ref a ∧
  ((SqL K H1 a xs ∧ ∀ p, H1 p = none → Q (.ref p) (upd H1 p (.lst xs.reverse))) ∨ (SqT K H1 a xs ∧ ∀ p, H1 p = none → Q (.ref p) (upd H1 p (.tup xs.reverse))))
theorem pe_revA {e : Expr} {te : TE} {k : Nat} {p1 p2 p3 pos : Pos} (he : PE X e te) : PE X (.Subscript e (.Slice none none (some (.UnaryOp .USub (.Constant (.int 1) k p1) p2)) p3) pos) (tRevA X.K te) := by
  refine ⟨fun pins s σ H Q I h => ?_⟩
  refine Subscript_ (thn (he.run pins s σ H _ I h) fun v s1 ⟨x, H1, I1, r1, q1⟩ => ?_)
  obtain ⟨a, xs, ex, q1⟩ := q1
  subst ex
  cases r1
  have hst : PO X (some (.UnaryOp .USub (.Constant (.int 1) k p1) p2)) (tPart (tUn (rU fun i => .int (-i)) (tC (.int 1)))) := po_some (pe_un un_neg pe_int)
  refine wpAny_Slice (thn (po_none.run pins s1 σ H1 (fun o H2 => o = none ∧ H2 = H1) I1 ⟨rfl, rfl⟩) fun vl s2 ⟨l, H2, I2, pl, el, e2⟩ => ?_)
  subst el e2
  refine thn (po_none.run pins s2 σ H2 (fun o H3 => o = none ∧ H3 = H2) I2 ⟨rfl, rfl⟩) fun vu s3 ⟨u, H3, I3, pu, eu, e3⟩ => ?_
  subst eu e3
  refine thn (hst.run pins s3 σ H3 (fun o H4 => o = some (-1) ∧ H4 = H3) I3 ⟨1, rfl, -1, rfl, rfl, rfl⟩) fun vs s4 ⟨o, H4, I4, ps, eo, e4⟩ => ?_
  subst eo e4
  have I5 : Inv X pins σ H4 { s4 with heap := s4.heap.push { cls := .type "slice", data := .fields #[vl, vu, vs] } } := I4.kept (t' := s4.toks) fun b ob q => Heap.get?_push_of_some _ q
  show wpAny (model X.prog X.w) X.A (subscriptTail e (.Slice none none (some (.UnaryOp .USub (.Constant (.int 1) k p1) p2)) p3) (.ref a) (.ref s4.heap.objs.size)) (EP X pins σ Q) X.xe { s4 with heap := s4.heap.push { cls := .type "slice", data := .fields #[vl, vu, vs] } }
  rcases q1 with ⟨hx, q⟩ | ⟨hx, q⟩
  · obtain ⟨its, r, ht, hz⟩ := I5.list hx
    have hlen := r.length
    refine tail_any (ops := [.ref a, .ref s4.heap.objs.size]) ht.isList.typeIs (PySem.slot_list_getitem.lookup) ?_ (by with_unfolding_all rfl)
    refine wpAny_getItem_list_slice ht.isList (Heap.IsSliceOf.new _ vl vu vs) pl pu ps (by decide) ?_ (by rw [List.size_toArray]; omega)
    rw [PySem.W.krv_pick]
    refine ⟨.ref _, _, I5.laid (t' := s4.toks) (o := .lst xs.reverse) (fun b ob q => Heap.get?_push_of_some _ q) (Nat.le_refl _) ?_, rfl, q _ (I5.hok.fresh (Nat.le_refl _))⟩
    exact ⟨by rw [List.length_reverse]; exact hz, _, 0, r.reverse, Heap.get?_push_size _ rfl⟩
  · obtain ⟨its, r, ht, hz⟩ := I5.tuple hx
    have hlen := r.length
    refine tail_any (ops := [.ref a, .ref s4.heap.objs.size]) ht.typeIs (PyProof.Rows.slot_tuple_getitem.lookup) ?_ (by with_unfolding_all rfl)
    refine getItem_tuple_rev ht (Heap.IsSliceOf.new _ vl vu vs) pl pu ps ?_ (by rw [List.size_toArray]; omega)
    refine ⟨.ref _, _, I5.laid (t' := s4.toks) (o := .tup xs.reverse) (fun b ob q => Heap.get?_push_of_some _ q) (Nat.le_refl _) ?_, rfl, q _ (I5.hok.fresh (Nat.le_refl _))⟩
    exact ⟨by rw [List.length_reverse]; exact hz, _, r.reverse, IsTup.new _ _⟩

/-! ### enumerate(tuple) -/
def IteT (K : PySem.W.Frag) (a : Addr) : It :=
  ⟨fun i H => ∃ (xs : List V) (x : V), SqT K H a xs ∧ xs[i]? = some x, fun i H v H' => ∃ T x, v = .ref T ∧ H T = none ∧ H' = upd H T (.tup [.int (i : Nat), x]) ∧ ∀ xs, SqT K H a xs → xs[i]? = some x, fun i H => ∃ xs : List V, SqT K H a xs ∧ xs.length = i⟩
theorem tup_of {h : Heap} {a : Addr} {its : Array Value} (p : IsTup h a its) : h.IsTuple a its := by
  first | exact p | exact p.isTuple | (obtain ⟨o, e, c, n, d⟩ := p; exact ⟨o, e, c, n, d⟩)
theorem turn_enumT {P : Program} {w : World} {K : PySem.W.Frag} {elts : List Expr} {kk : Nat} {tpos : Pos} (a e it : Addr) :
    Turn P w K (.Tuple elts kk tpos) (IteT K a) [e, it] e (fun i h => (∃ old, IsEnum h e it ((i : Nat) : Int) old) ∧ h.IsTupleIter it a i ∧ e ≠ it ∧ a ≠ it ∧ e ≠ a) where
  mem := by simp
  obj := fun i h st b hb => by
    obtain ⟨⟨old, he⟩, ⟨o, ho, hc, hd⟩, _⟩ := st
    have e' : b = e ∨ b = it := by simpa using hb
    rcases e' with z | z
    · rw [z]; exact ⟨_, he, fun v q => nomatch q⟩
    · rw [z]; exact ⟨o, ho, fun v q => by rw [hd] at q; cases q⟩
  keep := fun i h h' st k => let ⟨⟨old, he⟩, hi, hne⟩ := st; ⟨⟨old, k e (by simp) _ he⟩, hi.at fun o q => k it (by simp) o q, hne⟩
  item := by
    intro X hP hw hK hc i pins s σ H E I hf st hg
    subst hP hw hK
    obtain ⟨⟨old, he⟩, hit, hne, hat, hea⟩ := st
    obtain ⟨xs, x, hq, hx⟩ := hg
    obtain ⟨its, rv, p, hz⟩ := I.tuple hq
    obtain ⟨u, hu, ru⟩ := rv.get hx
    have hel : e < s.heap.objs.size := Heap.lt_size he
    have hil : it < s.heap.objs.size := by obtain ⟨_, q, _⟩ := hit; exact Heap.lt_size q
    have hi : i < its.toArray.size := by rw [List.size_toArray]; exact (List.getElem?_eq_some_iff.mp hu).1
    refine wpAny_pyNext_enum_itemD (Draws.tuple (show X.A.in1.handled = none from I.ok.hd hc) it a hat its.toArray) he ⟨hit, tup_of p⟩ hi hne (by simp; exact ⟨hne, hea⟩) fun u2 h' tk hu2 ho hst hT hsz hk => ?_
    have eu : u2 = u := by
      have q : its[i]? = some u2 := by simpa using hu2
      rw [hu] at q; exact (Option.some.inj q).symm
    subst eu
    refine ⟨_, rfl, wpAny_letOwnedTupleGo_enum (s := { s with heap := h', toks := tk + 1 }) ho fun h'' he' sb => ?_⟩
    have hT2 : h''.get? s.heap.objs.size = some { cls := .type "tuple", data := .seq #[.int i tk, u2] } := (sb.2 _ (Nat.ne_of_gt hel)).trans hT
    have new : ObjOk X.prog X.w (upd H s.heap.objs.size (.tup [.int (i : Nat), x])) h'' s.heap.objs.size (.tup [.int (i : Nat), x]) :=
      ⟨by show 2 ≤ sizeLine; decide, [.int i tk, u2], .cons ⟨_, rfl⟩ (.cons ru .nil), ⟨_, hT2, rfl, _, rfl⟩⟩
    have I1 : Inv X pins σ (upd H s.heap.objs.size (.tup [.int (i : Nat), x])) { s with heap := h'', toks := tk + 1 } :=
      I.turnedNew (ch := [e, it]) (fun b ob hb q => (sb.2 b (fun z => hb (by simp [z]))).trans (hk b ob (fun z => hb (by simp [z])) (fun z => hb (by simp [z])) q)) hf (Nat.le_refl _) new
    refine ⟨.ref s.heap.objs.size, _, I1, rfl, ⟨_, x, rfl, I.hok.fresh (Nat.le_refl _), rfl, fun ys hy => by rw [I.tuple_inj hy hq]; exact hx⟩, ⟨⟨u2, ?_⟩, hst.1.at fun o q => (sb.2 it (Ne.symm hne)).trans q, hne, hat, hea⟩, fun b hb => ?_⟩
    · have e1 : ((i + 1 : Nat) : Int) = (i : Int) + 1 := by omega
      rw [e1]; exact he'
    · have hb' : b < s.heap.objs.size := by
        have e' : b = e ∨ b = it := by simpa using hb
        rcases e' with z | z
        · rw [z]; exact hel
        · rw [z]; exact hil
      rw [upd_ne (Nat.ne_of_lt hb')]
      exact (hf b hb).1
  done := by
    intro X hP hw hK hc i pins s σ H E I hf st hg
    subst hP hw hK
    obtain ⟨⟨old, he⟩, hit, hne, hat, hea⟩ := st
    obtain ⟨xs, hq, hx⟩ := hg
    obtain ⟨its, rv, p, hz⟩ := I.tuple hq
    obtain ⟨f0, f1, f2, f3, f4, f5⟩ := hf it (by simp)
    have hl := rv.length
    have ei : i = its.toArray.size := by rw [List.size_toArray]; omega
    subst ei
    exact wpAny_pyNext_enum_endD (Draws.tuple (show X.A.in1.handled = none from I.ok.hd hc) it a hat its.toArray) he ⟨hit, tup_of p⟩ fun h' eb => ⟨rfl, I.turned (t' := s.toks) (fun b o hb q => eb b o hb q) f0 f1 f3 f4 f5⟩
  self := fun A i s Q E st h => let ⟨⟨_, he⟩, _⟩ := st; wpAny_pyIter_enum he h
theorem meets_enumerate_newB1 {v : Value} {o : Obj} {H : Heap → Prop} (B : Begins v o H) :
    Meets (Builtin.«enumerate.__new__» ⟨[.type "enumerate", v], []⟩) (fun _ R s => H s.heap ∧
      R (.ok (.ret (.ref (s.heap.push o).objs.size))) { s with heap := (s.heap.push o).push { cls := .type "enumerate", data := .fields #[.none, .bool false, .ref s.heap.objs.size, rawInt 0, .none, .none] } }) :=
  .of_wp fun prog w A R s h => by
    obtain ⟨hp, g, d, tk, os⟩ := s; obtain ⟨h1, h⟩ := h
    have hsub := sub_enumerate
    have q1 : ∀ {A' : Around} {E : Value → Shared → Prop} {Q : Value → Shared → Prop}, Q (.ref hp.objs.size) ⟨hp.push o, g, d, tk, os⟩ → wpAny (model prog w) A' (pyIter v) Q E ⟨hp, g, d, tk, os⟩ :=
      fun q => B.iter prog w _ _ ⟨hp, g, d, tk, os⟩ _ h1 q
    wp_walk using q1
    refine wpAny_stack_any fun st => wpAny_pure ?_
    split
    · rename_i c _ _ _ _ _
      cases (c == Value.type "enumerate")
      · wp_walk using q1
        exact ⟨_, rfl, h⟩
      · wp_walk using q1
        exact ⟨_, rfl, h⟩
    · wp_walk using q1
      exact ⟨_, rfl, h⟩
theorem call_enumerate_tup {M : Model} {A : Around} {E : Value → Shared → Prop} {s : Shared} {prog : Program} {w : World} {t : Addr} {items : Array Value} {Q : Value → Shared → Prop} (hT : s.heap.IsTuple t items)
    (h : ∀ h', IsEnum h' (s.heap.objs.size + 1) s.heap.objs.size 0 .none → h'.IsTupleIter s.heap.objs.size t 0 → h'.objs.size = s.heap.objs.size + 2 →
      (∀ b o, s.heap.get? b = some o → h'.get? b = some o) → Q (.ref (s.heap.objs.size + 1)) { s with heap := h' }) :
    wpAny (model prog w) A (call (.type "enumerate") [.ref t]) Q E s := by
  refine callType_new F.called_enumerate (by decide) (F.typeCall_enumerate_1 _) (F.newCall_enumerate_1 _) (fun obj => F.args_object_init_2 obj _) F.entry_enumerate_new
    (meets_enumerate_newB1 (begins_tuple t items)) ⟨hT, ?_⟩
  have hz : (s.heap.push { cls := .type "tuple_iterator", data := .fields #[.ref t, .int 0 0] }).objs.size = s.heap.objs.size + 1 := Heap.size_push ..
  show _ ∧ _
  rw [hz]
  have he : IsEnum ((s.heap.push { cls := .type "tuple_iterator", data := .fields #[.ref t, .int 0 0] }).push
      { cls := .type "enumerate", data := .fields #[.none, .bool false, .ref s.heap.objs.size, rawInt 0, .none, .none] }) (s.heap.objs.size + 1) s.heap.objs.size 0 .none := by
    have := Heap.get?_push_size (s.heap.push { cls := .type "tuple_iterator", data := .fields #[.ref t, .int 0 0] })
      (o := { cls := .type "enumerate", data := .fields #[.none, .bool false, .ref s.heap.objs.size, rawInt 0, .none, .none] }) rfl
    rw [hz] at this; exact this
  refine ⟨⟨_, he, rfl⟩, h _ he ⟨_, Heap.get?_push_of_some _ (Heap.get?_push_size _ rfl), rfl, rfl⟩ (by rw [Heap.size_push, hz]) fun b o x => Heap.get?_push_of_some _ (Heap.get?_push_of_some _ x)⟩
def iEnumA (K : PySem.W.Frag) (ta : TA) : TI := fun σ H R => ta σ H fun vs H1 => ∃ a xs, vs = [.ref a] ∧ ((SqL K H1 a xs ∧ R (Ite K a) H1) ∨ (SqT K H1 a xs ∧ R (IteT K a) H1))
theorem pi_enumA {X : Cx} {e : Expr} {ta : TA} {p pos tpos : Pos} {elts : List Expr} {kk : Nat} (hg : Gl X "enumerate") (hm : X.mg "enumerate" = none) (ha : PA X [e] ta) (hs : starEach [e] X.env = [(false, eval e X.env)] := by rfl) :
    PI X (.Tuple elts kk tpos) (.Call (.Name "enumerate" p) [e] [] pos) (iEnumA X.K ta) := by
  refine ⟨fun pins s σ H R I h => ?_⟩
  refine Call_ (ld_blt I hg hm boot_enumerate (PyProof.Rows.callWith_type1 (thn (ha.run pos pins s σ H _ I h) fun us s1 ⟨vs, H1, I1, r1, q1⟩ => ?_) hs rfl))
  obtain ⟨a, xs, ex, q1⟩ := q1
  subst ex
  cases r1 with
  | cons r rr =>
    cases rr
    cases r
    have far : ∀ b, (b = s1.heap.objs.size + 1 ∨ b = s1.heap.objs.size) → s1.heap.objs.size ≤ b := fun b e' => by
      rcases e' with z | z
      · rw [z]; exact Nat.le_add_right _ _
      · rw [z]; exact Nat.le_refl _
    rcases q1 with ⟨hq, q⟩ | ⟨hq, q⟩
    · obtain ⟨its, rv, p', hz⟩ := I1.list hq
      refine call_enumerate_list p'.isList fun h' he hit hsz hk => wpAny_pyIter_enum he ?_
      have I2 : Inv X pins σ H1 { s1 with heap := h' } := I1.kept (t' := s1.toks) hk
      refine ⟨s1.heap.objs.size + 1, [s1.heap.objs.size + 1, s1.heap.objs.size], _, _, H1, rfl, I2, turn_enum a (s1.heap.objs.size + 1) s1.heap.objs.size, ⟨⟨.none, he⟩, hit, Nat.succ_ne_self _⟩, fun b hb => ?_, q⟩
      have hle := far b (by simpa using hb)
      exact I1.fpOk hle (I1.hok.fresh hle)
    · obtain ⟨its, rv, p', hz⟩ := I1.tuple hq
      have hal : a < s1.heap.objs.size := p'.lt
      refine call_enumerate_tup (M := model X.prog X.w) (A := X.A) (tup_of p') fun h' he hit hsz hk => wpAny_pyIter_enum he ?_
      have I2 : Inv X pins σ H1 { s1 with heap := h' } := I1.kept (t' := s1.toks) hk
      refine ⟨s1.heap.objs.size + 1, [s1.heap.objs.size + 1, s1.heap.objs.size], _, _, H1, rfl, I2, turn_enumT a (s1.heap.objs.size + 1) s1.heap.objs.size, ⟨⟨.none, he⟩, hit, Nat.succ_ne_self _, Nat.ne_of_lt hal, Nat.ne_of_gt (Nat.lt_succ_of_lt hal)⟩, fun b hb => ?_, q⟩
      have hle := far b (by simpa using hb)
      exact I1.fpOk hle (I1.hok.fresh hle)
theorem walk_enumT {K : PySem.W.Frag} {a : Addr} {xs : List V} : Walk (IteT K a) xs.length (fun H => SqT K H a xs) (YPair (fun i => some (.int (i : Nat))) (fun i => xs[i]?)) := by
  refine ⟨fun i _ hi q => ⟨xs, xs[i], q, by simp [hi]⟩, fun _ q => ⟨xs, q, rfl⟩, fun i H v H' _ q y => ?_⟩
  obtain ⟨T, x, h1, h2, h3, h4⟩ := y
  exact ⟨T, .int (i : Nat), x, h1, h2, h3, rfl, h4 xs q⟩

/-! ### C(), no __init__ -/
theorem pe_makeN {X : Cx} {C : Addr} {x : Str} {p pos : Pos} (hmk : PySem.W.makesIn X.K C = true) (hi : PySem.W.findIn X.K (.ref C) "__init__" = some (some (.builtin "object.__init__"))) (hk : PySem.W.keepIn X.K (.ref C) = true)
    (top : PySem.W.mroIn X.K C (.type "object") = some true) (hg : Gl X x) (hm : X.mg x = some (.ref C)) (hdb : (x == ("__debug__" : Str)) = false := by decide) :
    PE X (.Call (.Name x p) [] [] pos) (fun σ H Q => ∀ a dx, H a = none → H dx = none → dx ≠ a → Q (.ref a) (upd (upd H dx (.own a)) a (.ins C dx []))) := by
  refine ⟨fun pins s σ H Q I h => ?_⟩
  refine wpAny_Call_Name_kw (ld_glob I hg hm ?_ hdb)
  refine PySem.W.callWith_K0 I.kIn hk ?_
  have hq := h (s.heap.objs.size + 1) s.heap.objs.size (I.hok.fresh (Nat.le_succ _)) (I.hok.fresh (Nat.le_refl _)) (Nat.ne_of_lt (Nat.lt_succ_self _))
  have I2 := Inv.made (C := C) I
  have e2 : ((s.heap.push PySem.W.emptyDict).push (PySem.W.instObj C s.heap.objs.size)).get? (s.heap.objs.size + 1) = some (PySem.W.instObj C s.heap.objs.size) := by
    have := Heap.get?_push_size (s.heap.push PySem.W.emptyDict) (o := PySem.W.instObj C s.heap.objs.size) rfl
    rwa [Heap.size_push] at this
  refine wpAny_call (make_map0 I.kIn hmk hi (fun self => PySem.W.Looks.of_pure (PySem.W.oi_bind _)) ?_)
  have t1 : PySem.W.Looks (model X.prog X.w) ((s.heap.push PySem.W.emptyDict).push (PySem.W.instObj C s.heap.objs.size)) (typeOf (.ref (s.heap.objs.size + 1))) (.ref C) := NwA.type_at e2 rfl
  have t2 : PySem.W.Looks (model X.prog X.w) ((s.heap.push PySem.W.emptyDict).push (PySem.W.instObj C s.heap.objs.size)) (isInstance (.ref (s.heap.objs.size + 1)) (.type "object")) true := t1.andThen (PySem.W.looks_mroIn I2.kIn top)
  refine codeAny_call_builtin PySem.W.oi_plain PySem.W.entry_oi (@PySem.W.check_slot (model X.prog X.w) _ _ _ "object.__init__" "object" "__init__" (.ref (s.heap.objs.size + 1)) [] [] _ PySem.W.oi_kind PySem.W.oi_split t2 (NwA.oi_args_any (.ref (s.heap.objs.size + 1)) [] []) ?_)
  rw [PySem.W.oi_run]
  exact wpAny_pure (And.intro rfl ⟨V.ref (s.heap.objs.size + 1), _, I2, rfl, hq⟩)

/-! ### is, of things of unlike kinds -/
def rIsX : R2 := fun x y H Q => ((y = .non ∧ Q (.bl (decide (x = .non))) H) ∨ (∃ b, y = .bl b ∧ (∀ i, x ≠ .byt i) ∧ (∀ n, x ≠ .ty n) ∧ Q (.bl (decide (x = .bl b))) H))
theorem op_isX {X : Cx} : OpR X (compareOp .Is) rIsX := by
  intro pins s σ H x y v u Q I rx ry h
  rcases h with ⟨rfl, q⟩ | ⟨b, rfl, hb, ht, q⟩
  · exact op_isN pins s σ H _ _ v u Q I rx ry ⟨rfl, q⟩
  · cases x with
    | bl a => exact op_isBl pins s σ H _ _ v u Q I rx ry ⟨a, b, rfl, rfl, by simpa using q⟩
    | non => cases rx; cases ry; exact wpAny_is_other rfl (fun z => nomatch z) ⟨.bl false, H, I, rfl, by simpa using q⟩
    | int i => obtain ⟨t, rfl⟩ := rx; cases ry; exact wpAny_is_other rfl (fun z => nomatch z) ⟨.bl false, H, I, rfl, by simpa using q⟩
    | str i => obtain ⟨t, rfl⟩ := rx; cases ry; exact wpAny_is_other rfl (fun z => nomatch z) ⟨.bl false, H, I, rfl, by simpa using q⟩
    | flt i => obtain ⟨t, rfl⟩ := rx; cases ry; exact wpAny_is_other rfl (fun z => nomatch z) ⟨.bl false, H, I, rfl, by simpa using q⟩
    | ref a => cases rx; cases ry; exact wpAny_is_other rfl (fun z => nomatch z) ⟨.bl false, H, I, rfl, by simpa using q⟩
    | byt i => exact absurd rfl (hb i)
    | ty n => exact absurd rfl (ht n)
def rNotX : R2 := fun x y H Q => ((y = .non ∧ Q (.bl (!decide (x = .non))) H) ∨ (∃ b, y = .bl b ∧ (∀ i, x ≠ .byt i) ∧ (∀ n, x ≠ .ty n) ∧ Q (.bl (!decide (x = .bl b))) H))
theorem op_notX {X : Cx} : OpR X (compareOp .IsNot) rNotX := by
  intro pins s σ H x y v u Q I rx ry h
  rcases h with ⟨rfl, q⟩ | ⟨b, rfl, hb, ht, q⟩
  · exact op_notN pins s σ H _ _ v u Q I rx ry ⟨rfl, q⟩
  · cases x with
    | bl a => exact op_notBl pins s σ H _ _ v u Q I rx ry ⟨a, b, rfl, rfl, by simpa using q⟩
    | non => cases rx; cases ry; exact wpAny_isNot_other rfl (fun z => nomatch z) ⟨.bl true, H, I, rfl, by simpa using q⟩
    | int i => obtain ⟨t, rfl⟩ := rx; cases ry; exact wpAny_isNot_other rfl (fun z => nomatch z) ⟨.bl true, H, I, rfl, by simpa using q⟩
    | str i => obtain ⟨t, rfl⟩ := rx; cases ry; exact wpAny_isNot_other rfl (fun z => nomatch z) ⟨.bl true, H, I, rfl, by simpa using q⟩
    | flt i => obtain ⟨t, rfl⟩ := rx; cases ry; exact wpAny_isNot_other rfl (fun z => nomatch z) ⟨.bl true, H, I, rfl, by simpa using q⟩
    | ref a => cases rx; cases ry; exact wpAny_isNot_other rfl (fun z => nomatch z) ⟨.bl true, H, I, rfl, by simpa using q⟩
    | byt i => exact absurd rfl (hb i)
    | ty n => exact absurd rfl (ht n)
end

/-! ### x != y of two instances of one class that keeps object's __eq__ and __ne__ -/
section
open HN
variable {M : Model} {prog : Program} {w : World} {A : Around} {E : Value → Shared → Prop} {s : Shared} {K : PySem.W.Frag} {x y C : Addr} {ox oy : Obj} {od od' : Option Obj}
theorem ifBound_objNe {args : List Value} {Q : Option Value → Shared → Prop} (X : K.In s.heap) (I : PySem.W.InstAt s.heap x ox C od) (hs : PySem.W.findIn K (.ref C) "__ne__" = some (some (.builtin "object.__ne__")))
    (h : wpAny M A (call (.builtin "object.__ne__") (.ref x :: args)) (fun v => Q (some v)) E s) : wpAny M A (callSpecialIfBound? (.ref x) "__ne__" args) Q E s := by
  simp only [callSpecialIfBound?, bindSpecialIfBound?]
  refine wpAny_holding (wpAny_bind (wpAny_bind (wpAny_bind (I.type.here ((PySem.W.looks_findIn X hs).here ?_)))))
  refine wpAny_bind (wpAny_askSetting (wpAny_ite ?_))
  have fin : wpAny M A (call (.builtin "object.__ne__") ([.ref x] ++ args) >>= fun v => pure (some v)) Q E s := wpAny_bind (wpAny_mono h (fun v s' h' => wpAny_pure h') fun _ _ h' => h')
  split
  · exact wpAny_bind (wpAny_of_eq (PySem.F.cmp_object.ne.bind _) (wpAny_pure (by exact fin)))
  · exact wpAny_tryCatch (wpAny_bind (wpAny_of_eq (PySem.F.cmp_object.ne.bind _) (wpAny_pure (by exact fin))))
theorem call_objEq2 {Q : Value → Shared → Prop} (X : K.In s.heap) (I : PySem.W.InstAt s.heap x ox C od) (hm : PySem.W.mroIn K C (.type "object") = some true) (hx : s.heap.get? x = some ox) (hy : s.heap.get? y = some oy) (hxy : x ≠ y) (hnt : ox.cls ≠ .type "tuple") (hq : Q .notImplemented s) :
    wpAny (model prog w) A (call (.builtin "object.__eq__") [.ref x, .ref y]) Q E s :=
  wpAny_call (codeAny_call_builtin PySem.F.cmp_object.eq.plain PySem.F.cmpEntry_eq (PySem.W.check_slot PySem.F.cmpKind_eq PySem.F.cmpSplit_eq (I.type.andThen (PySem.W.looks_mroIn X hm)) (PySem.F.cmpArgs_eq _ _) (objEq_entry_other hxy hx hy hnt hq)))
theorem tryNe {Q : Option Value → Shared → Prop} (X : K.In s.heap) (I : PySem.W.InstAt s.heap x ox C od) (hm : PySem.W.mroIn K C (.type "object") = some true) (he : PySem.W.findIn K (.ref C) "__eq__" = some (some (.builtin "object.__eq__"))) (hn : PySem.W.findIn K (.ref C) "__ne__" = some (some (.builtin "object.__ne__")))
    (hx : s.heap.get? x = some ox) (hy : s.heap.get? y = some oy) (hxy : x ≠ y) (hnt : ox.cls ≠ .type "tuple") (hu : A.units + 1 < cLine) (hq : Q none s) : wpAny (model prog w) A (tryCompare (.ref x) "__ne__" (.ref y)) Q E s := by
  simp only [tryCompare]
  refine wpAny_bind (ifBound_objNe X I hn (wpAny_call (codeAny_call_builtin PySem.F.cmp_object.ne.plain PySem.F.cmpEntry_ne (PySem.W.check_slot PySem.F.cmpKind_ne PySem.F.cmpSplit_ne (I.type.andThen (PySem.W.looks_mroIn X hm)) (PySem.F.cmpArgs_ne _ _) ?_))))
  unfold Builtin.«object.__ne__»
  have hu1 : A.in1.units < cLine := by show A.units + 1 < cLine; exact hu
  have sp : ∀ {R : Option Value → Shared → Prop} {A' : Around} {E' : Value → Shared → Prop}, R (some .notImplemented) s → wpAny (model prog w) A' (callSpecialIfBound? (.ref x) "__eq__" [.ref y]) R E' s := fun q => ifBound_objEq X I he (call_objEq2 X I hm hx hy hxy hnt q)
  repeat (first | with_reducible refine wpAny_cRoomFor hu1 ?_ | with_reducible refine sp ?_ | wp_step)
  first | exact hq | exact wpAny_pure hq
theorem cmp_neIns {Q : Value → Shared → Prop} (X : K.In s.heap) (I : PySem.W.InstAt s.heap x ox C od) (J : PySem.W.InstAt s.heap y oy C od') (hm : PySem.W.mroIn K C (.type "object") = some true) (he : PySem.W.findIn K (.ref C) "__eq__" = some (some (.builtin "object.__eq__"))) (hn : PySem.W.findIn K (.ref C) "__ne__" = some (some (.builtin "object.__ne__")))
    (hx : s.heap.get? x = some ox) (hy : s.heap.get? y = some oy) (hxy : x ≠ y) (hcx : ox.cls = .ref C) (hcy : oy.cls = .ref C) (hu : A.units + 1 < cLine) (hq : Q (.bool true) s) : wpAny (model prog w) A (compareOp .NotEq (.ref x) (.ref y)) Q E s := by
  have hntx : ox.cls ≠ .type "tuple" := by rw [hcx]; exact fun z => nomatch z
  have hnty : oy.cls ≠ .type "tuple" := by rw [hcy]; exact fun z => nomatch z
  show wpAny (model prog w) A (richCompare .NotEq (.ref x) (.ref y)) Q E s
  simp only [richCompare, cmpInfo_NotEq, oneThing_ref]
  refine wpAny_holding (wpAny_bind (wpAny_cRoomFor (Nat.lt_of_succ_lt hu) ?_))
  refine wpAny_bind (I.type.here (wpAny_bind (J.type.here ?_)))
  rw [show (Value.ref C != Value.ref C) = false by simp]
  simp only [Bool.false_eq_true, if_false]
  refine wpAny_bind (wpAny_pure ?_)
  simp only [Bool.false_eq_true, if_false, Bool.not_false, if_true]
  refine wpAny_bind (tryNe X I hm he hn hx hy hxy hntx hu ?_)
  refine wpAny_bind (tryNe X J hm he hn hy hx hxy.symm hnty hu ?_)
  repeat (first | with_reducible refine wpAny_isSame_ref_other hxy hx hy hntx ?_ | wp_step)
  exact hq
def rNeIns (K : PySem.W.Frag) : R2 := fun x y H Q => ∃ a b C dx fs dy gs, x = .ref a ∧ y = .ref b ∧ a ≠ b ∧ H a = some (.ins C dx fs) ∧ H b = some (.ins C dy gs) ∧ PySem.W.mroIn K C (.type "object") = some true ∧
  PySem.W.findIn K (.ref C) "__eq__" = some (some (.builtin "object.__eq__")) ∧ PySem.W.findIn K (.ref C) "__ne__" = some (some (.builtin "object.__ne__")) ∧ Q (.bl true) H
theorem op_neIns {X : Cx} (hu : X.A.units + 1 < cLine) : OpR X (compareOp .NotEq) (rNeIns X.K) := by
  intro pins s σ H x y v u Q I rx ry h
  obtain ⟨a, b, C, dx, fs, dy, gs, rfl, rfl, hab, ha, hb, hm, he, hn, q⟩ := h
  cases rx
  cases ry
  obtain ⟨mA, O, _⟩ := ins_get I.hok ha
  obtain ⟨od, J, _⟩ := O.look
  obtain ⟨mB, O2, _⟩ := ins_get I.hok hb
  obtain ⟨od2, J2, _⟩ := O2.look
  exact cmp_neIns I.kIn J J2 hm he hn J.at_ J2.at_ hab rfl rfl hu ⟨.bl true, H, I, rfl, q⟩
end
end L2
end

section
set_option maxHeartbeats 0
set_option Elab.async false
set_option linter.all false
set_option maxRecDepth 100000
/-! Co0e: x == y and x != y by an own __eq__ that tells True or False. -/
namespace L2
open PySem PySem.Spec PyProof.Rows
theorem notFirst_of {K : PySem.W.Frag} {t : Value} {C : Addr} {b : Bool} (e : PySem.W.kitOne K t (.ref C) = some b) (h : b = false ∨ t = .ref C) : PySem.W.notFirst K C t = true := by
  unfold PySem.W.notFirst
  rcases h with rfl | rfl
  · unfold PySem.W.kitOne at e
    split at e
    · cases e
    · unfold PySem.W.kitCls at e
      simp only at e
      split at e
      · rw [e]; simp
      · cases e
  · simp
def rOwn (K : PySem.W.Frag) (C : Addr) (sp : Sp) (neg : Bool) (E : XK) : R2 := fun x y H Q => ∃ a dx fs t, x = .ref a ∧ H a = some (.ins C dx fs) ∧ TyX K H y t ∧ PySem.W.notFirst K C t = true ∧
  sp [.ref a, y] H (fun v H' => ∃ z, v = .bl z ∧ Q (.bl (if neg = true then !z else z)) H') E
section
variable {X : Cx} {n : Nat} {CX : CXT} {C f : Addr} {fd : FuncData} {ps : List Str} {sp : Sp} {E : XK}
/-- the call of the own __eq__, somewhere below the running body -/
theorem run_own (F : FnOk X.prog X.w X.K X.mg X.base CX n f fd ps sp) (hb : Binds X.K fd ps []) (hx : Passes CX X E) {A : Around} (sb : Sub X n A) {pins : List (Addr × Obj)} {s : Shared} {σ : St} {H : Hp} {a : Addr} {y : V} {v : Value} {Q : VK}
    (I : Inv X pins σ H s) (ry : RelV y v) (hs : sp [.ref a, y] H Q E) : wpAny (model X.prog X.w) A (call (.ref f) [.ref a, v]) (fun u s' => ∃ w H', Inv X pins σ H' s' ∧ RelV w u ∧ Q w H') X.xe s := by
  have e0 : Env0 X.prog X.w X.K X.mg X.base A X.stack s H := by
    have e := I.env0
    exact ⟨by rw [sb.fr]; exact e.frames, e.mod, e.bs, e.bsz, e.funs, e.frf, e.hok, e.bare⟩
  have hl := F.len _ _ _ _ hs
  have r2 : Vals [V.ref a, y] [Value.ref a, v] := .cons rfl (.cons ry .nil)
  refine wpAny_call (codeAny_mono (F.run A X.stack s H ⟨[.ref a, v], []⟩ [.ref a, v] [.ref a, y] _ E sb.room e0 (by
    have := hb s [.ref a, v] I.kIn (by simpa using hl)
    simpa using this) r2 hs) fun r s' hq => ?_)
  cases r with
  | error e => exact hx pins σ H s e s' I hq
  | ok fl =>
    cases fl with
    | ret w =>
      obtain ⟨z, H', I', rz, q⟩ := I.after hq
      exact ⟨z, H', I', rz, q⟩
    | next => exact False.elim hq
    | brk => exact False.elim hq
    | cont => exact False.elim hq
theorem op_ownEq (F : FnOk X.prog X.w X.K X.mg X.base CX n f fd ps sp) (hs : PySem.W.findIn X.K (.ref C) "__eq__" = some (some (.ref f))) (hf : PySem.W.isFn X.K (.ref f) = true) (hb : Binds X.K fd ps []) (hx : Passes CX X E) (hr : Room n X.A) :
    OpR X (compareOp .Eq) (rOwn X.K C sp false E) := by
  intro pins s σ H x y v u Q I rx ry h
  obtain ⟨a, dx, fs, t, rfl, ha, ty, hn, hsp⟩ := h
  cases rx
  obtain ⟨mA, J, _⟩ := ins_get I.hok ha
  obtain ⟨od, J, _⟩ := J.look
  obtain ⟨P, Z, hp, _⟩ := kit_of I ry ty
  obtain ⟨m, hF⟩ := I.fr
  show wpAny (model X.prog X.w) X.A (richCompare .Eq (.ref a) u) (EP X pins σ Q) X.xe s
  refine PySem.W.cmp_K (op := .Eq) (tb := t) hr.units0 hF I.ok.mod.kin J (Z.ty _ _ I.kIn hp) hn hs hf ?_
  refine wpAny_mono (run_own F hb hx ⟨hr, rfl⟩ I ry hsp) (fun w s' q => ?_) fun _ _ x => x
  obtain ⟨z, H', I', rz, b, rfl, q⟩ := q
  cases rz
  exact ⟨.bl b, H', I', rfl, by simpa using q⟩
open HN in
theorem op_ownNe (F : FnOk X.prog X.w X.K X.mg X.base CX n f fd ps sp) (hs : PySem.W.findIn X.K (.ref C) "__eq__" = some (some (.ref f))) (hne : PySem.W.findIn X.K (.ref C) "__ne__" = some (some (.builtin "object.__ne__"))) (hm : PySem.W.mroIn X.K C (.type "object") = some true)
    (hf : PySem.W.isFn X.K (.ref f) = true) (hb : Binds X.K fd ps []) (hx : Passes CX X E) (hr : Room (n + 1) X.A) : OpR X (compareOp .NotEq) (rOwn X.K C sp true E) := by
  intro pins s σ H x y v u Q I rx ry h
  obtain ⟨a, dx, fs, t, rfl, ha, ty, hn, hsp⟩ := h
  cases rx
  obtain ⟨mA, J, _⟩ := ins_get I.hok ha
  obtain ⟨od, J, _⟩ := J.look
  obtain ⟨P, Z, hp, _⟩ := kit_of I ry ty
  obtain ⟨m, hF⟩ := I.fr
  have X1 := I.kIn
  have hb' := Z.ty (model X.prog X.w) _ I.kIn hp
  have hu : X.A.units + 1 < cLine := hr.in1.units0
  have hu1 : X.A.in1.units < cLine := hu
  have sub1 : Sub X n X.A.in1 := ⟨hr.in1, rfl⟩
  have one : wpAny (model X.prog X.w) X.A (tryCompare (.ref a) "__ne__" u) (fun r s' => ∃ v, r = some v ∧ EP X pins σ Q v s') X.xe s := by
    simp only [tryCompare]
    refine wpAny_bind (ifBound_objNe X1 J hne (wpAny_call (codeAny_call_builtin PySem.F.cmp_object.ne.plain PySem.F.cmpEntry_ne (PySem.W.check_slot PySem.F.cmpKind_ne PySem.F.cmpSplit_ne (J.type.andThen (PySem.W.looks_mroIn X1 hm)) (PySem.F.cmpArgs_ne _ _) ?_))))
    unfold Builtin.«object.__ne__»
    have sp' : ∀ {R : Option Value → Shared → Prop} {E' : Value → Shared → Prop}, (∀ e s', X.xe e s' → E' e s') → (∀ z s' H', Inv X pins σ H' s' → Q (.bl (!z)) H' → R (some (.bool z)) s') → wpAny (model X.prog X.w) X.A.in1 (callSpecialIfBound? (.ref a) "__eq__" [u]) R E' s := fun hE hR => by
      refine PySem.W.ifBound_K X1 J hs hf (wpAny_mono (run_own F hb hx sub1 I ry hsp) (fun w s' q => ?_) hE)
      obtain ⟨z, H', I', rz, b, rfl, q⟩ := q
      cases rz
      exact hR b s' H' I' (by simpa using q)
    repeat (first | with_reducible refine wpAny_cRoomFor hu1 ?_ | with_reducible refine sp' (fun _ _ h => h) (fun z s' H' I' q => ?_) | wp_step)
    · exact ⟨_, rfl, .bl (!z), H', I', rfl, q⟩
    all_goals rfl
  show wpAny (model X.prog X.w) X.A (richCompare .NotEq (.ref a) u) (EP X pins σ Q) X.xe s
  unfold richCompare
  simp only [oneThing_ref, cmpInfo_NotEq]
  refine wpAny_holding (wpAny_bind (wpAny_cRoomFor hr.units0 ?_))
  refine wpAny_bind (J.type.here (wpAny_bind (hb'.here ?_)))
  split
  · rename_i q
    have e : PySem.W.subIn X.K t (.ref C) = some false := by
      rcases Bool.or_eq_true_iff.mp hn with e | e
      · rw [beq_iff_eq.mp e] at q; simp at q
      · exact beq_iff_eq.mp e
    refine wpAny_bind ((PySem.W.looks_subIn X1 e).here ?_)
    simp only [Bool.false_eq_true, if_false]
    refine wpAny_bind (wpAny_mono one (fun r s' z => ?_) fun _ _ e => e)
    obtain ⟨v, rfl, hq⟩ := z
    exact wpAny_pure hq
  · refine wpAny_bind (wpAny_pure ?_)
    simp only [Bool.false_eq_true, if_false]
    refine wpAny_bind (wpAny_mono one (fun r s' z => ?_) fun _ _ e => e)
    obtain ⟨v, rfl, hq⟩ := z
    exact wpAny_pure hq
end
end L2
end

section
set_option maxHeartbeats 0
set_option Elab.async false
set_option linter.all false
set_option maxRecDepth 100000
/-! Co1: a small language of pure data, its evaluator. Terms are made from the program's text (Co2), each answer is shown to be the machine's (Co3). -/
namespace Co
open PySem L2

/-- data: what a value tells. obj i: the i-th object of the store; scr: a list that is only read (the script) -/
inductive D where
  | non | bl (b : Bool) | int (i : Int) | str (x : Str) | tup (xs : List D) | lst (xs : List D) | scr (xs : List D) | obj (i : Nat)

/-- an object of the store: a dict with int and text keys; an instance of the c-th class -/
inductive Ob where
  | dk (kvs : List (Key × D)) | ins (c : Nat) (fs : List (Str × D))
abbrev Store := List Ob
/-- a slot: empty; a value that stands still; a list of its own that nobody else knows -/
inductive Slot where
  | non | val (d : D) | own (ds : List D)
abbrev Env := List Slot
/-- what an expression gives: a value that stands still; a new list; a list that may be read now -/
inductive Rv where
  | fz (d : D) | fr (ds : List D) | rd (ds : List D)

inductive Bop where
  | add | sub | mul | fdiv | mod | pow
inductive Cop where
  | eq | ne | lt | le | gt | ge | is | isnot | mem | nomem
inductive Ty where
  | int | bool | str | tuple | list | own (c : Nat)
inductive Bi where
  | len | abs | int | list | tuple | all | any | sum | max | min | sorted
inductive Bi2 where
  | max | min | gcd

inductive Pat where
  | nm (i : Nat) | tnil | tcons (p : Pat) (r : Pat)

mutual
inductive CE where
  | const (d : D)
  | var (i : Nat)
  | glob (i : Nat)
  | bin (op : Bop) (a b : CE)
  | neg (a : CE)
  | cmp (op : Cop) (a b : CE)
  | cmpO (op : Cop) (a b : CE)
  | chain (op op' : Cop) (a b c : CE)
  | andV (a b : CE)
  | orV (a b : CE)
  | notV (a : CE)
  | ite (t : CT) (a b : CE)
  | tup (as : CA)
  | lst (as : CA)
  | idx (a b : CE)
  | sl2 (a lo hi : CE)
  | slL (a lo : CE)
  | slH (a hi : CE)
  | rev (a : CE)
  | bi (f : Bi) (a : CE)
  | bi2 (f : Bi2) (a b : CE)
  | isi (a : CE) (ts : List Ty)
  | call (f : Nat) (as : CA)
  | mk (c : Nat) (as : CA)
  | attr (a : CE) (f : Str)
  | lc (p : Pat) (vs : List Nat) (it : CI) (t : CT) (elt : CE)
  | dct (ks : List Key) (as : CA)
inductive CT where
  | tr (e : CE)
  | and (t u : CT)
  | or (t u : CT)
  | not (t : CT)
  | yes
inductive CA where
  | nil
  | cons (e : CE) (as : CA)
inductive CI where
  | seq (e : CE)
  | rng1 (a : CE)
  | rng2 (a b : CE)
  | enum (e : CE)
  | zip (a b : CE)
end

mutual
inductive CS where
  | set (i : Nat) (e : CE)
  | setP (p : Pat) (e : CE)
  | par (is : List Nat) (as : CA)
  | put (i : Nat) (a e : CE)
  | fset (o : CE) (f : Str) (e : CE)
  | aug (i : Nat) (op : Bop) (e : CE)
  | drop (e : CE)
  | app (i : Nat) (e : CE)
  | ext (i : Nat) (e : CE)
  | pop (p : Pat) (i : Nat)
  | ifs (t : CT) (a b : CB)
  | whl (t : CT) (b : CB)
  | for (p : Pat) (it : CI) (b : CB)
  | ret (e : CE)
  | retN
  | pass
  | brk
  | cont
  | never
inductive CB where
  | nil
  | cons (fz : List Nat) (s : CS) (r : CB)
end

/-! ### on data -/
def Rv.d : Rv → Option D
  | .fz d => some d
  | .fr ds => some (.lst ds)
  | .rd _ => none
/-- its items: of a list, a tuple -/
def Rv.seq : Rv → Option (List D)
  | .fz (.tup ds) => some ds
  | .fz (.lst ds) => some ds
  | .fz (.scr ds) => some ds
  | .fr ds => some ds
  | .rd ds => some ds
  | _ => none
/-- .. that nobody changes meanwhile (b), or as it stands now -/
def Rv.seqB (b : Bool) : Rv → Option (List D)
  | .rd ds => if b = true then none else some ds
  | x => x.seq
def Rv.isT : Rv → Bool
  | .fz (.tup _) => true
  | _ => false
def Rv.tseq : Rv → Option (List D)
  | .fz (.lst ds) => some ds
  | .fr ds => some ds
  | .rd ds => some ds
  | _ => none
def Rv.lseq : Rv → Option (List D)
  | .fz (.lst ds) => some ds
  | .fz (.scr ds) => some ds
  | .fr ds => some ds
  | .rd ds => some ds
  | _ => none
/-- as a tree, to be compared -/
def Rv.tree : Rv → D
  | .fz d => d
  | .fr ds => .lst ds
  | .rd ds => .lst ds

mutual
def D.py : D → Option PyData
  | .non => some .none
  | .bl b => some (.bool b)
  | .int i => some (.int i)
  | .str x => some (.str x)
  | .tup xs => (D.pys xs).map .tuple
  | .lst xs => (D.pys xs).map .list
  | .scr xs => (D.pys xs).map .list
  | .obj _ => none
def D.pys : List D → Option (List PyData)
  | [] => some []
  | d :: ds => match D.py d, D.pys ds with
    | some p, some ps => some (p :: ps)
    | _, _ => none
end

def eqD (a b : D) : Option Bool :=
  match D.py a, D.py b with
  | some p, some q => if SeqAt.shaped p = true ∧ SeqAt.shaped q = true then some (PyData.eqv p q) else none
  | _, _ => none

instance (i j : Int) : Decidable (IntMulOk i j) := by unfold IntMulOk; infer_instance

def binI (op : Bop) (i j : Int) : Option Int :=
  match op with
  | .add => some (i + j)
  | .sub => some (i - j)
  | .mul => if IntMulOk i j then some (i * j) else none
  | .fdiv => if j ≠ 0 ∧ j.natAbs.log2 < 9000 then some (i.fdiv j) else none
  | .mod => if j ≠ 0 then some (i.fmod j) else none
  | .pow => if 0 ≤ j ∧ j ≤ 1000000 ∧ i.natAbs < 2 ^ 64 then some (i ^ j.toNat) else none

def binR (op : Bop) (a b : Rv) : Option Rv :=
  match op, a, b with
  | op, .fz (.int i), .fz (.int j) => (binI op i j).map fun z => .fz (.int z)
  | .add, .fz (.str x), .fz (.str y) => if x.length + y.length ≤ sizeLine then some (.fz (.str (x ++ y))) else none
  | .add, .fz (.tup xs), .fz (.tup ys) => if xs.length + ys.length ≤ sizeLine then some (.fz (.tup (xs ++ ys))) else none
  | .add, a, b => match a.tseq, b.tseq with
    | some xs, some ys => if xs.length + ys.length ≤ sizeLine then some (.fr (xs ++ ys)) else none
    | _, _ => none
  | .mul, .fz (.tup xs), .fz (.int k) => if (-(2 ^ 63) ≤ k ∧ k ≤ 1000) ∧ xs.length ≤ 1000 then some (.fz (.tup (List.replicate k.toNat xs).flatten)) else none
  | .mul, a, .fz (.int k) => match a.tseq with
    | some xs => if -(2 ^ 63) ≤ k ∧ k < 2 ^ 63 ∧ xs.length * k.toNat ≤ sizeLine then some (.fr (List.replicate k.toNat xs).flatten) else none
    | none => none
  | _, _, _ => none

def flatD : D → Bool
  | .non => true | .bl _ => true | .int _ => true | .str _ => true | _ => false
def eqFl : D → D → Bool
  | .non, .non => true
  | .bl a, .bl b => a == b
  | .bl a, .int b => (if a then 1 else 0) == b
  | .int a, .bl b => a == (if b then 1 else 0)
  | .int a, .int b => a == b
  | .str a, .str b => a == b
  | _, _ => false
def memD (d : D) (ds : List D) : Option Bool := if flatD d = true ∧ ds.all flatD = true then some (ds.any fun e => eqFl e d) else none

def isNon : D → Bool
  | .non => true | _ => false
def isBl : D → Bool → Bool
  | .bl x, y => x == y | _, _ => false
def cmpR (op : Cop) (a b : Rv) : Option Bool :=
  match op with
  | .eq => eqD a.tree b.tree
  | .ne => (eqD a.tree b.tree).map (!·)
  | .lt => match a, b with | .fz (.int i), .fz (.int j) => some (decide (i < j)) | _, _ => none
  | .le => match a, b with | .fz (.int i), .fz (.int j) => some (decide (i ≤ j)) | _, _ => none
  | .gt => match a, b with | .fz (.int i), .fz (.int j) => some (decide (j < i)) | _, _ => none
  | .ge => match a, b with | .fz (.int i), .fz (.int j) => some (decide (j ≤ i)) | _, _ => none
  | .is => match a, b with
    | .fz d, .fz .non => some (isNon d)
    | .fz d, .fz (.bl y) => some (isBl d y)
    | _, _ => none
  | .isnot => match a, b with
    | .fz d, .fz .non => some (!isNon d)
    | .fz d, .fz (.bl y) => some (!isBl d y)
    | _, _ => none
  | .mem => match a, b.seq with | .fz d, some ds => memD d ds | _, _ => none
  | .nomem => match a, b.seq with | .fz d, some ds => (memD d ds).map (!·) | _, _ => none

/-- two instances are unlike, unless they are one -/
def neIns (E : List (Option Nat)) (S : Store) (op : Cop) (a b : Rv) : Bool :=
  match op, a, b with
  | .ne, .fz (.obj i), .fz (.obj j) => match S[i]?, S[j]? with
    | some (.ins c _), some (.ins c' _) => decide (i ≠ j) && decide (c = c') && decide (E[c]? = some none)
    | _, _ => false
  | _, _, _ => false
def cmpS (E : List (Option Nat)) (S : Store) (op : Cop) (a b : Rv) : Option Bool := if neIns E S op a b = true then some true else cmpR op a b

def truR : Rv → Option Bool
  | .fz (.bl b) => some b
  | .fz .non => some false
  | .fz (.int i) => some (i != 0)
  | .fz (.str x) => if x.length ≤ sizeLine then some ((x.length : Int) != 0) else none
  | .fz (.obj _) => none
  | r => match r.seq with | some ds => some (!ds.isEmpty) | none => none

def lookD (kvs : List (Key × D)) (k : Key) : Option D := (kvs.find? fun kv => decide (kv.1 = k)).map (·.2)
def putD (kvs : List (Key × D)) (k : Key) (d : D) : List (Key × D) :=
  if (kvs.any fun kv => decide (kv.1 = k)) = true then kvs.map (fun kv => if kv.1 = k then (kv.1, d) else kv) else kvs ++ [(k, d)]
def keyD : D → Option Key
  | .int i => some (.inl i)
  | .str x => some (.inr x)
  | _ => none

def getI (ds : List D) (i : Int) : Option D := atI ds i

def idxR (S : Store) (a b : Rv) : Option D :=
  match a, b with
  | .fz (.obj n), .fz k => match S[n]? with
    | some (.dk kvs) => match keyD k with
      | some key => lookD kvs key
      | none => none
    | _ => none
  | .fz (.str x), .fz (.int i) => if x.length ≤ sizeLine then (atI x.cps.toList i).map fun c => .str ⟨#[c]⟩ else none
  | a, .fz (.int i) => match a.seq with | some ds => atI ds i | none => none
  | _, _ => none

def cutD (xs : List D) (lo hi : Option Int) : List D := (xs.drop (HT.sIx xs.length 0 lo)).take (HT.sIx xs.length xs.length hi - HT.sIx xs.length 0 lo)
def slR (a : Rv) (lo hi : Option Int) : Option Rv :=
  match a with
  | .fz (.tup xs) => some (.fz (.tup (cutD xs lo hi)))
  | .fz (.str x) => if x.length ≤ sizeLine then some (.fz (.str (cutS x lo hi))) else none
  | a => match a.lseq with | some xs => some (.fr (cutD xs lo hi)) | none => none
def revR : Rv → Option Rv
  | .fz (.tup xs) => some (.fz (.tup xs.reverse))
  | a => match a.lseq with | some xs => some (.fr xs.reverse) | none => none

def intsOf : List D → Option (List Int)
  | [] => some []
  | .int i :: ds => (intsOf ds).map (i :: ·)
  | _ :: _ => none
def boolsOf : List D → Option (List Bool)
  | [] => some []
  | .bl i :: ds => (boolsOf ds).map (i :: ·)
  | _ :: _ => none
def maxL : List Int → Option Int
  | [] => none
  | a :: as => some (as.foldl (fun x y => if y > x then y else x) a)
def minL : List Int → Option Int
  | [] => none
  | a :: as => some (as.foldl (fun x y => if y < x then y else x) a)

def biR (f : Bi) (S : Store) (a : Rv) : Option Rv :=
  match f with
  | .len => match a with
    | .fz (.str x) => if x.length ≤ sizeLine then some (.fz (.int x.length)) else none
    | .fz (.obj n) => match S[n]? with | some (.dk kvs) => some (.fz (.int kvs.length)) | _ => none
    | a => match a.seq with | some ds => some (.fz (.int ds.length)) | none => none
  | .abs => match a with | .fz (.int i) => some (.fz (.int (if i < 0 then -i else i))) | _ => none
  | .int => match a with | .fz (.int i) => some (.fz (.int i)) | _ => none
  | .list => match a.seq with | some ds => some (.fr ds) | none => none
  | .tuple => match a.seq with | some ds => some (.fz (.tup ds)) | none => none
  | .all => match a.lseq with | some ds => (boolsOf ds).map fun bs => .fz (.bl (bs.all id)) | none => none
  | .any => match a.lseq with | some ds => (boolsOf ds).map fun bs => .fz (.bl (bs.any id)) | none => none
  | .sum => match a.lseq with | some ds => (intsOf ds).map fun bs => .fz (.int bs.sum) | none => none
  | .max => match a.lseq with | some ds => (intsOf ds).bind fun bs => (maxL bs).map fun m => .fz (.int m) | none => none
  | .min => match a.lseq with | some ds => (intsOf ds).bind fun bs => (minL bs).map fun m => .fz (.int m) | none => none
  | .sorted => match a.lseq with | some ds => (intsOf ds).map fun bs => .fr ((bs.mergeSort (fun a b => decide (a ≤ b))).map .int) | none => none
def bi2R (f : Bi2) (a b : Rv) : Option D :=
  match f, a, b with
  | .max, .fz (.int i), .fz (.int j) => some (.int (if j > i then j else i))
  | .min, .fz (.int i), .fz (.int j) => some (.int (if j < i then j else i))
  | .gcd, .fz (.int i), .fz (.int j) => some (.int ((Nat.gcd i.natAbs j.natAbs : Nat) : Int))
  | _, _, _ => none

def isTy (S : Store) (a : Rv) : Ty → Option Bool
  | t => match a with
    | .fz (.int _) => some (match t with | .int => true | _ => false)
    | .fz (.bl _) => some (match t with | .int => true | .bool => true | _ => false)
    | .fz .non => some false
    | .fz (.str _) => some (match t with | .str => true | _ => false)
    | .fz (.tup _) => some (match t with | .tuple => true | _ => false)
    | .fz (.lst _) => some (match t with | .list => true | _ => false)
    | .fz (.scr _) => some (match t with | .list => true | _ => false)
    | .fr _ => some (match t with | .list => true | _ => false)
    | .rd _ => some (match t with | .list => true | _ => false)
    | .fz (.obj n) => match S[n]? with
      | some (.ins c _) => some (match t with | .own c' => decide (c = c') | _ => false)
      | some (.dk _) => some false
      | none => none
def isTys (S : Store) (a : Rv) : List Ty → Option Bool
  | [] => some false
  | t :: ts => match isTy S a t, isTys S a ts with
    | some x, some y => some (x || y)
    | _, _ => none

/-- an instance of a class with its own __eq__: the class, the def -/
def ownEq (E : List (Option Nat)) (S : Store) : Rv → Option (Nat × Nat)
  | .fz (.obj i) => match S[i]? with
    | some (.ins c _) => match E[c]? with
      | some (some j) => some (c, j)
      | _ => none
    | _ => none
  | _ => none
def setF (f : Str) (d : D) : List (Str × D) → List (Str × D)
  | [] => [(f, d)]
  | (g, e) :: r => if g = f then (g, d) :: r else (g, e) :: setF f d r
/-- a target -/
def Pat.asg : Pat → D → Env → Option Env
  | .nm i, d, σ => some (σ.set i (.val d))
  | .tnil, .tup [], σ => some σ
  | .tcons p r, .tup (d :: ds), σ => match p.asg d σ with
    | some σ' => r.asg (.tup ds) σ'
    | none => none
  | _, _, _ => none

/-- what is known of the program -/
structure Ctx where
  call : Nat → List D → Store → Option (D × Store)
  globs : List D
  /-- of a class its __init__'s number -/
  inits : List (Option Nat)
  /-- of a class its own __eq__'s number -/
  eqs : List (Option Nat)

def lcGo (f : D → Store → Option (Option D × Store)) : List D → List D → Store → Option (List D × Store)
  | [], acc, S => some (acc, S)
  | d :: ds, acc, S => match f d S with
    | some (some e, S') => if acc.length < sizeLine then lcGo f ds (acc ++ [e]) S' else none
    | some (none, S') => lcGo f ds acc S'
    | none => none

def wipeE (σ : Env) : List Nat → Env
  | [] => σ
  | v :: vs => (wipeE σ vs).set v .non

mutual
def evE (c : Ctx) : CE → Env → Store → Option (Rv × Store)
  | .const d, _, S => some (.fz d, S)
  | .var i, σ, S => match σ[i]? with
    | some (.val d) => some (.fz d, S)
    | some (.own ds) => some (.rd ds, S)
    | _ => none
  | .glob i, _, S => match c.globs[i]? with | some d => some (.fz d, S) | none => none
  | .bin op a b, σ, S => match evE c a σ S with
    | some (x, S1) => match evE c b σ S1 with
      | some (y, S2) => match binR op x y with | some z => some (z, S2) | none => none
      | none => none
    | none => none
  | .neg a, σ, S => match evE c a σ S with
    | some (.fz (.int i), S1) => some (.fz (.int (-i)), S1)
    | _ => none
  | .cmp op a b, σ, S => match evE c a σ S with
    | some (x, S1) => match evE c b σ S1 with
      | some (y, S2) => match cmpS c.eqs S2 op x y with | some z => some (.fz (.bl z), S2) | none => none
      | none => none
    | none => none
  | .cmpO op a b, σ, S => match evE c a σ S with
    | some (x, S1) => match evE c b σ S1 with
      | some (y, S2) => match ownEq c.eqs S2 x with
        | some (k, j) => match x, y, isTy S2 y (.own k) with
          | .fz dx, .fz dy, some _ => match c.call j [dx, dy] S2 with
            | some (.bl z, S3) => match op with
              | .eq => some (.fz (.bl z), S3)
              | .ne => some (.fz (.bl (!z)), S3)
              | _ => none
            | _ => none
          | _, _, _ => none
        | none => match cmpS c.eqs S2 op x y with | some z => some (.fz (.bl z), S2) | none => none
      | none => none
    | none => none
  | .chain op op' a b d, σ, S => match evE c a σ S with
    | some (x, S1) => match evE c b σ S1 with
      | some (y, S2) => match cmpR op x y with
        | some true => match evE c d σ S2 with
          | some (z, S3) => match cmpR op' y z with | some r => some (.fz (.bl r), S3) | none => none
          | none => none
        | some false => some (.fz (.bl false), S2)
        | none => none
      | none => none
    | none => none
  | .andV a b, σ, S => match evE c a σ S with
    | some (.fz (.bl true), S1) => evE c b σ S1
    | some (.fz (.bl false), S1) => some (.fz (.bl false), S1)
    | _ => none
  | .orV a b, σ, S => match evE c a σ S with
    | some (.fz (.bl false), S1) => evE c b σ S1
    | some (.fz (.bl true), S1) => some (.fz (.bl true), S1)
    | _ => none
  | .notV a, σ, S => match evE c a σ S with
    | some (.fz (.bl b), S1) => some (.fz (.bl (!b)), S1)
    | _ => none
  | .ite t a b, σ, S => match evT c t σ S with
    | some (true, S1) => evE c a σ S1
    | some (false, S1) => evE c b σ S1
    | none => none
  | .tup as, σ, S => match evA c as σ S with
    | some (ds, S1) => if ds.length ≤ sizeLine then some (.fz (.tup ds), S1) else none
    | none => none
  | .lst as, σ, S => match evA c as σ S with
    | some (ds, S1) => if ds.length ≤ sizeLine then some (.fr ds, S1) else none
    | none => none
  | .idx a b, σ, S => match evE c a σ S with
    | some (x, S1) => match evE c b σ S1 with
      | some (y, S2) => match idxR S2 x y with | some d => some (.fz d, S2) | none => none
      | none => none
    | none => none
  | .sl2 a lo hi, σ, S => match evE c a σ S with
    | some (x, S1) => match evE c lo σ S1 with
      | some (.fz (.int l), S2) => match evE c hi σ S2 with
        | some (.fz (.int h), S3) => match slR x (some l) (some h) with | some r => some (r, S3) | none => none
        | _ => none
      | _ => none
    | none => none
  | .slL a lo, σ, S => match evE c a σ S with
    | some (x, S1) => match evE c lo σ S1 with
      | some (.fz (.int l), S2) => match slR x (some l) none with | some r => some (r, S2) | none => none
      | _ => none
    | none => none
  | .slH a hi, σ, S => match evE c a σ S with
    | some (x, S1) => match evE c hi σ S1 with
      | some (.fz (.int h), S2) => match slR x none (some h) with | some r => some (r, S2) | none => none
      | _ => none
    | none => none
  | .rev a, σ, S => match evE c a σ S with
    | some (x, S1) => match revR x with | some r => some (r, S1) | none => none
    | none => none
  | .bi f a, σ, S => match evE c a σ S with
    | some (x, S1) => match biR f S1 x with | some r => some (r, S1) | none => none
    | none => none
  | .bi2 f a b, σ, S => match evE c a σ S with
    | some (x, S1) => match evE c b σ S1 with
      | some (y, S2) => match bi2R f x y with | some d => some (.fz d, S2) | none => none
      | none => none
    | none => none
  | .isi a ts, σ, S => match evE c a σ S with
    | some (x, S1) => match isTys S1 x ts with | some b => some (.fz (.bl b), S1) | none => none
    | none => none
  | .call f as, σ, S => match evA c as σ S with
    | some (ds, S1) => match c.call f ds S1 with | some (d, S2) => some (.fz d, S2) | none => none
    | none => none
  | .mk k as, σ, S => match evA c as σ S with
    | some (ds, S1) => match c.inits[k]? with
      | some none => if ds = [] then some (.fz (.obj S1.length), S1 ++ [.ins k []]) else none
      | some (some f) => match c.call f (.obj S1.length :: ds) (S1 ++ [.ins k []]) with
        | some (.non, S2) => some (.fz (.obj S1.length), S2)
        | _ => none
      | none => none
    | none => none
  | .attr a f, σ, S => match evE c a σ S with
    | some (.fz (.obj n), S1) => match S1[n]? with
      | some (.ins _ fs) => match fs.lookup f with | some d => some (.fz d, S1) | none => none
      | _ => none
    | _ => none
  | .lc p vs it t e, σ, S => match evI c false it σ S with
    | some (ds, S1) => match lcGo (fun d S => match p.asg d (wipeE σ vs) with
        | some σ' => match evT c t σ' S with
          | some (true, S2) => match evE c e σ' S2 with
            | some (r, S3) => match r.d with | some x => some (some x, S3) | none => none
            | none => none
          | some (false, S2) => some (none, S2)
          | none => none
        | none => none) ds [] S1 with
      | some (r, S2) => some (.fr r, S2)
      | none => none
    | none => none
  | .dct ks as, σ, S => match evA c as σ S with
    | some (ds, S1) => if ds.length = ks.length ∧ ks.length ≤ 15 ∧ ks.Nodup then some (.fz (.obj S1.length), S1 ++ [.dk (ks.zip ds)]) else none
    | none => none
def evT (c : Ctx) : CT → Env → Store → Option (Bool × Store)
  | .tr e, σ, S => match evE c e σ S with
    | some (x, S1) => match truR x with | some b => some (b, S1) | none => none
    | none => none
  | .and t u, σ, S => match evT c t σ S with
    | some (true, S1) => evT c u σ S1
    | some (false, S1) => some (false, S1)
    | none => none
  | .or t u, σ, S => match evT c t σ S with
    | some (false, S1) => evT c u σ S1
    | some (true, S1) => some (true, S1)
    | none => none
  | .not t, σ, S => match evT c t σ S with
    | some (b, S1) => some (!b, S1)
    | none => none
  | .yes, _, S => some (true, S)
def evA (c : Ctx) : CA → Env → Store → Option (List D × Store)
  | .nil, _, S => some ([], S)
  | .cons e as, σ, S => match evE c e σ S with
    | some (x, S1) => match x.d with
      | some d => match evA c as σ S1 with
        | some (ds, S2) => some (d :: ds, S2)
        | none => none
      | none => none
    | none => none
def evI (c : Ctx) (fx : Bool) : CI → Env → Store → Option (List D × Store)
  | .seq e, σ, S => match evE c e σ S with
    | some (x, S1) => match x.seqB fx with | some ds => some (ds, S1) | none => none
    | none => none
  | .rng1 a, σ, S => match evE c a σ S with
    | some (.fz (.int j), S1) => if -(2 ^ 62) ≤ j ∧ j < 2 ^ 62 then some ((List.range j.toNat).map fun k : Nat => D.int (k : Int), S1) else none
    | _ => none
  | .rng2 a b, σ, S => match evE c a σ S with
    | some (.fz (.int i), S1) => match evE c b σ S1 with
      | some (.fz (.int j), S2) => if (-(2 ^ 62) ≤ i ∧ i < 2 ^ 62) ∧ -(2 ^ 62) ≤ j ∧ j < 2 ^ 62 then some ((List.range (j - i).toNat).map fun k : Nat => D.int (i + (k : Int)), S2) else none
      | _ => none
    | _ => none
  | .enum e, σ, S => match evE c e σ S with
    | some (x, S1) => match x.seqB fx with | some ds => some (ds.mapIdx fun (k : Nat) d => D.tup [.int (k : Int), d], S1) | none => none
    | none => none
  | .zip a b, σ, S => match evE c a σ S with
    | some (x, S1) => match evE c b σ S1 with
      | some (y, S2) => match x.seqB fx, y.seqB fx with
        | some xs, some ys => if xs.length = ys.length ∧ x.isT = y.isT then some (List.zipWith (fun u v => .tup [u, v]) xs ys, S2) else none
        | _, _ => none
      | none => none
    | none => none
end

inductive Out where
  | nx (σ : Env) (S : Store) | ret (d : D) (S : Store) | brk (σ : Env) (S : Store) | ct (σ : Env) (S : Store)

def frz : List Nat → Env → Env
  | [], σ => σ
  | i :: is, σ => match σ[i]? with
    | some (.own ds) => frz is (σ.set i (.val (.lst ds)))
    | _ => frz is σ

def forGo (f : D → Env → Store → Option Out) : List D → Env → Store → Option Out
  | [], σ, S => some (.nx σ S)
  | d :: ds, σ, S => match f d σ S with
    | some (.nx σ' S') => forGo f ds σ' S'
    | some (.ct σ' S') => forGo f ds σ' S'
    | some (.brk σ' S') => some (.nx σ' S')
    | some (.ret d S') => some (.ret d S')
    | none => none

def whF (t : Env → Store → Option (Bool × Store)) (b : Env → Store → Option Out) : Nat → Env → Store → Option Out
  | 0, _, _ => none
  | n + 1, σ, S => match t σ S with
    | some (false, S1) => some (.nx σ S1)
    | some (true, S1) => match b σ S1 with
      | some (.nx σ' S') => whF t b n σ' S'
      | some (.ct σ' S') => whF t b n σ' S'
      | some (.brk σ' S') => some (.nx σ' S')
      | some (.ret d S') => some (.ret d S')
      | none => none
    | none => none
open Classical in
noncomputable def whD (t : Env → Store → Option (Bool × Store)) (b : Env → Store → Option Out) (σ : Env) (S : Store) : Option Out :=
  if h : ∃ n r, whF t b n σ S = some r then some (Classical.choose (Classical.choose_spec h)) else none

/-- the slot's list -/
def ownAt (σ : Env) (i : Nat) : Option (List D) := match σ[i]? with | some (.own ds) => some ds | _ => none
def asgR (i : Nat) (r : Rv) (σ : Env) : Option Env := match r with
  | .fz d => some (σ.set i (.val d))
  | .fr ds => some (σ.set i (.own ds))
  | .rd _ => none
def parGo : List Nat → List D → Env → Option Env
  | [], [], σ => some σ
  | i :: is, d :: ds, σ => parGo is ds (σ.set i (.val d))
  | _, _, _ => none

mutual
noncomputable def exS (c : Ctx) : CS → Env → Store → Option Out
  | .set i e, σ, S => match evE c e σ S with
    | some (x, S1) => match asgR i x σ with | some σ' => some (.nx σ' S1) | none => none
    | none => none
  | .setP p e, σ, S => match evE c e σ S with
    | some (x, S1) => match x.d with
      | some d => match p.asg d σ with | some σ' => some (.nx σ' S1) | none => none
      | none => none
    | none => none
  | .par is as, σ, S => match evA c as σ S with
    | some (ds, S1) => match parGo is ds σ with | some σ' => some (.nx σ' S1) | none => none
    | none => none
  | .put i a e, σ, S => match evE c e σ S with
    | some (x, S1) => match x.d with
      | some d => match evE c a σ S1 with
        | some (.fz k, S2) => match σ[i]? with
          | some (.own ds) => match k with
            | .int k => match ixN ds.length k with
              | some j => some (.nx (σ.set i (.own (ds.set j d))) S2)
              | none => none
            | _ => none
          | some (.val (.obj n)) => match S2[n]?, keyD k with
            | some (.dk kvs), some key => if kvs.length < sizeLine then some (.nx σ (S2.set n (.dk (putD kvs key d)))) else none
            | _, _ => none
          | _ => none
        | _ => none
      | none => none
    | none => none
  | .fset o f e, σ, S => match evE c e σ S with
    | some (x, S1) => match x.d with
      | some d => match evE c o σ S1 with
        | some (.fz (.obj n), S2) => match S2[n]? with
          | some (.ins k fs) => if fs.length < 1000 then some (.nx σ (S2.set n (.ins k (setF f d fs)))) else none
          | _ => none
        | _ => none
      | none => none
    | none => none
  | .aug i op e, σ, S => match σ[i]? with
    | some (.val (.int a)) => match evE c e σ S with
      | some (.fz (.int b), S1) => match op with
        | .add => some (.nx (σ.set i (.val (.int (a + b)))) S1)
        | .sub => some (.nx (σ.set i (.val (.int (a - b)))) S1)
        | _ => none
      | _ => none
    | _ => none
  | .drop e, σ, S => match evE c e σ S with
    | some (_, S1) => some (.nx σ S1)
    | none => none
  | .app i e, σ, S => match evE c e σ S with
    | some (x, S1) => match x.d, ownAt σ i with
      | some d, some ds => if ds.length < sizeLine then some (.nx (σ.set i (.own (ds ++ [d]))) S1) else none
      | _, _ => none
    | none => none
  | .ext i e, σ, S => match evE c e σ S with
    | some (x, S1) => match x.tseq, ownAt σ i with
      | some xs, some ds => if ds.length + xs.length ≤ sizeLine then some (.nx (σ.set i (.own (ds ++ xs))) S1) else none
      | _, _ => none
    | none => none
  | .pop p i, σ, S => match ownAt σ i with
    | some ds => match ds.getLast? with
      | some d => match p.asg d (σ.set i (.own ds.dropLast)) with | some σ' => some (.nx σ' S) | none => none
      | none => none
    | none => none
  | .ifs t a b, σ, S => match evT c t σ S with
    | some (true, S1) => exB c a σ S1
    | some (false, S1) => exB c b σ S1
    | none => none
  | .whl t b, σ, S => whD (evT c t) (exB c b) σ S
  | .for p it b, σ, S => match evI c true it σ S with
    | some (ds, S1) => forGo (fun d σ S => match p.asg d σ with | some σ' => exB c b σ' S | none => none) ds σ S1
    | none => none
  | .ret e, σ, S => match evE c e σ S with
    | some (x, S1) => match x.d with | some d => some (.ret d S1) | none => none
    | none => none
  | .retN, _, S => some (.ret .non S)
  | .pass, σ, S => some (.nx σ S)
  | .brk, σ, S => some (.brk σ S)
  | .cont, σ, S => some (.ct σ S)
  | .never, _, _ => none
noncomputable def exB (c : Ctx) : CB → Env → Store → Option Out
  | .nil, σ, S => some (.nx σ S)
  | .cons fz s r, σ, S => match exS c s (frz fz σ) S with
    | some (.nx σ' S') => exB c r σ' S'
    | some o => some o
    | none => none
end

/-- a def: its parameters' number, its slots' number, its body -/
structure Fd where
  np : Nat
  ns : Nat
  body : CB
structure Prg where
  fns : List Fd
  globs : List D
  inits : List (Option Nat)
  eqs : List (Option Nat)

noncomputable def callN (P : Prg) : Nat → Nat → List D → Store → Option (D × Store)
  | 0, _, _, _ => none
  | n + 1, f, ds, S => match P.fns[f]? with
    | some F => if ds.length = F.np then
        match exB ⟨callN P n, P.globs, P.inits, P.eqs⟩ F.body (ds.map .val ++ List.replicate (F.ns - F.np) .non) S with
        | some (.nx _ S') => some (.non, S')
        | some (.ret d S') => some (d, S')
        | _ => none
      else none
    | none => none
end Co
end

section
set_option maxHeartbeats 0
set_option Elab.async false
set_option linter.all false
set_option maxRecDepth 100000
/-! Co2: from the program's text to Co1's terms. -/
namespace Co
open PySem L2

/-- what is known where a piece of text stands -/
structure Gm where
  N : List Str
  sc : Scope
  /-- within a comprehension's block: its own scope, as written -/
  own : Option Scope
  fns : List (Str × Nat)
  globs : List (Str × Nat)
  clss : List (Str × Nat)
  /-- names of built-ins that the module does not hide -/
  free : List Str
  gcd : Bool
  /-- attributes of instances -/
  atrs : List Str

def ixOf (x : Str) : List Str → Nat → Option Nat
  | [], _ => none
  | y :: r, i => if x = y then some i else ixOf x r (i + 1)
def isVis : Option NameKind → Bool
  | some .local => true | some .cell => true | some .free => true | _ => false
def isLoc : Option NameKind → Bool
  | some .local => true | some .cell => true | _ => false
/-- a name's slot, to be read -/
def Gm.slot (g : Gm) (x : Str) : Option Nat := if isVis (g.sc.names.lookup x) ∧ x ≠ ("__debug__" : Str) ∧ x ≠ ("__classdict__" : Str) then ixOf x g.N 0 else none
/-- .. to be stored -/
def Gm.stor (g : Gm) (x : Str) : Option Nat :=
  match g.sc.names.lookup x with
  | some .local => ixOf x g.N 0
  | some .cell => match g.own with
    | none => ixOf x g.N 0
    | some s => if s.names.lookup x = some .cell then ixOf x g.N 0 else none
  | _ => none
def Gm.isGl (g : Gm) (x : Str) : Bool := decide (g.sc.names.lookup x = some .globalImplicit) && decide (x ≠ ("__debug__" : Str)) && decide (x ≠ ("__name__" : Str))
def Gm.isBi (g : Gm) (x : Str) : Bool := g.isGl x && decide (x ∈ g.free)
def Gm.blk (g : Gm) (s : Scope) : Gm := { g with sc := relS s g.sc, own := some s }

def bopOf : Operator → Option Bop
  | .Add => some .add | .Sub => some .sub | .Mult => some .mul | .FloorDiv => some .fdiv | .Mod => some .mod | .Pow => some .pow | _ => none
def copOf : CmpOp → Cop
  | .Eq => .eq | .NotEq => .ne | .Lt => .lt | .LtE => .le | .Gt => .gt | .GtE => .ge | .Is => .is | .IsNot => .isnot | .In => .mem | .NotIn => .nomem
def biOf (x : Str) : Option Bi :=
  if x = ("len" : Str) then some .len else if x = ("abs" : Str) then some .abs else if x = ("int" : Str) then some .int else if x = ("list" : Str) then some .list
  else if x = ("tuple" : Str) then some .tuple else if x = ("all" : Str) then some .all else if x = ("any" : Str) then some .any else if x = ("sum" : Str) then some .sum
  else if x = ("max" : Str) then some .max else if x = ("min" : Str) then some .min else if x = ("sorted" : Str) then some .sorted else none
def tyOf (x : Str) : Option Ty :=
  if x = ("int" : Str) then some .int else if x = ("bool" : Str) then some .bool else if x = ("str" : Str) then some .str else if x = ("tuple" : Str) then some .tuple
  else if x = ("list" : Str) then some .list else none
def constD : Const → Option D
  | .none => some .non | .bool b => some (.bl b) | .int i => some (.int i) | .str s => some (.str s) | _ => none
def isStar : Expr → Bool
  | .Starred .. => true | _ => false
/-- a target -/
def patOf (g : Gm) : Nat → Expr → Option Pat
  | 0, _ => none
  | n + 1, e => match e with
    | .Name x _ => (g.stor x).map .nm
    | .Tuple es _ _ => go n es
    | _ => none
where go : Nat → List Expr → Option Pat
  | 0, _ => none
  | _ + 1, [] => some .tnil
  | n + 1, e :: es => if isStar e then none else match patOf g n e, go n es with
    | some p, some r => some (.tcons p r)
    | _, _ => none
def Pat.slots : Pat → List Nat
  | .nm i => [i] | .tnil => [] | .tcons p r => p.slots ++ r.slots
def clsTy (g : Gm) (x : Str) : Option Ty := if g.isBi x then tyOf x else if g.isGl x then (g.clss.lookup x).map .own else none
def isTup : Expr → Bool
  | .Tuple .. => true | _ => false

def keysOf : List (Option Expr) → Option (List Key)
  | [] => some []
  | some (.Constant (.str x) _ _) :: r => (keysOf r).map (.inr x :: ·)
  | some (.Constant (.int x) _ _) :: r => (keysOf r).map (.inl x :: ·)
  | _ => none
/-- an attribute's base: a name, an attribute, a subscript -/
def okBase : Expr → Bool
  | .Name .. => true | .Attribute .. => true | .Subscript .. => true | _ => false
/-- an instance is made here -/
def isMk (g : Gm) : Expr → Bool
  | .Call (.Name f _) _ [] _ => g.isGl f && (g.clss.lookup f).isSome
  | _ => false
def cmpK (g : Gm) (op : CmpOp) (a b : Expr) (x y : CE) : CE :=
  match op with
  | .Eq => if isMk g a || isMk g b then .cmpO .eq x y else .cmp .eq x y
  | .NotEq => if isMk g a || isMk g b then .cmpO .ne x y else .cmp .ne x y
  | op => .cmp (copOf op) x y
mutual
def coE (g : Gm) : Nat → Expr → Option CE
  | 0, _ => none
  | n + 1, e => match e with
    | .Constant k _ _ => (constD k).map .const
    | .Name x _ => match g.slot x with
      | some i => some (.var i)
      | none => if g.isGl x then (g.globs.lookup x).map .glob else none
    | .BinOp a op b _ => match bopOf op, coE g n a, coE g n b with
      | some o, some x, some y => some (.bin o x y)
      | _, _, _ => none
    | .UnaryOp .USub a _ => (coE g n a).map .neg
    | .UnaryOp .Not a _ => (coE g n a).map .notV
    | .BoolOp _ [a] _ => coE g n a
    | .BoolOp .And (a :: b :: r) p => match coE g n a, coE g n (.BoolOp .And (b :: r) p) with
      | some x, some y => some (.andV x y)
      | _, _ => none
    | .BoolOp .Or (a :: b :: r) p => match coE g n a, coE g n (.BoolOp .Or (b :: r) p) with
      | some x, some y => some (.orV x y)
      | _, _ => none
    | .Compare a [op] [b] _ => match coE g n a, coE g n b with
      | some x, some y => some (cmpK g op a b x y)
      | _, _ => none
    | .Compare a [op, op'] [b, c] _ => match coE g n a, coE g n b, coE g n c with
      | some x, some y, some z => some (.chain (copOf op) (copOf op') x y z)
      | _, _, _ => none
    | .IfExp t a b _ => match coT g n t, coE g n a, coE g n b with
      | some x, some y, some z => some (.ite x y z)
      | _, _, _ => none
    | .Tuple es _ _ => (coA g n es).map .tup
    | .List es _ => (coA g n es).map .lst
    | .Subscript a s _ => match coE g n a with
      | none => none
      | some x => match s with
        | .Slice none none (some (.UnaryOp .USub (.Constant (.int 1) _ _) _)) _ => some (.rev x)
        | .Slice (some lo) (some hi) none _ => match coE g n lo, coE g n hi with | some l, some h => some (.sl2 x l h) | _, _ => none
        | .Slice (some lo) none none _ => (coE g n lo).map (.slL x)
        | .Slice none (some hi) none _ => (coE g n hi).map (.slH x)
        | .Slice .. => none
        | b => (coE g n b).map (.idx x)
    | .Attribute a f _ => if decide (f ∈ g.atrs) && okBase a then (coE g n a).map fun x => .attr x f else none
    | .Call (.Name f _) args [] _ =>
      if g.isBi f then
        if f = ("isinstance" : Str) then match args with
          | [a, .Name t _] => match coE g n a, clsTy g t with | some x, some ty => some (.isi x [ty]) | _, _ => none
          | [a, .Tuple ts _ _] => match coE g n a, tysOf g ts with | some x, some tys => if decide (0 < tys.length) && decide (tys.length ≤ 100) then some (.isi x tys) else none | _, _ => none
          | _ => none
        else match args with
          | [a] => match biOf f, coE g n a with | some b, some x => some (.bi b x) | _, _ => none
          | [a, b] => match coE g n a, coE g n b with
            | some x, some y => if f = ("max" : Str) then some (.bi2 .max x y) else if f = ("min" : Str) then some (.bi2 .min x y) else none
            | _, _ => none
          | _ => none
      else if g.isGl f then
        if f = ("gcd" : Str) ∧ g.gcd = true then match args with
          | [a, b] => match coE g n a, coE g n b with | some x, some y => some (.bi2 .gcd x y) | _, _ => none
          | _ => none
        else match g.fns.lookup f, g.clss.lookup f, coA g n args with
          | some i, none, some as => some (.call i as)
          | none, some i, some as => some (.mk i as)
          | _, _, _ => none
      else none
    | .ListComp elt [⟨tg, iter, ifs, 0⟩] s _ =>
      let gb := g.blk s
      match patOf gb 8 tg, coI g n (isTup tg) iter, coE gb n elt with
      | some p, some it, some e => if decide (p.slots.Nodup) && blkC g.N g.sc s (p.slots.map fun i => (g.N.getD i ⟨#[]⟩, i)) then (match ifs with
          | [] => some (.lc p p.slots it .yes e)
          | [t] => (coT gb n t).map fun t => .lc p p.slots it t e
          | _ => none) else none
      | _, _, _ => none
    | .Dict ks vs _ => match keysOf ks, coA g n vs with
      | some ks, some as => some (.dct ks as)
      | _, _ => none
    | _ => none
def tysOf (g : Gm) : List Expr → Option (List Ty)
  | [] => some []
  | .Name t _ :: r => match clsTy g t, tysOf g r with | some x, some y => some (x :: y) | _, _ => none
  | _ :: _ => none
def coT (g : Gm) : Nat → Expr → Option CT
  | 0, _ => none
  | n + 1, e => match e with
    | .BoolOp _ [a] _ => coT g n a
    | .BoolOp .And (a :: b :: r) p => match coT g n a, coT g n (.BoolOp .And (b :: r) p) with
      | some x, some y => some (.and x y)
      | _, _ => none
    | .BoolOp .Or (a :: b :: r) p => match coT g n a, coT g n (.BoolOp .Or (b :: r) p) with
      | some x, some y => some (.or x y)
      | _, _ => none
    | .UnaryOp .Not a _ => (coT g n a).map .not
    | .IfExp .. => none
    | .BoolOp .. => none
    | e => (coE g n e).map .tr
def coA (g : Gm) : Nat → List Expr → Option CA
  | 0, _ => none
  | _ + 1, [] => some .nil
  | n + 1, e :: es => if isStar e then none else match coE g n e, coA g n es with
    | some x, some y => some (.cons x y)
    | _, _ => none
def coI (g : Gm) : Nat → Bool → Expr → Option CI
  | 0, _, _ => none
  | n + 1, tup, e => match e with
    | .Call (.Name f _) args [] _ =>
      if g.isBi f = true ∧ f = ("range" : Str) then match args with
        | [a] => if isStar a then none else (coE g n a).map .rng1
        | [a, b] => if isStar a || isStar b then none else match coE g n a, coE g n b with | some x, some y => some (.rng2 x y) | _, _ => none
        | _ => none
      else if g.isBi f = true ∧ f = ("enumerate" : Str) then match args with
        | [a] => if tup && !isStar a then (coE g n a).map .enum else none
        | _ => none
      else if g.isBi f = true ∧ f = ("zip" : Str) then match args with
        | [a, b] => if tup && !isStar a && !isStar b then (match coE g n a, coE g n b with | some x, some y => some (.zip x y) | _, _ => none) else none
        | _ => none
      else (coE g n e).map .seq
    | e => (coE g n e).map .seq
end

/-! ### names to be frozen ahead of a statement -/
def slicesOf : Expr → List Expr
  | .Slice lo hi st _ => lo.toList ++ hi.toList ++ st.toList
  | e => [e]
def fzE (g : Gm) : Nat → Bool → Expr → List Str
  | 0, _, _ => []
  | n + 1, r, e => match e with
    | .Name x _ => if r then [x] else []
    | .BinOp a _ b _ => fzE g n false a ++ fzE g n false b
    | .UnaryOp _ a _ => fzE g n false a
    | .BoolOp _ es _ => es.flatMap (fzE g n r)
    | .Compare a _ bs _ => fzE g n false a ++ bs.flatMap (fzE g n false)
    | .IfExp t a b _ => fzE g n false t ++ fzE g n r a ++ fzE g n r b
    | .Tuple es _ _ => es.flatMap (fzE g n true)
    | .List es _ => es.flatMap (fzE g n true)
    | .Subscript a s _ => fzE g n false a ++ (slicesOf s).flatMap (fzE g n false)
    | .Attribute a _ _ => fzE g n false a
    | .Call (.Name f _) args _ _ => args.flatMap (fzE g n (!g.isBi f && !decide (f = ("gcd" : Str))))
    | .Call (.Attribute o _ _) args _ _ => fzE g n false o ++ args.flatMap (fzE g n true)
    | .Dict _ vs _ => vs.flatMap (fzE g n true)
    | .ListComp elt gs _ _ => fzE g n true elt ++ gs.flatMap fun c => fzE g n false c.iter ++ c.ifs.flatMap (fzE g n false)
    | _ => []
def fzI (g : Gm) (e : Expr) : List Str :=
  match e with
  | .Call (.Name _ _) args _ _ => args.flatMap (fzE g 60 true)
  | e => fzE g 60 true e
def fzS (g : Gm) : Stmt → List Str
  | .Assign [tg] (.Call (.Attribute (.Name _ _) m _) args _ _) _ => if m = ("pop" : Str) then [] else args.flatMap (fzE g 60 true) ++ (match tg with | .Subscript _ i _ => fzE g 60 false i | _ => [])
  | .Assign [tg] e _ => fzE g 60 true e ++ (match tg with | .Subscript _ i _ => fzE g 60 false i | _ => [])
  | .AugAssign _ _ e _ => fzE g 60 false e
  | .Expr (.Call (.Attribute (.Name _ _) m _) args _ _) _ => if m = ("extend" : Str) then args.flatMap (fzE g 60 false) else args.flatMap (fzE g 60 true)
  | .Expr e _ => fzE g 60 false e
  | .If t _ _ _ => fzE g 60 false t
  | .While t _ _ _ => []
  | .For _ it _ _ _ => fzI g it
  | .Return (some e) _ => fzE g 60 true e
  | _ => []
def fzN (g : Gm) (s : Stmt) : List Nat := (fzS g s).filterMap fun x => if isLoc (g.sc.names.lookup x) then ixOf x g.N 0 else none

/-! ### statements -/
def isLC : Expr → Bool
  | .ListComp .. => true | .SetComp .. => true | .DictComp .. => true | _ => false
/-- a comprehension whose value is swapped into the target's place (and must be stored by its own rule) -/
def lcSw (g : Gm) (tg e : Expr) : Bool :=
  match tg, e with
  | .Name t pos, .ListComp _ _ s p2 => decide (g.sc.names.lookup t = some .local) && decide (pos.line = p2.line) && !(s.names.any fun (n, k) => n == t && (k == .local || k == .cell))
  | _, _ => false
/-- a, b = x, y | a, b, c = x, y, z of local names, stored from the right; the values are not all constants -/
def isConstE : Expr → Bool
  | .Constant .. => true | _ => false
def parNames (g : Gm) : List Expr → Nat → Option (List Nat)
  | [], _ => some []
  | .Name x pos :: r, l => if g.sc.names.lookup x = some .local ∧ pos.line = l then (match ixOf x g.N 0, parNames g r l with | some i, some is => some (i :: is) | _, _ => none) else none
  | _ :: _, _ => none
/-- the tuple's stores are surely not swapped -/
def noSwap (g : Gm) (ts : List Expr) (e : Expr) : Bool :=
  match e with
  | .Tuple vs _ _ => !(ts.length == 2 || ts.length == 3) || vs.length != ts.length || (ts.any fun t => match t with | .Name x _ => decide (g.sc.names.lookup x ≠ some .local) | _ => true)
  | _ => true
mutual
def coS (g : Gm) : Nat → Stmt → Option CS
  | 0, _ => none
  | n + 1, s => match s with
    | .Assign [.Name x px] e pos =>
      match e with
      | .Call (.Attribute (.Name y _) m ap) [] [] cp => if m = ("pop" : Str) ∧ (ap.endLine == cp.line) = true then (match g.stor x, g.slot y with | some j, some i => some (.pop (.nm j) i) | _, _ => none) else none
      | e => match g.stor x, coE g 60 e with
        | some i, some c => if isLC e then (if lcSw g (.Name x px) e then some (.set i c) else none) else some (.set i c)
        | _, _ => none
    | .Assign [.Tuple ts k pt] e pos =>
      match e with
      | .Call (.Attribute (.Name y _) m ap) [] [] cp => if m = ("pop" : Str) ∧ (ap.endLine == cp.line) = true then (match patOf g 8 (.Tuple ts k pt), g.slot y with | some p, some i => some (.pop p i) | _, _ => none) else none
      | .Tuple vs k2 p2 => if g.own.isNone && (ts.length == 2 || ts.length == 3) && vs.length == ts.length && !(vs.any isStar) then
          match parNames g ts ((ts.head?.map (·.pos.line)).getD 0), coA g 60 vs with
          | some is, some as => if decide (is.Nodup) && vs.any (fun v => !foldedForSure 8 v) && !(vs.all (constantsAlone 8)) then some (.par is as) else none
          | _, _ => if noSwap g ts e then (match patOf g 8 (.Tuple ts k pt), coE g 60 e with | some p, some c => some (.setP p c) | _, _ => none) else none
        else if noSwap g ts e then (match patOf g 8 (.Tuple ts k pt), coE g 60 e with | some p, some c => some (.setP p c) | _, _ => none) else none
      | e => if isLC e then none else match patOf g 8 (.Tuple ts k pt), coE g 60 e with | some p, some c => some (.setP p c) | _, _ => none
    | .Assign [.Subscript (.Name x _) i _] e _ => if isLC e then none else match g.slot x, coE g 60 i, coE g 60 e with
      | some j, some a, some c => (match i with | .Slice .. => none | .Starred .. => none | _ => some (.put j a c))
      | _, _, _ => none
    | .Assign [.Attribute o f _] e _ => if isLC e || !(decide (f ∈ g.atrs)) || !(okBase o) then none else match coE g 60 o, coE g 60 e with | some a, some c => some (.fset a f c) | _, _ => none
    | .AugAssign (.Name x _) op e _ => match g.stor x, bopOf op, coE g 60 e with | some i, some o, some c => some (.aug i o c) | _, _, _ => none
    | .Expr (.Constant (.str _) _ _) _ => some .pass
    | .Expr (.Call (.Attribute (.Name x _) m ap) [a] [] cp) _ =>
      if (ap.endLine == cp.line) = false then none
      else if m = ("append" : Str) then (match g.slot x, coE g 60 a with | some i, some c => some (.app i c) | _, _ => none)
      else if m = ("extend" : Str) then (match g.slot x, coE g 60 a with | some i, some c => some (.ext i c) | _, _ => none)
      else none
    | .Expr e _ => if isLC e then none else (coE g 60 e).map .drop
    | .If t a b _ => match coT g 60 t, coB g n a, coB g n b with | some t, some x, some y => some (.ifs t x y) | _, _, _ => none
    | .While t b [] _ => match coT g 60 t, coB g n b with | some t, some x => some (.whl t x) | _, _ => none
    | .For tg it b [] _ => match patOf g 8 tg, coI g 60 (isTup tg) it, coB g n b with | some p, some i, some x => some (.for p i x) | _, _, _ => none
    | .Return (some e) _ => (coE g 60 e).map .ret
    | .Return none _ => some .retN
    | .Pass _ => some .pass
    | .Break _ => some .brk
    | .Continue _ => some .cont
    | .Raise .. => some .never
    | _ => none
def coB (g : Gm) : Nat → List Stmt → Option CB
  | 0, _ => none
  | _ + 1, [] => some .nil
  | n + 1, s :: r => match coS g n s, coB g n r with
    | some c, some cs => some (.cons (fzN g s) c cs)
    | _, _ => none
end
end Co
end

section
set_option maxHeartbeats 0
set_option Elab.async false
set_option linter.all false
set_option maxRecDepth 100000
/-! Co3: values and heaps that tell data; one step from heap to heap. -/
namespace Co
open PySem L2

mutual
/-- v tells d: tuples and lists stand still in F, objects are at their places m -/
def Is (K : PySem.W.Frag) (F : Hp) (m : List Addr) : D → V → Prop
  | .non, v => v = .non
  | .bl b, v => v = .bl b
  | .int i, v => v = .int i
  | .str x, v => v = .str x
  | .tup ds, v => ∃ a vs, v = .ref a ∧ SqT K F a vs ∧ IsA K F m ds vs
  | .lst ds, v => ∃ a vs, v = .ref a ∧ F a = some (.lst vs) ∧ IsA K F m ds vs
  | .scr ds, v => ∃ a vs, v = .ref a ∧ SqL K F a vs ∧ IsA K F m ds vs
  | .obj i, v => ∃ a, v = .ref a ∧ m[i]? = some a
def IsA (K : PySem.W.Frag) (F : Hp) (m : List Addr) : List D → List V → Prop
  | [], vs => vs = []
  | d :: ds, vs => ∃ v ws, vs = v :: ws ∧ Is K F m d v ∧ IsA K F m ds ws
end

theorem same_l {K : PySem.W.Frag} {H H' : Hp} {a : Addr} {xs : List V} (e : Same H H') (h : SqL K H a xs) : SqL K H' a xs := e.seq h
theorem same_t {K : PySem.W.Frag} {H H' : Hp} {a : Addr} {xs : List V} (e : Same H H') (h : SqT K H a xs) : SqT K H' a xs := by
  rcases h with (h | ⟨o, h⟩) | h
  · exact .inl (.inl (e _ _ h))
  · exact .inl (.inr ⟨o, e _ _ h⟩)
  · exact .inr h
theorem same_new {H : Hp} {p : Addr} {o : HO} (h : H p = none) : Same H (upd H p o) := fun a u e => by
  rw [upd_ne (ne_of_none e h)]; exact e

mutual
theorem Is.mono {K : PySem.W.Frag} {F F' : Hp} {m m' : List Addr} (e : Same F F') (p : ∃ l, m' = m ++ l) : ∀ (d : D) (v : V), Is K F m d v → Is K F' m' d v
  | .non, _, h => by simpa only [Is] using h
  | .bl _, _, h => by simpa only [Is] using h
  | .int _, _, h => by simpa only [Is] using h
  | .str _, _, h => by simpa only [Is] using h
  | .tup ds, v, h => by
    simp only [Is] at h ⊢
    obtain ⟨a, vs, rfl, h1, h2⟩ := h
    exact ⟨a, vs, rfl, same_t e h1, IsA.mono e p ds vs h2⟩
  | .lst ds, v, h => by
    simp only [Is] at h ⊢
    obtain ⟨a, vs, rfl, h1, h2⟩ := h
    exact ⟨a, vs, rfl, e _ _ h1, IsA.mono e p ds vs h2⟩
  | .scr ds, v, h => by
    simp only [Is] at h ⊢
    obtain ⟨a, vs, rfl, h1, h2⟩ := h
    exact ⟨a, vs, rfl, same_l e h1, IsA.mono e p ds vs h2⟩
  | .obj i, v, h => by
    simp only [Is] at h ⊢
    obtain ⟨a, rfl, h1⟩ := h
    obtain ⟨l, rfl⟩ := p
    refine ⟨a, rfl, ?_⟩
    rw [List.getElem?_append_left (List.getElem?_eq_some_iff.mp h1).1]
    exact h1
theorem IsA.mono {K : PySem.W.Frag} {F F' : Hp} {m m' : List Addr} (e : Same F F') (p : ∃ l, m' = m ++ l) : ∀ (ds : List D) (vs : List V), IsA K F m ds vs → IsA K F' m' ds vs
  | [], _, h => by simpa only [IsA] using h
  | d :: ds, vs, h => by
    simp only [IsA] at h ⊢
    obtain ⟨v, ws, rfl, h1, h2⟩ := h
    exact ⟨v, ws, rfl, Is.mono e p d v h1, IsA.mono e p ds ws h2⟩
end
section
variable {K : PySem.W.Frag} {F F' H H' H0 H1 H2 F0 F1 F2 : Hp} {m m' m0 m1 m2 : List Addr} {d : D} {ds : List D} {v : V} {vs : List V}
theorem IsA.len : ∀ {ds : List D} {vs : List V}, IsA K F m ds vs → ds.length = vs.length
  | [], _, h => by simp only [IsA] at h; subst h; rfl
  | d :: ds, vs, h => by
    simp only [IsA] at h
    obtain ⟨v, ws, rfl, h1, h2⟩ := h
    simp [IsA.len h2]
theorem IsA.get : ∀ {ds : List D} {vs : List V} {i : Nat}, IsA K F m ds vs → ∀ {d}, ds[i]? = some d → ∃ v, vs[i]? = some v ∧ Is K F m d v
  | [], _, _, h, d, e => by simp at e
  | d :: ds, vs, i, h, d', e => by
    simp only [IsA] at h
    obtain ⟨v, ws, rfl, h1, h2⟩ := h
    cases i with
    | zero => simp at e; subst e; exact ⟨v, by simp, h1⟩
    | succ i => simp at e; obtain ⟨w, q1, q2⟩ := IsA.get h2 e; exact ⟨w, by simpa using q1, q2⟩
theorem IsA.app : ∀ {ds es : List D} {vs ws : List V}, IsA K F m ds vs → IsA K F m es ws → IsA K F m (ds ++ es) (vs ++ ws)
  | [], _, _, _, h, k => by simp only [IsA] at h; subst h; exact k
  | d :: ds, es, vs, ws, h, k => by
    simp only [IsA] at h
    obtain ⟨v, us, rfl, h1, h2⟩ := h
    simp only [List.cons_append, IsA]
    exact ⟨v, us ++ ws, rfl, h1, IsA.app h2 k⟩
theorem IsA.one (h : Is K F m d v) : IsA K F m [d] [v] := by simp only [IsA]; exact ⟨v, [], rfl, h, rfl⟩
theorem IsA.take : ∀ {ds : List D} {vs : List V} (n : Nat), IsA K F m ds vs → IsA K F m (ds.take n) (vs.take n)
  | [], _, n, h => by simp only [IsA] at h; subst h; simp [IsA]
  | d :: ds, vs, 0, h => by simp [IsA]
  | d :: ds, vs, n + 1, h => by
    simp only [IsA] at h
    obtain ⟨v, us, rfl, h1, h2⟩ := h
    simp only [List.take_succ_cons, IsA]
    exact ⟨v, _, rfl, h1, IsA.take n h2⟩
theorem IsA.drop : ∀ {ds : List D} {vs : List V} (n : Nat), IsA K F m ds vs → IsA K F m (ds.drop n) (vs.drop n)
  | [], _, n, h => by simp only [IsA] at h; subst h; simp [IsA]
  | d :: ds, vs, 0, h => by simpa using h
  | d :: ds, vs, n + 1, h => by
    simp only [IsA] at h
    obtain ⟨v, us, rfl, h1, h2⟩ := h
    simpa using IsA.drop n h2
theorem IsA.rev : ∀ {ds : List D} {vs : List V}, IsA K F m ds vs → IsA K F m ds.reverse vs.reverse
  | [], _, h => by simp only [IsA] at h; subst h; simp [IsA]
  | d :: ds, vs, h => by
    simp only [IsA] at h
    obtain ⟨v, us, rfl, h1, h2⟩ := h
    simp only [List.reverse_cons]
    exact (IsA.rev h2).app (.one h1)
theorem IsA.set : ∀ {ds : List D} {vs : List V} (i : Nat), IsA K F m ds vs → Is K F m d v → IsA K F m (ds.set i d) (vs.set i v)
  | [], _, n, h, _ => by simp only [IsA] at h; subst h; simp [IsA]
  | e :: ds, vs, 0, h, k => by
    simp only [IsA] at h
    obtain ⟨w, us, rfl, h1, h2⟩ := h
    simp only [List.set_cons_zero, IsA]
    exact ⟨_, _, rfl, k, h2⟩
  | e :: ds, vs, n + 1, h, k => by
    simp only [IsA] at h
    obtain ⟨w, us, rfl, h1, h2⟩ := h
    simp only [List.set_cons_succ, IsA]
    exact ⟨_, _, rfl, h1, IsA.set n h2 k⟩
theorem IsA.dropLast {ds : List D} {vs : List V} (h : IsA K F m ds vs) : IsA K F m ds.dropLast vs.dropLast := by
  rw [List.dropLast_eq_take, List.dropLast_eq_take, h.len]; exact h.take _
theorem IsA.rep (n : Nat) (h : IsA K F m ds vs) : IsA K F m (List.replicate n ds).flatten (List.replicate n vs).flatten := by
  induction n with
  | zero => simp [IsA]
  | succ n ih => simp only [List.replicate_succ, List.flatten_cons]; exact h.app ih
theorem IsA.intsOf : ∀ {ds : List D} {vs : List V} {ns : List Int}, IsA K F m ds vs → Co.intsOf ds = some ns → vs = ns.map V.int
  | [], _, _, h, e => by simp only [IsA] at h; simp [Co.intsOf] at e; subst h; subst e; rfl
  | d :: ds, vs, ns, h, e => by
    simp only [IsA] at h
    obtain ⟨v, us, rfl, h1, h2⟩ := h
    cases d <;> simp only [Co.intsOf, reduceCtorEq, Option.map_eq_some_iff] at e
    obtain ⟨ms, e1, rfl⟩ := e
    simp only [Is] at h1
    rw [h1, IsA.intsOf h2 e1]; rfl
theorem IsA.ofInts : ∀ (ns : List Int), IsA K F m (ns.map D.int) (ns.map V.int)
  | [] => by simp [IsA]
  | n :: ns => by simp only [List.map_cons, IsA]; exact ⟨_, _, rfl, by simp [Is], IsA.ofInts ns⟩
theorem IsA.boolsOf : ∀ {ds : List D} {vs : List V} {ns : List Bool}, IsA K F m ds vs → Co.boolsOf ds = some ns → vs = ns.map V.bl
  | [], _, _, h, e => by simp only [IsA] at h; simp [Co.boolsOf] at e; subst h; subst e; rfl
  | d :: ds, vs, ns, h, e => by
    simp only [IsA] at h
    obtain ⟨v, us, rfl, h1, h2⟩ := h
    cases d <;> simp only [Co.boolsOf, reduceCtorEq, Option.map_eq_some_iff] at e
    obtain ⟨ms, e1, rfl⟩ := e
    simp only [Is] at h1
    rw [h1, IsA.boolsOf h2 e1]; rfl

/-- one step: what stood, and is no object, stands; what is new is new -/
structure Stp (F : Hp) (m : List Addr) (H F' : Hp) (m' : List Addr) (H' : Hp) : Prop where
  sub : Same F F'
  pre : ∃ l, m' = m ++ l
  keep : ∀ a o, H a = some o → a ∉ m → H' a = some o
  nof : ∀ a, H a ≠ none → F a = none → F' a = none
  newm : ∀ a, a ∈ m' → a ∈ m ∨ H a = none
  stay : ∀ a, H a ≠ none → H' a ≠ none
theorem Stp.refl : Stp F m H F m H := ⟨Same.refl _, ⟨[], by simp⟩, fun _ _ h _ => h, fun _ _ h => h, fun _ h => .inl h, fun _ h => h⟩
theorem Stp.trans (a : Stp F m H F1 m1 H1) (b : Stp F1 m1 H1 F2 m2 H2) : Stp F m H F2 m2 H2 where
  sub := a.sub.trans b.sub
  pre := by
    obtain ⟨l, rfl⟩ := a.pre
    obtain ⟨l2, rfl⟩ := b.pre
    exact ⟨l ++ l2, by simp⟩
  keep := fun x o h hn => b.keep x o (a.keep x o h hn) fun z => (a.newm x z).elim hn fun e => by rw [e] at h; cases h
  nof := fun x h hn => b.nof x (a.stay x h) (a.nof x h hn)
  newm := fun x h => (b.newm x h).elim (a.newm x) fun e => .inr (by
    cases q : H x with
    | none => rfl
    | some o => exact absurd e (a.stay x (by rw [q]; exact fun z => nomatch z)))
  stay := fun x h => b.stay x (a.stay x h)
theorem Stp.is (s : Stp F m H F' m' H') (h : Is K F m d v) : Is K F' m' d v := Is.mono s.sub s.pre d v h
theorem Stp.isA (s : Stp F m H F' m' H') (h : IsA K F m ds vs) : IsA K F' m' ds vs := IsA.mono s.sub s.pre ds vs h

/-- a dict's entries, an instance's fields -/
def KIs (K : PySem.W.Frag) (F : Hp) (m : List Addr) {κ : Type} : List (κ × D) → List (κ × V) → Prop
  | [], ws => ws = []
  | (k, d) :: r, ws => ∃ v us, ws = (k, v) :: us ∧ Is K F m d v ∧ KIs K F m r us
theorem KIs.mono {κ : Type} (e : Same F F') (p : ∃ l, m' = m ++ l) : ∀ {ks : List (κ × D)} {ws : List (κ × V)}, KIs K F m ks ws → KIs K F' m' ks ws
  | [], _, h => h
  | (k, d) :: r, ws, h => by
    obtain ⟨v, us, rfl, h1, h2⟩ := h
    exact ⟨v, us, rfl, Is.mono e p d v h1, KIs.mono e p h2⟩
theorem KIs.len {κ : Type} : ∀ {ks : List (κ × D)} {ws : List (κ × V)}, KIs K F m ks ws → ks.length = ws.length
  | [], _, h => by cases h; rfl
  | (k, d) :: r, ws, h => by
    obtain ⟨v, us, rfl, h1, h2⟩ := h
    simp [KIs.len h2]
theorem KIs.look {κ : Type} [BEq κ] [LawfulBEq κ] : ∀ {ks : List (κ × D)} {ws : List (κ × V)} {k : κ} {d : D}, KIs K F m ks ws → ks.lookup k = some d → ∃ v, ws.lookup k = some v ∧ Is K F m d v
  | [], _, _, _, h, e => by simp at e
  | (k', d') :: r, ws, k, d, h, e => by
    obtain ⟨v, us, rfl, h1, h2⟩ := h
    rw [List.lookup_cons] at e ⊢
    cases hb : k == k' with
    | true => rw [hb] at e; simp at e; subst e; exact ⟨v, rfl, h1⟩
    | false => rw [hb] at e; exact KIs.look h2 e

def ObIs (K : PySem.W.Frag) (cl : List Addr) (F : Hp) (m : List Addr) (H : Hp) (a : Addr) : Ob → Prop
  | .dk kvs => ∃ kws, H a = some (.dK kws) ∧ KIs K F m kvs kws
  | .ins c fs => ∃ C dx ws, cl[c]? = some C ∧ H a = some (.ins C dx ws) ∧ H dx = some (.own a) ∧ dx ∉ m ∧ KIs K F m fs ws

structure G (K : PySem.W.Frag) (cl : List Addr) (F : Hp) (m : List Addr) (S : Store) (H : Hp) : Prop where
  sub : Same F H
  len : S.length = m.length
  nd : m.Nodup
  ob : ∀ (i : Nat) (a : Addr) (o : Ob), m[i]? = some a → S[i]? = some o → F a = none ∧ ObIs K cl F m H a o

def SlOk (K : PySem.W.Frag) (F : Hp) (m : List Addr) (H : Hp) : Slot → Option (Option V) → Prop
  | .non, _ => True
  | .val d, o => ∃ v, o = some (some v) ∧ Is K F m d v
  | .own ds, o => ∃ p vs, o = some (some (.ref p)) ∧ F p = none ∧ p ∉ m ∧ H p = some (.lst vs) ∧ IsA K F m ds vs
def isOwn : Option Slot → Bool
  | some (.own _) => true | _ => false
structure EnvOk (K : PySem.W.Frag) (F : Hp) (m : List Addr) (τ : Env) (σ : St) (H : Hp) : Prop where
  len : τ.length = σ.length
  sl : ∀ (i : Nat) (s : Slot), τ[i]? = some s → SlOk K F m H s (σ[i]?)
  apart : ∀ (i j : Nat) (p : Addr), i ≠ j → isOwn τ[i]? = true → isOwn τ[j]? = true → σ[i]? = some (some (.ref p)) → σ[j]? ≠ some (some (.ref p))

theorem SlOk.step {s : Slot} {o : Option (Option V)} (st : Stp F m H F' m' H') (h : SlOk K F m H s o) : SlOk K F' m' H' s o := by
  cases s with
  | non => trivial
  | val d => obtain ⟨v, e, q⟩ := h; exact ⟨v, e, st.is q⟩
  | own ds =>
    obtain ⟨p, vs, e, h1, h2, h3, h4⟩ := h
    have hp : H p ≠ none := by rw [h3]; exact fun z => nomatch z
    exact ⟨p, vs, e, st.nof p hp h1, fun z => (st.newm p z).elim h2 fun q => hp q, st.keep p _ h3 h2, st.isA h4⟩
theorem EnvOk.step {τ : Env} {σ : St} (st : Stp F m H F' m' H') (h : EnvOk K F m τ σ H) : EnvOk K F' m' τ σ H' :=
  ⟨h.len, fun i s e => (h.sl i s e).step st, h.apart⟩

/-- a result, H0: the heap ahead of it -/
def RvOk (K : PySem.W.Frag) (H0 F : Hp) (m : List Addr) (H : Hp) : Rv → V → Prop
  | .fz d, v => Is K F m d v
  | .fr ds, v => ∃ p vs, v = .ref p ∧ H p = some (.lst vs) ∧ F p = none ∧ p ∉ m ∧ H0 p = none ∧ IsA K F m ds vs
  | .rd ds, v => ∃ p vs, v = .ref p ∧ H p = some (.lst vs) ∧ F p = none ∧ p ∉ m ∧ IsA K F m ds vs
theorem RvOk.step {r : Rv} (st : Stp F m H F' m' H') (h : RvOk K H0 F m H r v) : RvOk K H0 F' m' H' r v := by
  cases r with
  | fz d => exact st.is h
  | fr ds =>
    obtain ⟨p, vs, e, h3, h1, h2, h0, h4⟩ := h
    have hp : H p ≠ none := by rw [h3]; exact fun z => nomatch z
    exact ⟨p, vs, e, st.keep p _ h3 h2, st.nof p hp h1, fun z => (st.newm p z).elim h2 fun q => hp q, h0, st.isA h4⟩
  | rd ds =>
    obtain ⟨p, vs, e, h3, h1, h2, h4⟩ := h
    have hp : H p ≠ none := by rw [h3]; exact fun z => nomatch z
    exact ⟨p, vs, e, st.keep p _ h3 h2, st.nof p hp h1, fun z => (st.newm p z).elim h2 fun q => hp q, st.isA h4⟩
theorem RvOk.back {r : Rv} (st : Stp F0 m0 H0 F1 m1 H1) (h : RvOk K H1 F m H r v) : RvOk K H0 F m H r v := by
  cases r with
  | fz d => exact h
  | fr ds =>
    obtain ⟨p, vs, e, h3, h1, h2, h0, h4⟩ := h
    refine ⟨p, vs, e, h3, h1, h2, ?_, h4⟩
    cases q : H0 p with
    | none => rfl
    | some o => exact absurd h0 (st.stay p (by rw [q]; exact fun z => nomatch z))
  | rd ds => exact h

/-- a new thing that stands still -/
theorem Stp.new {p : Addr} {o : HO} (g : Same F H) (hp : H p = none) : Stp F m H (upd F p o) m (upd H p o) := by
  have fp : F p = none := by
    cases q : F p with
    | none => rfl
    | some u => rw [g p u q] at hp; cases hp
  refine ⟨same_new fp, ⟨[], by simp⟩, fun a u h _ => same_new hp a u h, fun a h hn => ?_, fun a h => .inl h, fun a h => ?_⟩
  · rw [upd_ne (fun z => h (by rw [z]; exact hp))]; exact hn
  · rw [upd_ne (fun z => h (by rw [z]; exact hp))]; exact h
/-- a new thing that is not told yet -/
theorem Stp.lay {p : Addr} {o : HO} (hp : H p = none) : Stp F m H F m (upd H p o) :=
  ⟨Same.refl _, ⟨[], by simp⟩, fun a u h _ => same_new hp a u h, fun _ _ h => h, fun a h => .inl h, fun a h => by rw [upd_ne (fun z => h (by rw [z]; exact hp))]; exact h⟩
theorem G.notin {cl : List Addr} {S : Store} (g : G K cl F m S H) {p : Addr} (hp : H p = none) : p ∉ m := fun z => by
  obtain ⟨i, hi⟩ := List.getElem?_of_mem z
  have hl : i < S.length := by rw [g.len]; exact (List.getElem?_eq_some_iff.mp hi).1
  obtain ⟨_, q⟩ := g.ob i p S[i] hi (by simp [hl])
  cases e : S[i] with
  | dk kvs => rw [e] at q; obtain ⟨_, h1, _⟩ := q; rw [hp] at h1; cases h1
  | ins c fs => rw [e] at q; obtain ⟨_, _, _, _, h1, _⟩ := q; rw [hp] at h1; cases h1
theorem ObIs.keep {cl : List Addr} {a : Addr} {o : Ob} (e : Same F F') (h : ObIs K cl F m H a o) (ha : H' a = H a) (hd : ∀ dx, H dx = some (.own a) → H' dx = some (.own a)) : ObIs K cl F' m H' a o := by
  cases o with
  | dk kvs => obtain ⟨ws, h1, h2⟩ := h; exact ⟨ws, by rw [ha]; exact h1, h2.mono e ⟨[], by simp⟩⟩
  | ins c fs =>
    obtain ⟨C, dx, ws, h0, h1, h2, h3, h4⟩ := h
    exact ⟨C, dx, ws, h0, by rw [ha]; exact h1, hd _ h2, h3, h4.mono e ⟨[], by simp⟩⟩
theorem G.new {cl : List Addr} {S : Store} (g : G K cl F m S H) {p : Addr} {o : HO} (hp : H p = none) : G K cl (upd F p o) m S (upd H p o) := by
  have fp : F p = none := by
    cases q : F p with
    | none => rfl
    | some u => rw [g.sub p u q] at hp; cases hp
  refine ⟨fun a u h => ?_, g.len, g.nd, fun i a o' h1 h2 => ?_⟩
  · by_cases e : a = p
    · subst e; rw [upd_same] at h ⊢; exact h
    · rw [upd_ne e] at h ⊢; exact g.sub a u h
  · obtain ⟨q1, q2⟩ := g.ob i a o' h1 h2
    have hne : a ≠ p := fun z => g.notin hp (z ▸ List.mem_of_getElem? h1)
    exact ⟨by rw [upd_ne hne]; exact q1, q2.keep (same_new fp) (upd_ne hne) fun dx h => by rw [upd_ne (ne_of_none h hp)]; exact h⟩
theorem G.lay {cl : List Addr} {S : Store} (g : G K cl F m S H) {p : Addr} {o : HO} (hp : H p = none) : G K cl F m S (upd H p o) := by
  refine ⟨g.sub.trans (same_new hp), g.len, g.nd, fun i a o' h1 h2 => ?_⟩
  obtain ⟨q1, q2⟩ := g.ob i a o' h1 h2
  have hne : a ≠ p := fun z => g.notin hp (z ▸ List.mem_of_getElem? h1)
  exact ⟨q1, q2.keep (Same.refl _) (upd_ne hne) fun dx h => by rw [upd_ne (ne_of_none h hp)]; exact h⟩
/-- a list is let go: from now on it stands still -/
theorem G.frz {cl : List Addr} {S : Store} (g : G K cl F m S H) {p : Addr} {us : List V} (h : H p = some (.lst us)) (fp : F p = none) (hm : p ∉ m) : G K cl (upd F p (.lst us)) m S H := by
  refine ⟨fun a u q => ?_, g.len, g.nd, fun i a o' h1 h2 => ?_⟩
  · by_cases e : a = p
    · subst e; rw [upd_same] at q; cases q; exact h
    · rw [upd_ne e] at q; exact g.sub a u q
  · obtain ⟨q1, q2⟩ := g.ob i a o' h1 h2
    have hne : a ≠ p := fun z => hm (z ▸ List.mem_of_getElem? h1)
    exact ⟨by rw [upd_ne hne]; exact q1, q2.keep (same_new fp) rfl fun dx h => h⟩
theorem Stp.frz {p : Addr} {us : List V} (st : Stp F0 m0 H0 F m H) (h : H p = some (.lst us)) (fp : F p = none) (h0 : H0 p = none) : Stp F0 m0 H0 (upd F p (.lst us)) m H :=
  ⟨st.sub.trans (same_new fp), st.pre, st.keep, fun a q hn => by rw [upd_ne (fun z => q (by rw [z]; exact h0))]; exact st.nof a q hn, st.newm, st.stay⟩
/-- a result is kept -/
theorem keep_ok {cl : List Addr} {S : Store} {r : Rv} (st : Stp F0 m0 H0 F m H) (g : G K cl F m S H) (h : RvOk K H0 F m H r v) (e : r.d = some d) :
    ∃ F', Stp F0 m0 H0 F' m H ∧ G K cl F' m S H ∧ Same F F' ∧ Is K F' m d v := by
  cases r with
  | fz x => simp [Rv.d] at e; subst e; exact ⟨F, st, g, Same.refl _, h⟩
  | fr ds =>
    simp [Rv.d] at e; subst e
    obtain ⟨p, us, rfl, h3, h1, h2, h0, h4⟩ := h
    refine ⟨upd F p (.lst us), st.frz h3 h1 h0, g.frz h3 h1 h2, same_new h1, ?_⟩
    simp only [Is]
    exact ⟨p, us, rfl, upd_same, IsA.mono (same_new h1) ⟨[], by simp⟩ _ _ h4⟩
  | rd ds => simp [Rv.d] at e
/-- its items -/
theorem seq_ok {r : Rv} {cl : List Addr} {S : Store} (g : G K cl F m S H) (h : RvOk K H0 F m H r v) (e : r.seq = some ds) : ∃ a vs, v = .ref a ∧ IsA K F m ds vs ∧ (SqL K H a vs ∨ SqT K H a vs) := by
  cases r with
  | fz x =>
    cases x <;> simp [Rv.seq] at e
    · subst e
      have h : Is K F m _ v := h
      simp only [Is] at h
      obtain ⟨a, vs, rfl, h1, h2⟩ := h
      exact ⟨a, vs, rfl, h2, .inr (same_t g.sub h1)⟩
    · subst e
      have h : Is K F m _ v := h
      simp only [Is] at h
      obtain ⟨a, vs, rfl, h1, h2⟩ := h
      exact ⟨a, vs, rfl, h2, .inl (.of (g.sub _ _ h1))⟩
    · subst e
      have h : Is K F m _ v := h
      simp only [Is] at h
      obtain ⟨a, vs, rfl, h1, h2⟩ := h
      exact ⟨a, vs, rfl, h2, .inl (same_l g.sub h1)⟩
  | fr x =>
    simp [Rv.seq] at e; subst e
    obtain ⟨p, us, rfl, h3, h1, h2, h0, h4⟩ := h
    exact ⟨p, us, rfl, h4, .inl (.of h3)⟩
  | rd x =>
    simp [Rv.seq] at e; subst e
    obtain ⟨p, us, rfl, h3, h1, h2, h4⟩ := h
    exact ⟨p, us, rfl, h4, .inl (.of h3)⟩
theorem lseq_ok {r : Rv} {cl : List Addr} {S : Store} (g : G K cl F m S H) (h : RvOk K H0 F m H r v) (e : r.lseq = some ds) : ∃ a vs, v = .ref a ∧ IsA K F m ds vs ∧ SqL K H a vs := by
  cases r with
  | fz x =>
    cases x <;> simp [Rv.lseq] at e
    · subst e
      have h : Is K F m _ v := h
      simp only [Is] at h
      obtain ⟨a, vs, rfl, h1, h2⟩ := h
      exact ⟨a, vs, rfl, h2, .of (g.sub _ _ h1)⟩
    · subst e
      have h : Is K F m _ v := h
      simp only [Is] at h
      obtain ⟨a, vs, rfl, h1, h2⟩ := h
      exact ⟨a, vs, rfl, h2, same_l g.sub h1⟩
  | fr x =>
    simp [Rv.lseq] at e; subst e
    obtain ⟨p, us, rfl, h3, h1, h2, h0, h4⟩ := h
    exact ⟨p, us, rfl, h4, .of h3⟩
  | rd x =>
    simp [Rv.lseq] at e; subst e
    obtain ⟨p, us, rfl, h3, h1, h2, h4⟩ := h
    exact ⟨p, us, rfl, h4, .of h3⟩
theorem tseq_ok {r : Rv} {cl : List Addr} {S : Store} (g : G K cl F m S H) (h : RvOk K H0 F m H r v) (e : r.tseq = some ds) : ∃ a vs, v = .ref a ∧ IsA K F m ds vs ∧ H a = some (.lst vs) := by
  cases r with
  | fz x =>
    cases x <;> simp [Rv.tseq] at e
    subst e
    have h : Is K F m _ v := h
    simp only [Is] at h
    obtain ⟨a, vs, rfl, h1, h2⟩ := h
    exact ⟨a, vs, rfl, h2, g.sub _ _ h1⟩
  | fr x =>
    simp [Rv.tseq] at e; subst e
    obtain ⟨p, us, rfl, h3, h1, h2, h0, h4⟩ := h
    exact ⟨p, us, rfl, h4, h3⟩
  | rd x =>
    simp [Rv.tseq] at e; subst e
    obtain ⟨p, us, rfl, h3, h1, h2, h4⟩ := h
    exact ⟨p, us, rfl, h4, h3⟩
end
end Co
end

section
set_option maxHeartbeats 0
set_option Elab.async false
set_option linter.all false
set_option maxRecDepth 100000
/-! Co4: each expression's answer is the machine's. -/
namespace Co
open PySem L2

/-! ### what the machine does, as readings -/
def SE (X : Cx) (e : Expr) : TE := fun σ H Q => ∀ pins s, Inv X pins σ H s → wpAny (model X.prog X.w) X.A (eval e X.env) (EP X pins σ Q) X.xe s
def ST (X : Cx) (e : Expr) : TT := fun σ H Q => ∀ pins s, Inv X pins σ H s → wpAny (model X.prog X.w) X.A (isTrue e X.env (eval e X.env)) (TP X pins σ Q) X.xe s
def SW (X : Cx) (e : Expr) : TT := fun σ H Q => ∀ whole pins s, Inv X pins σ H s → wpAny (model X.prog X.w) X.A (isTrue e X.env whole) (TP X pins σ Q) X.xe s
def SA (X : Cx) (es : List Expr) : TA := fun σ H Q => ∀ pos pins s, Inv X pins σ H s → wpAny (model X.prog X.w) X.A (spliced (backTo pos (starEach es X.env))) (AP X pins σ Q) X.xe s
section
variable {X : Cx} {e : Expr} {es : List Expr} {σ : St} {H : Hp}
theorem pe_se : PE X e (SE X e) := ⟨fun pins s _ _ _ I h => h pins s I⟩
theorem pt_st : PT X e (ST X e) := ⟨fun pins s _ _ _ I h => h pins s I⟩
theorem pw_sw : PW X e (SW X e) := ⟨fun wh pins s _ _ _ I h => h wh pins s I⟩
theorem pa_sa : PA X es (SA X es) := ⟨fun pos pins s _ _ _ I h => h pos pins s I⟩
theorem se_of {t : TE} (h : PE X e t) {Q : VK} (q : t σ H Q) : SE X e σ H Q := fun pins s I => h.run pins s σ H Q I q
theorem st_of' {t : TT} (h : PT X e t) {Q : Bool → Hp → Prop} (q : t σ H Q) : ST X e σ H Q := fun pins s I => h.run pins s σ H Q I q
theorem sw_of {t : TT} (h : PW X e t) {Q : Bool → Hp → Prop} (q : t σ H Q) : SW X e σ H Q := fun wh pins s I => h.run wh pins s σ H Q I q
theorem sa_of {t : TA} (h : PA X es t) {Q : List V → Hp → Prop} (q : t σ H Q) : SA X es σ H Q := fun pos pins s I => h.run pos pins s σ H Q I q
theorem SE.mono {Q Q' : VK} (h : SE X e σ H Q) (k : ∀ v H', Q v H' → Q' v H') : SE X e σ H Q' := fun pins s I =>
  thn (h pins s I) fun _ _ ⟨v, H', I', r, q⟩ => ⟨v, H', I', r, k v H' q⟩
end

/-! ### what is known -/
def spC (K : PySem.W.Frag) (cl : List Addr) (call : Nat → List D → Store → Option (D × Store)) (i np : Nat) : Sp := fun vs H Q _ => ∃ ds S d S' F m, ds.length = np ∧ call i ds S = some (d, S') ∧ G K cl F m S H ∧ IsA K F m ds vs ∧
  ∀ F' m' H' v, Stp F m H F' m' H' → G K cl F' m' S' H' → Is K F' m' d v → Q v H'

def tyV (cl : List Addr) : Ty → Option (V × Value)
  | .int => some (.ty "int", .type "int") | .bool => some (.ty "bool", .type "bool") | .str => some (.ty "str", .type "str") | .tuple => some (.ty "tuple", .type "tuple") | .list => some (.ty "list", .type "list")
  | .own c => (cl[c]?).map fun C => (.ref C, .ref C)
/-- the classes' facts -/
structure ClsOk (K : PySem.W.Frag) (cl : List Addr) : Prop where
  cls : ∀ (c : Nat) (C : Addr), cl[c]? = some C → Cls K C
  cla : ∀ (c : Nat) (C : Addr), cl[c]? = some C → PySem.W.findIn K (.ref C) "__class__" = some (some (.builtin "object.__class__"))
  clg : PySem.W.specialIn K (.builtin "object.__class__") "__get__" = some (some (.builtin "getset_descriptor.__get__"))
  clt : PySem.W.takesIn K (.builtin "object.__class__") = some true
  mro : ∀ (c : Nat) (C : Addr), cl[c]? = some C → PySem.W.mroIn K C (.type "object") = some true
  oo : ∀ (c : Nat) (C : Addr) (c' : Nat) (C' : Addr), cl[c]? = some C → cl[c']? = some C' → PySem.W.kitOne K (.ref C) (.ref C') = some (decide (c = c'))
  ob : ∀ (c : Nat) (C : Addr) (n : String), cl[c]? = some C → n ∈ ["int", "bool", "str", "tuple", "list"] → PySem.W.kitOne K (.ref C) (.type n) = some false
  bo : ∀ (c : Nat) (C : Addr) (n : String), cl[c]? = some C → n ∈ ["int", "bool", "str", "tuple", "list", "NoneType", "dict"] → PySem.W.kitOne K (.type n) (.ref C) = some false
  inj : cl.Nodup
  nen : ∀ (c : Nat) (C : Addr), cl[c]? = some C → PySem.W.findIn K (.ref C) "__ne__" = some (some (.builtin "object.__ne__"))
/-- a class that is made by its name -/
structure MkOk (K : PySem.W.Frag) (C : Addr) : Prop where
  makes : PySem.W.makesIn K C = true
  kp : PySem.W.keepIn K (.ref C) = true

structure Kn (c : Ctx) (cl : List Addr) (g : Gm) (X : Cx) : Prop where
  N : X.N = g.N
  nd : X.N.Nodup
  sc : X.env.scope = g.sc
  kd : g.sc.kind = .function
  calm : X.calm = true
  fnc : ∀ x, (∀ s, g.own = some s → s.names.lookup x = some .cell) → X.fn x = true
  free : ∀ x, x ∈ g.free → X.mg x = none
  glob : ∀ x i, g.globs.lookup x = some i → ∃ d u v, c.globs[i]? = some d ∧ X.mg x = some u ∧ RelV v u ∧ ∀ F m, Is X.K F m d v
  fn : ∀ x i, g.fns.lookup x = some i → ∃ f fd ps lev, X.mg x = some (.ref f) ∧ PySem.W.keepIn X.K (.ref f) = true ∧ Room lev X.A ∧ Binds X.K fd ps [] ∧ FnOk X.prog X.w X.K X.mg X.base CX0 lev f fd ps (spC X.K cl c.call i ps.length) ∧
    ∀ ds S r, c.call i ds S = some r → ds.length = ps.length
  cls : ∀ x i, g.clss.lookup x = some i → ∃ C, cl[i]? = some C ∧ X.mg x = some (.ref C)
  mkc : ∀ x i io, g.clss.lookup x = some i → c.inits[i]? = some io → ∃ C, cl[i]? = some C ∧ X.mg x = some (.ref C) ∧ MkOk X.K C ∧ (match io with
    | none => PySem.W.findIn X.K (.ref C) "__init__" = some (some (.builtin "object.__init__"))
    | some j => ∃ f fd ps lev, PySem.W.findIn X.K (.ref C) "__init__" = some (some (.ref f)) ∧ PySem.W.isFn X.K (.ref f) = true ∧ Room (lev + 1) X.A ∧ Binds X.K fd ps [] ∧ FnOk X.prog X.w X.K X.mg X.base CX0 lev f fd ps (spC X.K cl c.call j ps.length) ∧
      ∀ ds S r, c.call j ds S = some r → ds.length = ps.length)
  atr : ∀ (i : Nat) (C : Addr) (f : Str), cl[i]? = some C → f ∈ g.atrs → NoAttr X.K C f
  clsOk : ClsOk X.K cl
  eqn : ∀ (i : Nat) (C : Addr) (io : Option Nat), cl[i]? = some C → c.eqs[i]? = some io → (match io with
    | none => PySem.W.findIn X.K (.ref C) "__eq__" = some (some (.builtin "object.__eq__"))
    | some j => ∃ f fd ps lev, PySem.W.findIn X.K (.ref C) "__eq__" = some (some (.ref f)) ∧ PySem.W.isFn X.K (.ref f) = true ∧ Room (lev + 1) X.A ∧ Binds X.K fd ps [] ∧ FnOk X.prog X.w X.K X.mg X.base CX0 lev f fd ps (spC X.K cl c.call j ps.length) ∧
      ∀ ds S r, c.call j ds S = some r → ds.length = ps.length)
  gcd : g.gcd = true → X.mg "gcd" = some (.builtin "math.gcd")
  hu : Room 0 X.A

def SndE (X : Cx) (c : Ctx) (cl : List Addr) (e : Expr) (ce : CE) : Prop := ∀ τ S r S', evE c ce τ S = some (r, S') → ∀ F m σ H, G X.K cl F m S H → EnvOk X.K F m τ σ H →
  ∀ Q : VK, (∀ F' m' H' v, Stp F m H F' m' H' → G X.K cl F' m' S' H' → RvOk X.K H F' m' H' r v → Q v H') → SE X e σ H Q
def SndT (X : Cx) (c : Ctx) (cl : List Addr) (e : Expr) (ct : CT) : Prop := ∀ τ S b S', evT c ct τ S = some (b, S') → ∀ F m σ H, G X.K cl F m S H → EnvOk X.K F m τ σ H →
  ∀ Q : Bool → Hp → Prop, (∀ F' m' H', Stp F m H F' m' H' → G X.K cl F' m' S' H' → Q b H') → ST X e σ H Q
def SndW (X : Cx) (c : Ctx) (cl : List Addr) (e : Expr) (ct : CT) : Prop := ∀ τ S b S', evT c ct τ S = some (b, S') → ∀ F m σ H, G X.K cl F m S H → EnvOk X.K F m τ σ H →
  ∀ Q : Bool → Hp → Prop, (∀ F' m' H', Stp F m H F' m' H' → G X.K cl F' m' S' H' → Q b H') → SW X e σ H Q
def SndA (X : Cx) (c : Ctx) (cl : List Addr) (es : List Expr) (ca : CA) : Prop := ∀ τ S ds S', evA c ca τ S = some (ds, S') → ∀ F m σ H, G X.K cl F m S H → EnvOk X.K F m τ σ H →
  ∀ Q : List V → Hp → Prop, (∀ F' m' H' vs, Stp F m H F' m' H' → G X.K cl F' m' S' H' → IsA X.K F' m' ds vs → Q vs H') → SA X es σ H Q

section
variable {X : Cx} {c : Ctx} {cl : List Addr} {g : Gm} {a b e : Expr} {ca cb ce : CE} {τ : Env} {S S' S1 S2 S3 : Store} {F : Hp} {m : List Addr} {σ : St} {H : Hp} {x y r : Rv} {d : D} {ds : List D}

/-! ### names -/
theorem ixOf_get {x : Str} : ∀ {N : List Str} {k i : Nat}, ixOf x N k = some i → ∃ j, i = k + j ∧ N[j]? = some x
  | [], _, _, h => by simp [ixOf] at h
  | y :: N, k, i, h => by
    unfold ixOf at h
    split at h
    · rename_i e; simp at h; subst h; subst e; exact ⟨0, rfl, rfl⟩
    · obtain ⟨j, e, q⟩ := ixOf_get h
      exact ⟨j + 1, by omega, by simpa using q⟩
theorem ixOf_at {x : Str} {N : List Str} {i : Nat} (h : ixOf x N 0 = some i) : N[i]? = some x := by
  obtain ⟨j, e, q⟩ := ixOf_get h
  simp at e; subst e; exact q
theorem beq_false_of {x y : Str} (h : x ≠ y) : (x == y) = false := by simpa using h
theorem slot_ok {x : Str} {i : Nat} (k : Kn c cl g X) (h : g.slot x = some i) : X.N[i]? = some x ∧ Vis X.env.scope x ∧ (x == ("__debug__" : Str)) = false ∧ (x == ("__classdict__" : Str)) = false := by
  unfold Gm.slot at h
  split at h
  · rename_i q
    obtain ⟨q1, q2, q3⟩ := q
    refine ⟨by rw [k.N]; exact ixOf_at h, ?_, beq_false_of q2, beq_false_of q3⟩
    rw [k.sc]
    unfold isVis at q1
    unfold Vis
    split at q1 <;> simp_all
  · cases h
theorem stor_ok {x : Str} {i : Nat} (k : Kn c cl g X) (h : g.stor x = some i) : X.N[i]? = some x ∧ L2.Loc X.env.scope x ∧ (X.fn x = true ∨ X.env.scope.names.lookup x = some .local) := by
  unfold Gm.stor at h
  rw [k.N, k.sc]
  unfold L2.Loc
  split at h
  · rename_i q; exact ⟨ixOf_at h, .inl q, .inr q⟩
  · rename_i q
    split at h
    · rename_i q2; exact ⟨ixOf_at h, .inr q, .inl (k.fnc x fun s e => by rw [q2] at e; cases e)⟩
    · rename_i s q2
      split at h
      · rename_i q3; exact ⟨ixOf_at h, .inr q, .inl (k.fnc x fun s' e => by rw [q2] at e; cases e; exact q3)⟩
      · cases h
  · cases h
theorem gl_ok {x : Str} (k : Kn c cl g X) (h : g.isGl x = true) : Gl X x ∧ (x == ("__debug__" : Str)) = false ∧ x ≠ "__name__" := by
  unfold Gm.isGl at h
  simp only [Bool.and_eq_true, decide_eq_true_eq] at h
  obtain ⟨⟨h1, h2⟩, h3⟩ := h
  exact ⟨by unfold Gl Env.kindOf; rw [k.sc]; exact h1, beq_false_of h2, h3⟩
theorem bi_ok {x : Str} (k : Kn c cl g X) (h : g.isBi x = true) : Gl X x ∧ X.mg x = none ∧ (x == ("__debug__" : Str)) = false ∧ x ≠ "__name__" := by
  unfold Gm.isBi at h
  simp only [Bool.and_eq_true, decide_eq_true_eq] at h
  obtain ⟨h1, h2⟩ := h
  obtain ⟨q1, q2, q3⟩ := gl_ok k h1
  exact ⟨q1, k.free x h2, q2, q3⟩

/-! ### constants and names -/
theorem rv_int {K : PySem.W.Frag} {H0 F H : Hp} {m : List Addr} {i : Int} : RvOk K H0 F m H (.fz (.int i)) (.int i) := by simp [RvOk, Is]
theorem rv_bl {K : PySem.W.Frag} {H0 F H : Hp} {m : List Addr} {i : Bool} : RvOk K H0 F m H (.fz (.bl i)) (.bl i) := by simp [RvOk, Is]
theorem rv_str {K : PySem.W.Frag} {H0 F H : Hp} {m : List Addr} {i : Str} : RvOk K H0 F m H (.fz (.str i)) (.str i) := by simp [RvOk, Is]
theorem rv_non {K : PySem.W.Frag} {H0 F H : Hp} {m : List Addr} : RvOk K H0 F m H (.fz .non) .non := by simp [RvOk, Is]
theorem rvi_int {K : PySem.W.Frag} {H0 F H : Hp} {m : List Addr} {i : Int} {v : V} (h : RvOk K H0 F m H (.fz (.int i)) v) : v = .int i := by simpa [RvOk, Is] using h
theorem rvi_bl {K : PySem.W.Frag} {H0 F H : Hp} {m : List Addr} {i : Bool} {v : V} (h : RvOk K H0 F m H (.fz (.bl i)) v) : v = .bl i := by simpa [RvOk, Is] using h
theorem rvi_str {K : PySem.W.Frag} {H0 F H : Hp} {m : List Addr} {i : Str} {v : V} (h : RvOk K H0 F m H (.fz (.str i)) v) : v = .str i := by simpa [RvOk, Is] using h
theorem rvi_non {K : PySem.W.Frag} {H0 F H : Hp} {m : List Addr} {v : V} (h : RvOk K H0 F m H (.fz .non) v) : v = .non := by simpa [RvOk, Is] using h

theorem snd_const {v : Const} {j : Nat} {pos : Pos} (h : constD v = some d) : SndE X c cl (.Constant v j pos) (.const d) := by
  intro τ S r S' he F m σ H gg ev Q q
  simp only [evE, Option.some.injEq, Prod.mk.injEq] at he
  obtain ⟨rfl, rfl⟩ := he
  cases v <;> simp only [constD, Option.some.injEq, reduceCtorEq] at h
  · subst h; exact se_of pe_non (q F m H _ Stp.refl gg rv_non)
  · subst h; exact se_of pe_bl (q F m H _ Stp.refl gg rv_bl)
  · subst h; exact se_of pe_int (q F m H _ Stp.refl gg rv_int)
  · subst h; exact se_of pe_str (q F m H _ Stp.refl gg rv_str)
theorem snd_var {x : Str} {i : Nat} {pos : Pos} (k : Kn c cl g X) (h : g.slot x = some i) : SndE X c cl (.Name x pos) (.var i) := by
  intro τ S r S' he F m σ H gg ev Q q
  obtain ⟨h1, h2, h3, h4⟩ := slot_ok k h
  simp only [evE] at he
  split at he
  · rename_i d e
    cases he
    obtain ⟨v, e1, e2⟩ := ev.sl i _ e
    exact se_of (pe_var h1 h2 h3 h4) ⟨v, e1, q F m H v Stp.refl gg e2⟩
  · rename_i ds e
    cases he
    obtain ⟨p, vs, e1, e2, e3, e4, e5⟩ := ev.sl i _ e
    exact se_of (pe_var h1 h2 h3 h4) ⟨_, e1, q F m H _ Stp.refl gg ⟨p, vs, rfl, e4, e2, e3, e5⟩⟩
  · cases he
theorem snd_glob {x : Str} {i : Nat} {pos : Pos} (k : Kn c cl g X) (hg : g.isGl x = true) (h : g.globs.lookup x = some i) : SndE X c cl (.Name x pos) (.glob i) := by
  intro τ S r S' he F m σ H gg ev Q q
  obtain ⟨g1, g2, g3⟩ := gl_ok k hg
  obtain ⟨d, u, v, h1, h2, h3, h4⟩ := k.glob x i h
  simp only [evE, h1, Option.some.injEq, Prod.mk.injEq] at he
  obtain ⟨rfl, rfl⟩ := he
  exact se_of (pe_glob g1 h2 h3 g2) (q F m H v Stp.refl gg (h4 F m))

/-! ### two in a row -/
theorem two (sa : SndE X c cl a ca) (sb : SndE X c cl b cb) (ea : evE c ca τ S = some (x, S1)) (eb : evE c cb τ S1 = some (y, S2)) (gg : G X.K cl F m S H) (ev : EnvOk X.K F m τ σ H) {R : V → V → Hp → Prop}
    (h : ∀ F2 m2 H2 v w, Stp F m H F2 m2 H2 → G X.K cl F2 m2 S2 H2 → RvOk X.K H F2 m2 H2 x v → RvOk X.K H F2 m2 H2 y w → R v w H2) : SE X a σ H fun v H1 => SE X b σ H1 fun w H2 => R v w H2 := by
  refine sa τ S x S1 ea F m σ H gg ev _ fun F1 m1 H1 v st1 g1 r1 => ?_
  refine sb τ S1 y S2 eb F1 m1 σ H1 g1 (ev.step st1) _ fun F2 m2 H2 w st2 g2 r2 => ?_
  exact h F2 m2 H2 v w (st1.trans st2) g2 (r1.step st2) (r2.back st1)
theorem bin_of {op : Operator} {pos : Pos} {rd : R2} (ho : OpR X (binaryOp op) rd) (sa : SndE X c cl a ca) (sb : SndE X c cl b cb) (ea : evE c ca τ S = some (x, S1)) (eb : evE c cb τ S1 = some (y, S2)) (gg : G X.K cl F m S H) (ev : EnvOk X.K F m τ σ H) {Q : VK}
    (h : ∀ F2 m2 H2 v w, Stp F m H F2 m2 H2 → G X.K cl F2 m2 S2 H2 → RvOk X.K H F2 m2 H2 x v → RvOk X.K H F2 m2 H2 y w → rd v w H2 Q) : SE X (.BinOp a op b pos) σ H Q :=
  se_of (pe_op ho pe_se pe_se) (two sa sb ea eb gg ev h)
theorem is_int {K : PySem.W.Frag} {F : Hp} {m : List Addr} {i : Int} {v : V} : Is K F m (.int i) v ↔ v = .int i := by simp [Is]
theorem is_bl {K : PySem.W.Frag} {F : Hp} {m : List Addr} {i : Bool} {v : V} : Is K F m (.bl i) v ↔ v = .bl i := by simp [Is]
theorem is_str {K : PySem.W.Frag} {F : Hp} {m : List Addr} {i : Str} {v : V} : Is K F m (.str i) v ↔ v = .str i := by simp [Is]
theorem is_non {K : PySem.W.Frag} {F : Hp} {m : List Addr} {v : V} : Is K F m .non v ↔ v = .non := by simp [Is]
theorem rv_fz {K : PySem.W.Frag} {H0 F H : Hp} {m : List Addr} {d : D} {v : V} : RvOk K H0 F m H (.fz d) v = Is K F m d v := rfl
/-- a new tuple, a new list -/
theorem mk_tup {vs : List V} {S : Store} (gg : G X.K cl F m S H) (hv : IsA X.K F m ds vs) {p : Addr} (hp : H p = none) :
    Stp F m H (upd F p (.tup vs)) m (upd H p (.tup vs)) ∧ G X.K cl (upd F p (.tup vs)) m S (upd H p (.tup vs)) ∧ Is X.K (upd F p (.tup vs)) m (.tup ds) (.ref p) := by
  have st := Stp.new (m := m) (o := .tup vs) gg.sub hp
  refine ⟨st, gg.new hp, ?_⟩
  simp only [Is]
  exact ⟨p, vs, rfl, .of upd_same, st.isA hv⟩
theorem mk_lst {vs : List V} {S : Store} (gg : G X.K cl F m S H) (hv : IsA X.K F m ds vs) {p : Addr} (hp : H p = none) {H0 : Hp} (h0 : H0 p = none) :
    Stp F m H F m (upd H p (.lst vs)) ∧ G X.K cl F m S (upd H p (.lst vs)) ∧ RvOk X.K H0 F m (upd H p (.lst vs)) (.fr ds) (.ref p) := by
  refine ⟨Stp.lay hp, gg.lay hp, p, vs, rfl, upd_same, ?_, gg.notin hp, h0, hv⟩
  cases q : F p with
  | none => rfl
  | some u => rw [gg.sub p u q] at hp; cases hp
theorem Stp.none {F' H' : Hp} {m' : List Addr} (st : Stp F m H F' m' H') {p : Addr} (h : H' p = none) : H p = none := by
  cases q : H p with
  | none => rfl
  | some o => exact absurd h (st.stay p (by rw [q]; exact fun z => nomatch z))

def bopTo : Bop → Operator
  | .add => .Add | .sub => .Sub | .mul => .Mult | .fdiv => .FloorDiv | .mod => .Mod | .pow => .Pow
theorem bopOf_inv {o : Operator} {p : Bop} (h : bopOf o = some p) : o = bopTo p := by
  cases o <;> simp [bopOf] at h <;> subst h <;> rfl

theorem fdiv_ok {X : Cx} : OpR X (binaryOp .FloorDiv) (rI (fun _ j => j ≠ 0 ∧ j.natAbs.log2 < 9000) fun i j => .int (i.fdiv j)) :=
  opI fun _ _ _ _ _ _ _ hc q => PyProof.Rows.floordiv_int hc.1 q (.inl (PyProof.noPylong_of_log2 hc.2))
theorem mul_ok {X : Cx} : OpR X (binaryOp .Mult) (rI IntMulOk fun i j => .int (i * j)) := opI fun _ _ _ _ _ _ _ hc q => PyProof.Rows.mul_int q hc

theorem snd_bin {op : Operator} {p : Bop} {pos : Pos} (ho : bopOf op = some p) (sa : SndE X c cl a ca) (sb : SndE X c cl b cb) : SndE X c cl (.BinOp a op b pos) (.bin p ca cb) := by
  intro τ S r S' he F m σ H gg ev Q q
  have eo := bopOf_inv ho
  subst eo
  simp only [evE] at he
  split at he
  rotate_left
  · cases he
  rename_i x S1 ea
  split at he
  rotate_left
  · cases he
  rename_i y S2 eb
  split at he
  rotate_left
  · cases he
  rename_i z ez
  cases he
  -- two ints
  have I : ∀ (i j k : Int), x = .fz (.int i) → y = .fz (.int j) → r = .fz (.int k) → binI p i j = some k → SE X (.BinOp a (bopTo p) b pos) σ H Q := by
    intro i j k ex ey er hk
    subst er
    subst ex
    subst ey
    have fin : ∀ F2 m2 H2, Stp F m H F2 m2 H2 → G X.K cl F2 m2 S' H2 → Q (.int k) H2 := fun F2 m2 H2 st g2 => q F2 m2 H2 _ st g2 (rv_int)
    have core : ∀ {op : Operator} {C : Int → Int → Prop} {f : Int → Int → Int}, OpR X (binaryOp op) (rI C fun i j => .int (f i j)) → C i j → f i j = k → SE X (.BinOp a op b pos) σ H Q := by
      intro op C f hop hc hf
      refine bin_of hop sa sb ea eb gg ev fun F2 m2 H2 v w st g2 r1 r2 => ?_
      rw [rvi_int r1, rvi_int r2]
      exact ⟨i, j, rfl, rfl, hc, by show Q (.int (f i j)) H2; rw [hf]; exact fin F2 m2 H2 st g2⟩
    have core0 : ∀ {op : Operator} {f : Int → Int → Int}, OpR X (binaryOp op) (rI0 fun i j => .int (f i j)) → f i j = k → SE X (.BinOp a op b pos) σ H Q := by
      intro op f hop hf
      refine bin_of hop sa sb ea eb gg ev fun F2 m2 H2 v w st g2 r1 r2 => ?_
      rw [rvi_int r1, rvi_int r2]
      exact ⟨i, j, rfl, rfl, by show Q (.int (f i j)) H2; rw [hf]; exact fin F2 m2 H2 st g2⟩
    cases p with
    | add => simp [binI] at hk; exact core0 op_add hk
    | sub => simp [binI] at hk; exact core0 op_sub hk
    | mul => simp only [binI] at hk; split at hk <;> simp at hk; rename_i h; exact core mul_ok h hk
    | fdiv => simp only [binI] at hk; split at hk <;> simp at hk; rename_i h; exact core fdiv_ok h hk
    | mod => simp only [binI] at hk; split at hk <;> simp at hk; rename_i h; exact core op_modN h hk
    | pow => simp only [binI] at hk; split at hk <;> simp at hk; rename_i h; exact core op_pow h hk
  unfold binR at ez
  split at ez
  · rename_i i j
    simp only [Option.map_eq_some_iff] at ez
    obtain ⟨k, hk, rfl⟩ := ez
    exact I i j k rfl rfl rfl hk
  · rename_i s t
    split at ez <;> simp at ez
    rename_i hz
    subst ez
    refine bin_of op_add_str sa sb ea eb gg ev fun F2 m2 H2 v w st g2 r1 r2 => ?_
    rw [rvi_str r1, rvi_str r2]
    exact ⟨s, t, rfl, rfl, hz, q F2 m2 H2 _ st g2 (rv_str)⟩
  · rename_i xs ys
    split at ez <;> simp at ez
    rename_i hz
    subst ez
    refine bin_of op_catA sa sb ea eb gg ev fun F2 m2 H2 v w st g2 r1 r2 => ?_
    simp only [rv_fz, Is] at r1 r2
    obtain ⟨p1, us, rfl, k1, i1⟩ := r1
    obtain ⟨p2, ws, rfl, k2, i2⟩ := r2
    refine ⟨p1, p2, us, ws, rfl, rfl, same_t g2.sub k1, same_t g2.sub k2, by rw [← i1.len, ← i2.len]; exact hz, fun e => ?_, fun _ e => ?_, fun _ _ p hp => ?_⟩
    · subst e
      have e1 : xs = [] := List.eq_nil_of_length_eq_zero (by rw [i1.len]; rfl)
      subst e1
      refine q F2 m2 H2 _ st g2 ?_
      simp only [rv_fz, Is, List.nil_append]
      exact ⟨p2, ws, rfl, k2, i2⟩
    · subst e
      have e1 : ys = [] := List.eq_nil_of_length_eq_zero (by rw [i2.len]; rfl)
      subst e1
      refine q F2 m2 H2 _ st g2 ?_
      simp only [rv_fz, Is, List.append_nil]
      exact ⟨p1, us, rfl, k1, i1⟩
    · obtain ⟨s3, g3, h3⟩ := mk_tup g2 (i1.app i2) hp
      exact q _ m2 _ _ (st.trans s3) g3 h3
  · rename_i x' y' _ _ _
    split at ez
    rotate_left
    · cases ez
    rename_i xs ys h1 h2
    split at ez <;> simp at ez
    rename_i hz
    subst ez
    refine bin_of op_cat sa sb ea eb gg ev fun F2 m2 H2 v w st g2 r1 r2 => ?_
    obtain ⟨p1, us, rfl, i1, k1⟩ := tseq_ok g2 r1 h1
    obtain ⟨p2, ws, rfl, i2, k2⟩ := tseq_ok g2 r2 h2
    refine ⟨p1, p2, us, ws, rfl, rfl, k1, k2, by rw [← i1.len, ← i2.len]; exact hz, fun p hp => ?_⟩
    obtain ⟨s3, g3, h3⟩ := mk_lst g2 (i1.app i2) hp (st.none hp)
    exact q _ m2 _ _ (st.trans s3) g3 h3
  · rename_i xs k
    split at ez <;> simp at ez
    rename_i hz
    subst ez
    refine bin_of (rd := rRepTA X.K) op_repTA sa sb ea eb gg ev fun F2 m2 H2 v w st g2 r1 r2 => ?_
    rw [rvi_int r2]
    simp only [rv_fz, Is] at r1
    obtain ⟨p1, us, rfl, k1, i1⟩ := r1
    refine ⟨p1, k, us, rfl, rfl, same_t g2.sub k1, hz.1, by rw [← i1.len]; exact hz.2, fun hh => ?_, fun _ _ p hp => ?_⟩
    · refine q F2 m2 H2 _ st g2 ?_
      simp only [rv_fz, Is]
      refine ⟨p1, us, rfl, k1, ?_⟩
      rcases hh with e | e
      · subst e
        have e1 : xs = [] := List.eq_nil_of_length_eq_zero (by rw [i1.len]; rfl)
        subst e1
        simp [IsA]
      · subst e
        simpa using i1
    · obtain ⟨s3, g3, h3⟩ := mk_tup g2 (i1.rep k.toNat) hp
      exact q _ m2 _ _ (st.trans s3) g3 h3
  · rename_i x' k _ _
    split at ez
    · rename_i xs h1
      split at ez <;> simp at ez
      rename_i hz
      subst ez
      refine bin_of op_rep sa sb ea eb gg ev fun F2 m2 H2 v w st g2 r1 r2 => ?_
      rw [rvi_int r2]
      obtain ⟨p1, us, rfl, i1, k1⟩ := tseq_ok g2 r1 h1
      refine ⟨p1, k, us, rfl, rfl, k1, hz.1, hz.2.1, by rw [← i1.len]; exact hz.2.2, fun p hp => ?_⟩
      obtain ⟨s3, g3, h3⟩ := mk_lst g2 (i1.rep k.toNat) hp (st.none hp)
      exact q _ m2 _ _ (st.trans s3) g3 h3
    · cases ez
  · cases ez

theorem snd_neg {pos : Pos} (sa : SndE X c cl a ca) : SndE X c cl (.UnaryOp .USub a pos) (.neg ca) := by
  intro τ S r S' he F m σ H gg ev Q q
  simp only [evE] at he
  split at he
  · rename_i i S1 ea
    cases he
    refine se_of (pe_un un_neg pe_se) (sa τ S _ _ ea F m σ H gg ev _ fun F1 m1 H1 v st g1 r1 => ?_)
    rw [rvi_int r1]
    exact ⟨i, rfl, q F1 m1 H1 _ st g1 (rv_int)⟩
  · cases he

/-! ### comparisons -/
mutual
theorem dp_of {K : PySem.W.Frag} {F H : Hp} {m : List Addr} (s : Same F H) : ∀ (d : D) (v : V) (p : PyData), Is K F m d v → D.py d = some p → Dp K H v p
  | .non, v, p, h, e => by simp only [Is] at h; simp only [D.py, Option.some.injEq] at e; subst h; subst e; exact .non
  | .bl b, v, p, h, e => by simp only [Is] at h; simp only [D.py, Option.some.injEq] at e; subst h; subst e; exact .bl b
  | .int b, v, p, h, e => by simp only [Is] at h; simp only [D.py, Option.some.injEq] at e; subst h; subst e; exact .int b
  | .str b, v, p, h, e => by simp only [Is] at h; simp only [D.py, Option.some.injEq] at e; subst h; subst e; exact .str b
  | .tup ds, v, p, h, e => by
    simp only [Is] at h; simp only [D.py, Option.map_eq_some_iff] at e
    obtain ⟨a, vs, rfl, h1, h2⟩ := h
    obtain ⟨ps, e1, rfl⟩ := e
    exact .tup (same_t s h1) (dpAll_of s ds vs ps h2 e1)
  | .lst ds, v, p, h, e => by
    simp only [Is] at h; simp only [D.py, Option.map_eq_some_iff] at e
    obtain ⟨a, vs, rfl, h1, h2⟩ := h
    obtain ⟨ps, e1, rfl⟩ := e
    exact .lst (.of (s _ _ h1)) (dpAll_of s ds vs ps h2 e1)
  | .scr ds, v, p, h, e => by
    simp only [Is] at h; simp only [D.py, Option.map_eq_some_iff] at e
    obtain ⟨a, vs, rfl, h1, h2⟩ := h
    obtain ⟨ps, e1, rfl⟩ := e
    exact .lst (same_l s h1) (dpAll_of s ds vs ps h2 e1)
  | .obj i, v, p, h, e => by simp [D.py] at e
theorem dpAll_of {K : PySem.W.Frag} {F H : Hp} {m : List Addr} (s : Same F H) : ∀ (ds : List D) (vs : List V) (ps : List PyData), IsA K F m ds vs → D.pys ds = some ps → DpAll K H vs ps
  | [], vs, ps, h, e => by simp only [IsA] at h; simp only [D.pys, Option.some.injEq] at e; subst h; subst e; exact .nil
  | d :: ds, vs, ps, h, e => by
    simp only [IsA] at h
    obtain ⟨v, ws, rfl, h1, h2⟩ := h
    simp only [D.pys] at e
    split at e
    · rename_i p qs e1 e2
      simp only [Option.some.injEq] at e
      subst e
      exact .cons (dp_of s d v p h1 e1) (dpAll_of s ds ws qs h2 e2)
    · cases e
end
theorem tree_dp {v : V} {p : PyData} {H0 : Hp} (gg : G X.K cl F m S H) (h : RvOk X.K H0 F m H x v) (e : D.py x.tree = some p) : Dp X.K H v p := by
  cases x with
  | fz d => exact dp_of gg.sub d v p h e
  | fr ds =>
    obtain ⟨a, vs, rfl, h3, h1, h2, h0, h4⟩ := h
    simp only [Rv.tree, D.py, Option.map_eq_some_iff] at e
    obtain ⟨ps, e1, rfl⟩ := e
    exact .lst (.of h3) (dpAll_of gg.sub ds vs ps h4 e1)
  | rd ds =>
    obtain ⟨a, vs, rfl, h3, h1, h2, h4⟩ := h
    simp only [Rv.tree, D.py, Option.map_eq_some_iff] at e
    obtain ⟨ps, e1, rfl⟩ := e
    exact .lst (.of h3) (dpAll_of gg.sub ds vs ps h4 e1)
theorem is_flat {K : PySem.W.Frag} {F : Hp} {m : List Addr} {v : V} (h : Is K F m d v) (f : flatD d = true) : flatV v = true := by
  cases d <;> simp [flatD] at f <;> simp only [Is] at h <;> subst h <;> rfl
theorem isA_flat {K : PySem.W.Frag} {F : Hp} {m : List Addr} : ∀ {ds : List D} {vs : List V}, IsA K F m ds vs → ds.all flatD = true → vs.all flatV = true
  | [], _, h, _ => by simp only [IsA] at h; subst h; rfl
  | d :: ds, vs, h, f => by
    simp only [IsA] at h
    obtain ⟨v, ws, rfl, h1, h2⟩ := h
    simp only [List.all_cons, Bool.and_eq_true] at f ⊢
    exact ⟨is_flat h1 f.1, isA_flat h2 f.2⟩
theorem is_eqFl {K : PySem.W.Frag} {F : Hp} {m : List Addr} {d e : D} {v w : V} (h : Is K F m d v) (k : Is K F m e w) (f : flatD d = true) (f' : flatD e = true) : eqV v w = eqFl d e := by
  cases d <;> simp [flatD] at f <;> simp only [Is] at h <;> subst h <;> cases e <;> simp [flatD] at f' <;> simp only [Is] at k <;> subst k <;> rfl
theorem isA_in {K : PySem.W.Frag} {F : Hp} {m : List Addr} {v : V} (h : Is K F m d v) (f : flatD d = true) : ∀ {ds : List D} {vs : List V}, IsA K F m ds vs → ds.all flatD = true → inV v vs = ds.any fun e => eqFl e d
  | [], _, k, _ => by simp only [IsA] at k; subst k; rfl
  | e :: ds, vs, k, f' => by
    simp only [IsA] at k
    obtain ⟨w, ws, rfl, h1, h2⟩ := k
    simp only [List.all_cons, Bool.and_eq_true] at f'
    have ih := isA_in h f h2 f'.2
    unfold inV at ih ⊢
    rw [List.any_cons, List.any_cons, ih, is_eqFl h1 h f'.1 f]

theorem is_isNon {K : PySem.W.Frag} {F : Hp} {m : List Addr} {v : V} (h : Is K F m d v) : decide (v = V.non) = isNon d := by
  cases d <;> simp only [Is] at h
  all_goals first | (subst h; rfl) | (obtain ⟨_, _, rfl, _⟩ := h; rfl) | (obtain ⟨_, rfl, _⟩ := h; rfl)
theorem is_isBl {K : PySem.W.Frag} {F : Hp} {m : List Addr} {v : V} {y : Bool} (h : Is K F m d v) : decide (v = V.bl y) = isBl d y ∧ (∀ i, v ≠ .byt i) ∧ (∀ n, v ≠ .ty n) := by
  cases d <;> simp only [Is] at h
  all_goals first | (subst h) | (obtain ⟨_, _, rfl, _⟩ := h) | (obtain ⟨_, rfl, _⟩ := h)
  all_goals refine ⟨?_, fun _ z => (nomatch z), fun _ z => (nomatch z)⟩
  all_goals first | rfl | skip
  rename_i b
  unfold isBl
  by_cases e : b = y
  · subst e; simp
  · simp [e]
theorem cmp_core {op : CmpOp} {z : Bool} (k : Kn c cl g X) (hz : cmpR (copOf op) x y = some z) : ∃ rd : R2, OpR X (compareOp op) rd ∧
    ∀ F2 m2 H2 v w S2 H0, G X.K cl F2 m2 S2 H2 → RvOk X.K H0 F2 m2 H2 x v → RvOk X.K H0 F2 m2 H2 y w → ∀ Q : VK, Q (.bl z) H2 → rd v w H2 Q := by
  have hu := k.hu.units
  have I : ∀ {f : Int → Int → Bool}, OpR X (compareOp op) (rI0 fun i j => .bl (f i j)) → (∀ i j, x = .fz (.int i) → y = .fz (.int j) → z = f i j) → (∃ i j, x = .fz (.int i) ∧ y = .fz (.int j)) → ∃ rd : R2, OpR X (compareOp op) rd ∧
      ∀ F2 m2 H2 v w S2 H0, G X.K cl F2 m2 S2 H2 → RvOk X.K H0 F2 m2 H2 x v → RvOk X.K H0 F2 m2 H2 y w → ∀ Q : VK, Q (.bl z) H2 → rd v w H2 Q := by
    rintro f ho hf ⟨i, j, rfl, rfl⟩
    refine ⟨_, ho, fun F2 m2 H2 v w S2 H0 _ r1 r2 Q q => ?_⟩
    rw [rvi_int r1, rvi_int r2]
    refine ⟨i, j, rfl, rfl, ?_⟩
    have e := hf i j rfl rfl
    subst e
    exact q
  cases op with
  | Eq =>
    simp only [copOf, cmpR, eqD] at hz
    split at hz
    · rename_i p q e1 e2
      split at hz
      · rename_i hs
        cases hz
        exact ⟨_, op_eqD hu, fun F2 m2 H2 v w S2 H0 g2 r1 r2 Q k => ⟨p, q, tree_dp g2 r1 e1, tree_dp g2 r2 e2, hs.1, hs.2, k⟩⟩
      · cases hz
    · cases hz
  | NotEq =>
    simp only [copOf, cmpR, eqD, Option.map_eq_some_iff] at hz
    obtain ⟨z', hz, rfl⟩ := hz
    split at hz
    · rename_i p q e1 e2
      split at hz
      · rename_i hs
        cases hz
        exact ⟨_, op_neD hu, fun F2 m2 H2 v w S2 H0 g2 r1 r2 Q k => ⟨p, q, tree_dp g2 r1 e1, tree_dp g2 r2 e2, hs.1, hs.2, k⟩⟩
      · cases hz
    · cases hz
  | Lt =>
    simp only [copOf, cmpR] at hz
    split at hz
    · rename_i i j
      exact I op_lt (fun i' j' e e' => by cases e; cases e'; exact (Option.some.inj hz).symm) ⟨i, j, rfl, rfl⟩
    · cases hz
  | LtE =>
    simp only [copOf, cmpR] at hz
    split at hz
    · rename_i i j
      exact I op_le (fun i' j' e e' => by cases e; cases e'; exact (Option.some.inj hz).symm) ⟨i, j, rfl, rfl⟩
    · cases hz
  | Gt =>
    simp only [copOf, cmpR] at hz
    split at hz
    · rename_i i j
      exact I op_gt (fun i' j' e e' => by cases e; cases e'; exact (Option.some.inj hz).symm) ⟨i, j, rfl, rfl⟩
    · cases hz
  | GtE =>
    simp only [copOf, cmpR] at hz
    split at hz
    · rename_i i j
      exact I op_ge (fun i' j' e e' => by cases e; cases e'; exact (Option.some.inj hz).symm) ⟨i, j, rfl, rfl⟩
    · cases hz
  | Is =>
    refine ⟨_, op_isX, fun F2 m2 H2 v w S2 H0 g2 r1 r2 Q q => ?_⟩
    simp only [copOf, cmpR] at hz
    split at hz <;> cases hz
    · rw [rvi_non r2]
      exact .inl ⟨rfl, by rw [is_isNon r1]; exact q⟩
    · rename_i d y
      rw [rvi_bl r2]
      obtain ⟨e1, e2, e3⟩ := is_isBl (y := y) r1
      exact .inr ⟨y, rfl, e2, e3, by rw [e1]; exact q⟩
  | IsNot =>
    refine ⟨_, op_notX, fun F2 m2 H2 v w S2 H0 g2 r1 r2 Q q => ?_⟩
    simp only [copOf, cmpR] at hz
    split at hz <;> cases hz
    · rw [rvi_non r2]
      exact .inl ⟨rfl, by rw [is_isNon r1]; exact q⟩
    · rename_i d y
      rw [rvi_bl r2]
      obtain ⟨e1, e2, e3⟩ := is_isBl (y := y) r1
      exact .inr ⟨y, rfl, e2, e3, by rw [e1]; exact q⟩
  | In =>
    simp only [copOf, cmpR] at hz
    split at hz
    · rename_i d ds h2
      simp only [memD] at hz
      split at hz <;> cases hz
      rename_i hf
      refine ⟨_, op_in_seq, fun F2 m2 H2 v w S2 H0 g2 r1 r2 Q q => ?_⟩
      obtain ⟨a, vs, rfl, h3, h4⟩ := seq_ok g2 r2 h2
      exact ⟨a, vs, rfl, h4, is_flat r1 hf.1, isA_flat h3 hf.2, by rw [if_neg Bool.false_ne_true, isA_in r1 hf.1 h3 hf.2]; exact q⟩
    · cases hz
  | NotIn =>
    simp only [copOf, cmpR] at hz
    split at hz
    · rename_i d ds h2
      simp only [memD, Option.map_eq_some_iff] at hz
      obtain ⟨z', hz, rfl⟩ := hz
      split at hz <;> cases hz
      rename_i hf
      refine ⟨_, op_notIn_seq, fun F2 m2 H2 v w S2 H0 g2 r1 r2 Q q => ?_⟩
      obtain ⟨a, vs, rfl, h3, h4⟩ := seq_ok g2 r2 h2
      exact ⟨a, vs, rfl, h4, is_flat r1 hf.1, isA_flat h3 hf.2, by rw [if_pos rfl, isA_in r1 hf.1 h3 hf.2]; exact q⟩
    · cases hz

theorem cmp_coreS {op : CmpOp} {z : Bool} (k : Kn c cl g X) (hz : cmpS c.eqs S (copOf op) x y = some z) : ∃ rd : R2, OpR X (compareOp op) rd ∧
    ∀ F2 m2 H2 v w H0, G X.K cl F2 m2 S H2 → RvOk X.K H0 F2 m2 H2 x v → RvOk X.K H0 F2 m2 H2 y w → ∀ Q : VK, Q (.bl z) H2 → rd v w H2 Q := by
  unfold cmpS at hz
  split at hz
  · rename_i hn
    cases hz
    unfold neIns at hn
    split at hn
    · rename_i i j e1
      split at hn
      · rename_i c1 f1 c2 f2 ei ej
        simp only [Bool.and_eq_true, decide_eq_true_eq] at hn
        obtain ⟨⟨hij, hc⟩, he⟩ := hn
        subst hc
        have eo : op = .NotEq := by cases op <;> first | rfl | cases e1
        subst eo
        refine ⟨_, op_neIns (by have := k.hu.un; omega), fun F2 m2 H2 v w H0 g2 r1 r2 Q q => ?_⟩
        have r1 : Is X.K F2 m2 (.obj i) v := r1
        have r2 : Is X.K F2 m2 (.obj j) w := r2
        simp only [Is] at r1 r2
        obtain ⟨a, rfl, ha⟩ := r1
        obtain ⟨b, rfl, hb⟩ := r2
        obtain ⟨_, C, dx, ws, q1, q2, _⟩ := g2.ob i a _ ha ei
        obtain ⟨_, C', dy, us, q3, q4, _⟩ := g2.ob j b _ hb ej
        have eC : C' = C := by rw [q1] at q3; exact (Option.some.inj q3).symm
        subst eC
        have hab : a ≠ b := fun z => by
          subst z
          obtain ⟨p1, e1⟩ := List.getElem?_eq_some_iff.mp ha
          obtain ⟨p2, e2⟩ := List.getElem?_eq_some_iff.mp hb
          exact hij ((List.getElem_inj g2.nd).mp (e1.trans e2.symm))
        have n1 := k.eqn _ _ _ q1 he
        have n2 := k.clsOk.nen _ _ q1
        exact ⟨a, b, _, dx, ws, dy, us, rfl, rfl, hab, q2, q4, k.clsOk.mro _ _ q1, n1, n2, q⟩
      · cases hn
    · cases hn
  · obtain ⟨rd, h1, h2⟩ := cmp_core k hz
    exact ⟨rd, h1, fun F2 m2 H2 v w H0 g2 r1 r2 Q q => h2 F2 m2 H2 v w S H0 g2 r1 r2 Q q⟩
theorem snd_cmp {op : CmpOp} {pos : Pos} (k : Kn c cl g X) (hb : behindInMarks op b = false) (sa : SndE X c cl a ca) (sb : SndE X c cl b cb) : SndE X c cl (.Compare a [op] [b] pos) (.cmp (copOf op) ca cb) := by
  intro τ S r S' he F m σ H gg ev Q q
  simp only [evE] at he
  split at he
  rotate_left
  · cases he
  rename_i x S1 ea
  split at he
  rotate_left
  · cases he
  rename_i y S2 eb
  split at he
  rotate_left
  · cases he
  rename_i z ez
  cases he
  obtain ⟨rd, ho, hr⟩ := cmp_coreS k ez
  refine se_of (pe_cmpR ho pe_se pe_se hb) (two sa sb ea eb gg ev fun F2 m2 H2 v w st g2 r1 r2 => ?_)
  exact hr F2 m2 H2 v w _ g2 r1 r2 _ (q F2 m2 H2 _ st g2 (rv_bl))
theorem sndt_cmp {op : CmpOp} {pos : Pos} (k : Kn c cl g X) (hb : behindInMarks op b = false) (sa : SndE X c cl a ca) (sb : SndE X c cl b cb) : SndT X c cl (.Compare a [op] [b] pos) (.tr (.cmp (copOf op) ca cb)) := by
  intro τ S r S' he F m σ H gg ev Q q
  simp only [evT, evE] at he
  split at he
  rotate_left
  · cases he
  rename_i x0 S0 he0
  split at he0
  rotate_left
  · cases he0
  rename_i x S1 ea
  split at he0
  rotate_left
  · cases he0
  rename_i y S2 eb
  split at he0
  rotate_left
  · cases he0
  rename_i z ez
  cases he0
  simp only [truR] at he
  cases he
  obtain ⟨rd, ho, hr⟩ := cmp_coreS k ez
  refine st_of' (pt_cmpR ho pe_se pe_se hb) (two sa sb ea eb gg ev fun F2 m2 H2 v w st g2 r1 r2 => ?_)
  exact hr F2 m2 H2 v w _ g2 r1 r2 _ ⟨_, rfl, q F2 m2 H2 st g2⟩
/-- a op b op' d -/
theorem chain_core {d : Expr} {cd : CE} {op op' : CmpOp} (k : Kn c cl g X) (sa : SndE X c cl a ca) (sb : SndE X c cl b cb) (sd : SndE X c cl d cd) (he : evE c (.chain (copOf op) (copOf op') ca cb cd) τ S = some (r, S')) (gg : G X.K cl F m S H) (ev : EnvOk X.K F m τ σ H) :
    ∃ (z : Bool) (r1 r2 : R2), r = .fz (.bl z) ∧ OpR X (compareOp op) r1 ∧ OpR X (compareOp op') r2 ∧ ∀ Q : VK, (∀ F' m' H', Stp F m H F' m' H' → G X.K cl F' m' S' H' → Q (.bl z) H') → tChain r1 r2 (SE X a) (SE X b) (SE X d) σ H Q := by
  simp only [evE] at he
  split at he
  rotate_left
  · cases he
  rename_i x S1 ea
  split at he
  rotate_left
  · cases he
  rename_i y S2 eb
  split at he
  · rename_i ez
    split at he
    rotate_left
    · cases he
    rename_i w S3 ed
    split at he
    rotate_left
    · cases he
    rename_i z ez2
    cases he
    obtain ⟨r1, o1, h1⟩ := cmp_core k ez
    obtain ⟨r2, o2, h2⟩ := cmp_core k ez2
    refine ⟨z, r1, r2, rfl, o1, o2, fun Q q => ?_⟩
    refine two sa sb ea eb gg ev fun F2 m2 H2 v u st g2 q1 q2 => ?_
    refine h1 F2 m2 H2 v u _ _ g2 q1 q2 _ ⟨true, rfl, ?_⟩
    rw [if_pos rfl]
    refine sd τ S2 w S' ed F2 m2 σ H2 g2 (ev.step st) _ fun F3 m3 H3 t st3 g3 q3 => ?_
    exact h2 F3 m3 H3 u t S' H g3 (q2.step st3) (q3.back st) _ (q F3 m3 H3 (st.trans st3) g3)
  · rename_i ez
    cases he
    obtain ⟨r1, o1, h1⟩ := cmp_core k ez
    have o2 : ∃ r2 : R2, OpR X (compareOp op') r2 := ⟨fun _ _ _ _ => False, fun _ _ _ _ _ _ _ _ _ _ _ _ h => h.elim⟩
    obtain ⟨r2, o2⟩ := o2
    refine ⟨false, r1, r2, rfl, o1, o2, fun Q q => ?_⟩
    refine two sa sb ea eb gg ev fun F2 m2 H2 v u st g2 q1 q2 => ?_
    refine h1 F2 m2 H2 v u _ _ g2 q1 q2 _ ⟨false, rfl, ?_⟩
    rw [if_neg Bool.false_ne_true]
    exact q F2 m2 H2 st g2
  · cases he
theorem snd_chain {d : Expr} {cd : CE} {op op' : CmpOp} {pos : Pos} (k : Kn c cl g X) (hb : behindInMarks op' d = false) (sa : SndE X c cl a ca) (sb : SndE X c cl b cb) (sd : SndE X c cl d cd) : SndE X c cl (.Compare a [op, op'] [b, d] pos) (.chain (copOf op) (copOf op') ca cb cd) := by
  intro τ S r S' he F m σ H gg ev Q q
  obtain ⟨z, r1, r2, rfl, o1, o2, h⟩ := chain_core k sa sb sd he gg ev
  exact se_of (pe_chain o1 o2 pe_se pe_se pe_se hb) (h Q fun F' m' H' st g' => q F' m' H' _ st g' (rv_bl))
theorem sndt_chain {d : Expr} {cd : CE} {op op' : CmpOp} {pos : Pos} (k : Kn c cl g X) (hb : behindInMarks op' d = false) (sa : SndE X c cl a ca) (sb : SndE X c cl b cb) (sd : SndE X c cl d cd) : SndT X c cl (.Compare a [op, op'] [b, d] pos) (.tr (.chain (copOf op) (copOf op') ca cb cd)) := by
  intro τ S r S' he F m σ H gg ev Q q
  simp only [evT] at he
  split at he
  rotate_left
  · cases he
  rename_i x S1 he1
  obtain ⟨z, r1, r2, rfl, o1, o2, h⟩ := chain_core k sa sb sd he1 gg ev
  simp only [truR] at he
  cases he
  exact st_of' (pt_chain o1 o2 pe_se pe_se pe_se hb) (h _ fun F' m' H' st g' => ⟨_, rfl, q F' m' H' st g'⟩)

/-! ### and, or, not, if -/
theorem snd_and {rest : List Expr} {pos : Pos} (sa : SndE X c cl a ca) (sb : SndE X c cl (.BoolOp .And (b :: rest) pos) cb) : SndE X c cl (.BoolOp .And (a :: b :: rest) pos) (.andV ca cb) := by
  intro τ S r S' he F m σ H gg ev Q q
  simp only [evE] at he
  split at he
  · rename_i S1 ea
    refine se_of (pe_and pe_se pe_se) (sa τ S _ _ ea F m σ H gg ev _ fun F1 m1 H1 v st g1 r1 => ?_)
    refine ⟨true, rvi_bl r1, ?_⟩
    rw [if_pos rfl]
    exact sb τ S1 r S' he F1 m1 σ H1 g1 (ev.step st) Q fun F2 m2 H2 v2 st2 g2 r2 => q F2 m2 H2 v2 (st.trans st2) g2 (r2.back st)
  · rename_i S1 ea
    cases he
    refine se_of (pe_and pe_se pe_se) (sa τ S _ _ ea F m σ H gg ev _ fun F1 m1 H1 v st g1 r1 => ?_)
    refine ⟨false, rvi_bl r1, ?_⟩
    rw [if_neg Bool.false_ne_true]
    exact q F1 m1 H1 _ st g1 (rv_bl)
  · cases he
theorem snd_or {rest : List Expr} {pos : Pos} (sa : SndE X c cl a ca) (sb : SndE X c cl (.BoolOp .Or (b :: rest) pos) cb) : SndE X c cl (.BoolOp .Or (a :: b :: rest) pos) (.orV ca cb) := by
  intro τ S r S' he F m σ H gg ev Q q
  simp only [evE] at he
  split at he
  · rename_i S1 ea
    refine se_of (pe_or pe_se pe_se) (sa τ S _ _ ea F m σ H gg ev _ fun F1 m1 H1 v st g1 r1 => ?_)
    refine ⟨false, rvi_bl r1, ?_⟩
    rw [if_neg Bool.false_ne_true]
    exact sb τ S1 r S' he F1 m1 σ H1 g1 (ev.step st) Q fun F2 m2 H2 v2 st2 g2 r2 => q F2 m2 H2 v2 (st.trans st2) g2 (r2.back st)
  · rename_i S1 ea
    cases he
    refine se_of (pe_or pe_se pe_se) (sa τ S _ _ ea F m σ H gg ev _ fun F1 m1 H1 v st g1 r1 => ?_)
    refine ⟨true, rvi_bl r1, ?_⟩
    rw [if_pos rfl]
    exact q F1 m1 H1 _ st g1 (rv_bl)
  · cases he
theorem snd_one {op : BoolOp} {pos : Pos} (sa : SndE X c cl a ca) : SndE X c cl (.BoolOp op [a] pos) ca := by
  intro τ S r S' he F m σ H gg ev Q q
  exact se_of (pe_one pe_se) (sa τ S r S' he F m σ H gg ev Q q)
theorem snd_not {pos : Pos} (sa : SndE X c cl a ca) : SndE X c cl (.UnaryOp .Not a pos) (.notV ca) := by
  intro τ S r S' he F m σ H gg ev Q q
  simp only [evE] at he
  split at he
  · rename_i z S1 ea
    cases he
    refine se_of (pe_not pe_se) (sa τ S _ _ ea F m σ H gg ev _ fun F1 m1 H1 v st g1 r1 => ?_)
    exact ⟨z, rvi_bl r1, q F1 m1 H1 _ st g1 (rv_bl)⟩
  · cases he
theorem snd_ite {t : Expr} {ct : CT} {pos : Pos} (st : SndT X c cl t ct) (sa : SndE X c cl a ca) (sb : SndE X c cl b cb) : SndE X c cl (.IfExp t a b pos) (.ite ct ca cb) := by
  intro τ S r S' he F m σ H gg ev Q q
  simp only [evE] at he
  split at he
  · rename_i S1 et
    refine se_of (pe_ifExp pt_st pe_se pe_se) (st τ S _ _ et F m σ H gg ev _ fun F1 m1 H1 s1 g1 => ?_)
    rw [if_pos rfl]
    exact sa τ S1 r S' he F1 m1 σ H1 g1 (ev.step s1) Q fun F2 m2 H2 v2 s2 g2 r2 => q F2 m2 H2 v2 (s1.trans s2) g2 (r2.back s1)
  · rename_i S1 et
    refine se_of (pe_ifExp pt_st pe_se pe_se) (st τ S _ _ et F m σ H gg ev _ fun F1 m1 H1 s1 g1 => ?_)
    rw [if_neg Bool.false_ne_true]
    exact sb τ S1 r S' he F1 m1 σ H1 g1 (ev.step s1) Q fun F2 m2 H2 v2 s2 g2 r2 => q F2 m2 H2 v2 (s1.trans s2) g2 (r2.back s1)
  · cases he

/-! ### tests -/
theorem sndw_one {op : BoolOp} {ct : CT} {pos : Pos} (st : SndT X c cl a ct) : SndW X c cl (.BoolOp op [a] pos) ct := by
  intro τ S z S' he F m σ H gg ev Q q
  cases op with
  | And => exact sw_of (pw_and1 pt_st) (st τ S z S' he F m σ H gg ev Q q)
  | Or => exact sw_of (pw_or1 pt_st) (st τ S z S' he F m σ H gg ev Q q)
theorem sndw_and {rest : List Expr} {ct cu : CT} {pos : Pos} (st : SndT X c cl a ct) (su : SndW X c cl (.BoolOp .And (b :: rest) pos) cu) : SndW X c cl (.BoolOp .And (a :: b :: rest) pos) (.and ct cu) := by
  intro τ S z S' he F m σ H gg ev Q q
  simp only [evT] at he
  split at he
  · rename_i S1 et
    refine sw_of (pw_and pt_st pw_sw) (st τ S _ _ et F m σ H gg ev _ fun F1 m1 H1 s1 g1 => ?_)
    rw [if_pos rfl]
    exact su τ S1 z S' he F1 m1 σ H1 g1 (ev.step s1) Q fun F2 m2 H2 s2 g2 => q F2 m2 H2 (s1.trans s2) g2
  · rename_i S1 et
    cases he
    refine sw_of (pw_and pt_st pw_sw) (st τ S _ _ et F m σ H gg ev _ fun F1 m1 H1 s1 g1 => ?_)
    rw [if_neg Bool.false_ne_true]
    exact q F1 m1 H1 s1 g1
  · cases he
theorem sndw_or {rest : List Expr} {ct cu : CT} {pos : Pos} (st : SndT X c cl a ct) (su : SndW X c cl (.BoolOp .Or (b :: rest) pos) cu) : SndW X c cl (.BoolOp .Or (a :: b :: rest) pos) (.or ct cu) := by
  intro τ S z S' he F m σ H gg ev Q q
  simp only [evT] at he
  split at he
  · rename_i S1 et
    refine sw_of (pw_or pt_st pw_sw) (st τ S _ _ et F m σ H gg ev _ fun F1 m1 H1 s1 g1 => ?_)
    rw [if_neg Bool.false_ne_true]
    exact su τ S1 z S' he F1 m1 σ H1 g1 (ev.step s1) Q fun F2 m2 H2 s2 g2 => q F2 m2 H2 (s1.trans s2) g2
  · rename_i S1 et
    cases he
    refine sw_of (pw_or pt_st pw_sw) (st τ S _ _ et F m σ H gg ev _ fun F1 m1 H1 s1 g1 => ?_)
    rw [if_pos rfl]
    exact q F1 m1 H1 s1 g1
  · cases he
theorem sndt_w {e : Expr} {ct : CT} (h : SndW X c cl e ct) : SndT X c cl e ct := by
  intro τ S z S' he F m σ H gg ev Q q
  exact st_of' pw_sw.pt (h τ S z S' he F m σ H gg ev Q q)
theorem sndt_not {ct : CT} {pos : Pos} (st : SndT X c cl a ct) : SndT X c cl (.UnaryOp .Not a pos) (.not ct) := by
  intro τ S z S' he F m σ H gg ev Q q
  simp only [evT] at he
  split at he
  · rename_i z S1 et
    cases he
    exact st_of' (pt_not pt_st) (st τ S _ _ et F m σ H gg ev _ fun F1 m1 H1 s1 g1 => q F1 m1 H1 s1 g1)
  · cases he
theorem tru_of {z : Bool} {v : V} {S : Store} {H0 : Hp} (gg : G X.K cl F m S H) (h : RvOk X.K H0 F m H x v) (e : truR x = some z) : TruV X.K v H z := by
  have seq : ∀ ds, x.seq = some ds → z = !ds.isEmpty → TruV X.K v H z := by
    intro ds hs hz
    obtain ⟨a, vs, rfl, h1, h2⟩ := seq_ok gg h hs
    have el : ds.isEmpty = vs.isEmpty := by
      have := h1.len
      cases ds <;> cases vs <;> simp_all
    subst hz
    rw [el]
    rcases h2 with h2 | h2
    · exact .inl ⟨vs, h2, rfl⟩
    · exact .inr (.inl ⟨vs, h2, rfl⟩)
  cases x with
  | fz d =>
    cases d <;> simp only [truR, Option.some.injEq, reduceCtorEq] at e
    · rw [rvi_non h]; subst e; exact rfl
    · rw [rvi_bl h]; subst e; exact rfl
    · rw [rvi_int h]; subst e; exact rfl
    · rename_i s
      split at e <;> cases e
      rename_i hs
      rw [rvi_str h]
      exact ⟨hs, rfl⟩
    · rename_i ds; exact seq ds rfl (by simpa [Rv.seq] using e.symm)
    · rename_i ds; exact seq ds rfl (by simpa [Rv.seq] using e.symm)
    · rename_i ds; exact seq ds rfl (by simpa [Rv.seq] using e.symm)
  | fr ds => exact seq ds rfl (by simpa [truR, Rv.seq] using e.symm)
  | rd ds => exact seq ds rfl (by simpa [truR, Rv.seq] using e.symm)
/-- a test that is a value's truth -/
theorem sndt_tr (hp : ∀ whole, isTrue e X.env whole = (do let v ← whole; standAt e.pos; holding [v] (truthy v))) (se : SndE X c cl e ce) : SndT X c cl e (.tr ce) := by
  intro τ S z S' he F m σ H gg ev Q q
  simp only [evT] at he
  split at he
  rotate_left
  · cases he
  rename_i x S1 ex
  split at he
  · rename_i z et
    cases he
    refine st_of' (pt_truth pe_se hp) (se τ S _ _ ex F m σ H gg ev _ fun F1 m1 H1 v s1 g1 r1 => ?_)
    exact ⟨z, tru_of g1 r1 et, q F1 m1 H1 s1 g1⟩
  · cases he
end
end Co
end

section
set_option maxHeartbeats 0
set_option Elab.async false
set_option linter.all false
set_option maxRecDepth 100000
/-! Co5: arguments, displays, subscripts, built-ins, calls, instances, comprehensions. -/
namespace Co
open PySem L2
section
variable {X : Cx} {c : Ctx} {cl : List Addr} {g : Gm} {a b e : Expr} {ca cb ce : CE} {τ : Env} {S S' S1 S2 S3 : Store} {F : Hp} {m : List Addr} {σ : St} {H : Hp} {x y r : Rv} {d : D} {ds : List D}

theorem star_cons {es : List Expr} {env : PySem.Env} (h : isStar e = false) : starEach (e :: es) env = (false, eval e env) :: starEach es env := by
  cases e <;> first | rfl | (simp [isStar] at h)
theorem star_none {env : PySem.Env} {pos : Pos} : ∀ {es : List Expr}, (∀ e ∈ es, isStar e = false) → (backTo pos (starEach es env)).any (·.1) = false
  | [], _ => rfl
  | e :: es, h => by
    rw [star_cons (h e (by simp))]
    unfold backTo
    rw [List.map_cons, List.any_cons]
    have ih := star_none (env := env) (pos := pos) (es := es) fun e he => h e (by simp [he])
    unfold backTo at ih
    rw [ih]; rfl
/-! ### arguments -/
theorem snda_nil : SndA X c cl [] .nil := by
  intro τ S ds S' he F m σ H gg ev Q q
  simp only [evA, Option.some.injEq, Prod.mk.injEq] at he
  obtain ⟨rfl, rfl⟩ := he
  exact sa_of pa_nil (q F m H [] Stp.refl gg (by simp [IsA]))
theorem snda_cons {es : List Expr} {cs : CA} (h : isStar e = false) (se : SndE X c cl e ce) (sa : SndA X c cl es cs) : SndA X c cl (e :: es) (.cons ce cs) := by
  intro τ S ds S' he F m σ H gg ev Q q
  simp only [evA] at he
  split at he
  rotate_left
  · cases he
  rename_i x S1 ex
  split at he
  rotate_left
  · cases he
  rename_i d ed
  split at he
  rotate_left
  · cases he
  rename_i ds' S2 ea
  cases he
  refine sa_of (pa_cons pe_se pa_sa (star_cons h)) (se τ S x S1 ex F m σ H gg ev _ fun F1 m1 H1 v st g1 r1 => ?_)
  obtain ⟨F1', st', g1', sub, i1⟩ := keep_ok st g1 r1 ed
  refine sa τ S1 ds' _ ea F1' m1 σ H1 g1' (ev.step st') _ fun F2 m2 H2 vs st2 g2 i2 => ?_
  refine q F2 m2 H2 _ (st'.trans st2) g2 ?_
  simp only [IsA]
  exact ⟨v, vs, rfl, st2.is i1, i2⟩

/-! ### displays -/
theorem snd_tup {es : List Expr} {cs : CA} {k : Nat} {pos : Pos} (sa : SndA X c cl es cs) : SndE X c cl (.Tuple es k pos) (.tup cs) := by
  intro τ S r S' he F m σ H gg ev Q q
  simp only [evE] at he
  split at he
  rotate_left
  · cases he
  rename_i ds S1 ea
  split at he <;> cases he
  rename_i hz
  refine se_of (pe_tup pa_sa) (sa τ S ds _ ea F m σ H gg ev _ fun F1 m1 H1 vs st g1 i1 => ⟨by rw [← i1.len]; exact hz, fun p hp => ?_⟩)
  obtain ⟨s3, g3, h3⟩ := mk_tup g1 i1 hp
  exact q _ m1 _ _ (st.trans s3) g3 h3
theorem snd_lst {es : List Expr} {cs : CA} {pos : Pos} (sa : SndA X c cl es cs) : SndE X c cl (.List es pos) (.lst cs) := by
  intro τ S r S' he F m σ H gg ev Q q
  simp only [evE] at he
  split at he
  rotate_left
  · cases he
  rename_i ds S1 ea
  split at he <;> cases he
  rename_i hz
  refine se_of (pe_lst pa_sa) (sa τ S ds _ ea F m σ H gg ev _ fun F1 m1 H1 vs st g1 i1 => ⟨by rw [← i1.len]; exact hz, fun p hp => ?_⟩)
  obtain ⟨s3, g3, h3⟩ := mk_lst g1 i1 hp (st.none hp)
  exact q _ m1 _ _ (st.trans s3) g3 h3

/-! ### subscripts -/
theorem ixN_len {n k : Nat} {i : Int} (h : ixN n i = some k) : k < n := by
  unfold ixN at h
  split at h
  · split at h <;> simp at h; omega
  · split at h <;> simp at h; omega
theorem atI_isA {K : PySem.W.Frag} {ds : List D} {vs : List V} {i : Int} (h : IsA K F m ds vs) (e : atI ds i = some d) : ∃ v, atI vs i = some v ∧ Is K F m d v := by
  unfold atI at e ⊢
  rw [← h.len]
  cases q : ixN ds.length i with
  | none => rw [q] at e; simp at e
  | some j =>
    rw [q] at e
    simp only [Option.bind_some] at e ⊢
    exact h.get e
theorem plainIx_of (h : ∀ lo hi st p, b ≠ .Slice lo hi st p) : PlainIx b := fun _ _ => by
  cases b <;> first | rfl | exact absurd rfl (h _ _ _ _)
theorem look_kis {K : PySem.W.Frag} : ∀ {kvs : List (Key × D)} {ws : List (Key × V)} {k : Key} {d : D}, KIs K F m kvs ws → lookD kvs k = some d → ∃ v, valV ws k = some v ∧ Is K F m d v
  | [], _, _, _, h, e => by simp [lookD] at e
  | (k', d') :: r, ws, k, d, h, e => by
    obtain ⟨v, us, rfl, h1, h2⟩ := h
    by_cases q : k' = k
    · subst q
      simp [lookD, List.find?_cons] at e
      subst e
      exact ⟨v, valV_pos rfl, h1⟩
    · have e' : lookD r k = some d := by simpa [lookD, List.find?_cons, q] using e
      obtain ⟨w, h3, h4⟩ := look_kis h2 e'
      exact ⟨w, by rw [valV_neg (by exact q)]; exact h3, h4⟩
theorem key_is {K : PySem.W.Frag} {v : V} {k : Key} (h : Is K F m d v) (e : keyD d = some k) : v = kV k := by
  cases d <;> simp [keyD] at e <;> subst e <;> simp only [Is] at h <;> subst h <;> rfl
theorem snd_idx {pos : Pos} (k : Kn c cl g X) (hb : ∀ lo hi st p, b ≠ .Slice lo hi st p) (sa : SndE X c cl a ca) (sb : SndE X c cl b cb) : SndE X c cl (.Subscript a b pos) (.idx ca cb) := by
  intro τ S r S' he F m σ H gg ev Q q
  simp only [evE] at he
  split at he
  rotate_left
  · cases he
  rename_i x S1 ea
  split at he
  rotate_left
  · cases he
  rename_i y S2 eb
  split at he
  rotate_left
  · cases he
  rename_i d ed
  cases he
  have seq : ∀ (i : Int) (ds : List D), x.seq = some ds → y = .fz (.int i) → atI ds i = some d → SE X (.Subscript a b pos) σ H Q := by
    rintro i ds hs rfl ha
    refine se_of (pe_ix ix_seq pe_se pe_se (plainIx_of hb)) (two sa sb ea eb gg ev fun F2 m2 H2 v w st g2 r1 r2 => ?_)
    rw [rvi_int r2]
    obtain ⟨p, vs, rfl, i1, hq⟩ := seq_ok g2 r1 hs
    obtain ⟨u, hu, iu⟩ := atI_isA i1 ha
    rcases hq with hq | hq
    · exact .inl ⟨p, vs, i, u, rfl, rfl, hq, hu, q F2 m2 H2 u st g2 iu⟩
    · exact .inr (.inl ⟨p, vs, i, u, rfl, rfl, hq, hu, q F2 m2 H2 u st g2 iu⟩)
  unfold idxR at ed
  split at ed
  · rename_i n kd
    split at ed
    · rename_i kvs en
      split at ed
      · rename_i key ek
        refine se_of (pe_dget (hu_of k.hu) pe_se pe_se (plainIx_of hb)) (two sa sb ea eb gg ev fun F2 m2 H2 v w st g2 r1 r2 => ?_)
        have r1 : Is X.K F2 m2 (.obj n) v := r1
        simp only [Is] at r1
        obtain ⟨p, rfl, hp⟩ := r1
        obtain ⟨q1, ws, q2, q3⟩ := g2.ob n p _ hp en
        obtain ⟨u, hu, iu⟩ := look_kis q3 ed
        refine ⟨p, u, rfl, ?_, q F2 m2 H2 u st g2 iu⟩
        have := DGet.k (k := key) q2
        rw [hu, ← key_is r2 ek] at this
        exact this
      · cases ed
    · cases ed
  · rename_i s i
    split at ed
    · rename_i hs
      simp only [Option.map_eq_some_iff] at ed
      obtain ⟨ch, e1, rfl⟩ := ed
      refine se_of (pe_ix ix_seq pe_se pe_se (plainIx_of hb)) (two sa sb ea eb gg ev fun F2 m2 H2 v w st g2 r1 r2 => ?_)
      rw [rvi_str r1, rvi_int r2]
      exact .inr (.inr ⟨s, i, ch, rfl, rfl, hs, e1, q F2 m2 H2 _ st g2 rv_str⟩)
    · cases ed
  · rename_i x' i _ _
    split at ed
    · rename_i ds hs
      exact seq i ds hs rfl ed
    · cases ed
  · cases ed

theorem cutD_isA {K : PySem.W.Frag} {ds : List D} {vs : List V} {lo hi : Option Int} (h : IsA K F m ds vs) : IsA K F m (cutD ds lo hi) (cutV vs lo hi) := by
  unfold cutD cutV
  rw [← h.len]
  exact (h.drop _).take _
theorem cut_whole {α : Type} (xs : List α) (lo hi : Option Int) (h : HT.sIx xs.length 0 lo = 0 ∧ HT.sIx xs.length xs.length hi = xs.length) : (xs.drop (HT.sIx xs.length 0 lo)).take (HT.sIx xs.length xs.length hi - HT.sIx xs.length 0 lo) = xs := by
  rw [h.1, h.2]; simp
/-- a slice of a value, the parts told -/
theorem slice_of {lo hi : Option Expr} {p2 pos : Pos} {l h : Option Int} {r : Rv} (sa : SndE X c cl a ca) (ea : evE c ca τ S = some (x, S1)) (er : slR x l h = some r) (gg : G X.K cl F m S H) (ev : EnvOk X.K F m τ σ H) {tl th : TO} (hl : PO X lo tl) (hh : PO X hi th) {Q : VK}
    (parts : ∀ F1 m1 H1 v, Stp F m H F1 m1 H1 → G X.K cl F1 m1 S1 H1 → RvOk X.K H F1 m1 H1 x v → ∀ R : Option Int → Option Int → Hp → Prop,
      (∀ F' m' H', Stp F1 m1 H1 F' m' H' → G X.K cl F' m' S' H' → R l h H') → tl σ H1 fun l' H2 => th σ H2 fun h' H3 => R l' h' H3)
    (q : ∀ F' m' H' v, Stp F m H F' m' H' → G X.K cl F' m' S' H' → RvOk X.K H F' m' H' r v → Q v H') : SE X (.Subscript a (.Slice lo hi none p2) pos) σ H Q := by
  unfold slR at er
  split at er
  · rename_i ds
    cases er
    refine se_of (pe_slice sl_tupA pe_se hl hh) (sa τ S _ S1 ea F m σ H gg ev _ fun F1 m1 H1 v st g1 r1 => parts F1 m1 H1 v st g1 r1 _ fun F' m' H' st' g' => ?_)
    have r1 : Is X.K F1 m1 (.tup ds) v := r1
    have r2 := st'.is r1
    simp only [Is] at r2
    obtain ⟨p, vs, rfl, k1, i1⟩ := r2
    refine ⟨p, vs, rfl, same_t g'.sub k1, fun hw => ?_, fun _ p2 hp => ?_⟩
    · refine q F' m' H' _ (st.trans st') g' ?_
      have : cutD ds l h = ds := cut_whole ds l h (by rw [i1.len]; exact hw)
      rw [this]
      show Is _ _ _ _ _
      simp only [Is]
      exact ⟨p, vs, rfl, k1, i1⟩
    · obtain ⟨s3, g3, h3⟩ := mk_tup g' (cutD_isA (lo := l) (hi := h) i1) hp
      exact q _ m' _ _ ((st.trans st').trans s3) g3 h3
  · rename_i s
    split at er <;> cases er
    rename_i hs
    refine se_of (pe_slice sl_str pe_se hl hh) (sa τ S _ S1 ea F m σ H gg ev _ fun F1 m1 H1 v st g1 r1 => parts F1 m1 H1 v st g1 r1 _ fun F' m' H' st' g' => ?_)
    rw [rvi_str r1]
    exact ⟨s, rfl, hs, q F' m' H' _ (st.trans st') g' rv_str⟩
  · split at er
    · rename_i ds hs
      cases er
      refine se_of (pe_slice sl_list pe_se hl hh) (sa τ S _ S1 ea F m σ H gg ev _ fun F1 m1 H1 v st g1 r1 => parts F1 m1 H1 v st g1 r1 _ fun F' m' H' st' g' => ?_)
      obtain ⟨p, vs, rfl, i1, hq⟩ := lseq_ok g' (r1.step st') hs
      refine ⟨p, vs, rfl, hq, fun p2 hp => ?_⟩
      obtain ⟨s3, g3, h3⟩ := mk_lst g' (cutD_isA (lo := l) (hi := h) i1) hp ((st.trans st').none hp)
      exact q _ m' _ _ ((st.trans st').trans s3) g3 h3
    · cases er
theorem snd_sl2 {lo hi : Expr} {cl' ch : CE} {p2 pos : Pos} (sa : SndE X c cl a ca) (sl : SndE X c cl lo cl') (sh : SndE X c cl hi ch) : SndE X c cl (.Subscript a (.Slice (some lo) (some hi) none p2) pos) (.sl2 ca cl' ch) := by
  intro τ S r S' he F m σ H gg ev Q q
  simp only [evE] at he
  split at he
  rotate_left
  · cases he
  rename_i x S1 ea
  split at he
  rotate_left
  · cases he
  rename_i l S2 el
  split at he
  rotate_left
  · cases he
  rename_i h S3 eh
  split at he
  rotate_left
  · cases he
  rename_i r' er
  cases he
  refine slice_of sa ea er gg ev (po_some pe_se) (po_some pe_se) (fun F1 m1 H1 v st g1 _ R hR => ?_) q
  refine sl τ S1 _ S2 el F1 m1 σ H1 g1 (ev.step st) _ fun F2 m2 H2 w st2 g2 r2 => ⟨l, rvi_int r2, ?_⟩
  refine sh τ S2 _ _ eh F2 m2 σ H2 g2 (ev.step (st.trans st2)) _ fun F3 m3 H3 w st3 g3 r3 => ⟨h, rvi_int r3, ?_⟩
  exact hR F3 m3 H3 (st2.trans st3) g3
theorem snd_slL {lo : Expr} {cl' : CE} {p2 pos : Pos} (sa : SndE X c cl a ca) (sl : SndE X c cl lo cl') : SndE X c cl (.Subscript a (.Slice (some lo) none none p2) pos) (.slL ca cl') := by
  intro τ S r S' he F m σ H gg ev Q q
  simp only [evE] at he
  split at he
  rotate_left
  · cases he
  rename_i x S1 ea
  split at he
  rotate_left
  · cases he
  rename_i l S2 el
  split at he
  rotate_left
  · cases he
  rename_i r' er
  cases he
  refine slice_of sa ea er gg ev (po_some pe_se) po_none (fun F1 m1 H1 v st g1 _ R hR => ?_) q
  refine sl τ S1 _ _ el F1 m1 σ H1 g1 (ev.step st) _ fun F2 m2 H2 w st2 g2 r2 => ⟨l, rvi_int r2, ?_⟩
  exact hR F2 m2 H2 st2 g2
theorem snd_slH {hi : Expr} {ch : CE} {p2 pos : Pos} (sa : SndE X c cl a ca) (sh : SndE X c cl hi ch) : SndE X c cl (.Subscript a (.Slice none (some hi) none p2) pos) (.slH ca ch) := by
  intro τ S r S' he F m σ H gg ev Q q
  simp only [evE] at he
  split at he
  rotate_left
  · cases he
  rename_i x S1 ea
  split at he
  rotate_left
  · cases he
  rename_i h S3 eh
  split at he
  rotate_left
  · cases he
  rename_i r' er
  cases he
  refine slice_of sa ea er gg ev po_none (po_some pe_se) (fun F1 m1 H1 v st g1 _ R hR => ?_) q
  refine sh τ S1 _ _ eh F1 m1 σ H1 g1 (ev.step st) _ fun F3 m3 H3 w st3 g3 r3 => ⟨h, rvi_int r3, ?_⟩
  exact hR F3 m3 H3 st3 g3
theorem snd_rev {k : Nat} {p1 p2 p3 pos : Pos} (sa : SndE X c cl a ca) : SndE X c cl (.Subscript a (.Slice none none (some (.UnaryOp .USub (.Constant (.int 1) k p1) p2)) p3) pos) (.rev ca) := by
  intro τ S r S' he F m σ H gg ev Q q
  simp only [evE] at he
  split at he
  rotate_left
  · cases he
  rename_i x S1 ea
  split at he
  rotate_left
  · cases he
  rename_i r' er
  cases he
  unfold revR at er
  split at er
  · rename_i ds
    cases er
    refine se_of (pe_revA pe_se) (sa τ S _ _ ea F m σ H gg ev _ fun F1 m1 H1 v st g1 r1 => ?_)
    have r1 : Is X.K F1 m1 (.tup ds) v := r1
    simp only [Is] at r1
    obtain ⟨p, vs, rfl, k1, i1⟩ := r1
    refine ⟨p, vs, rfl, .inr ⟨same_t g1.sub k1, fun p2 hp => ?_⟩⟩
    obtain ⟨s3, g3, h3⟩ := mk_tup g1 i1.rev hp
    exact q _ m1 _ _ (st.trans s3) g3 h3
  · split at er
    · rename_i ds hs
      cases er
      refine se_of (pe_revA pe_se) (sa τ S _ _ ea F m σ H gg ev _ fun F1 m1 H1 v st g1 r1 => ?_)
      obtain ⟨p, vs, rfl, i1, hq⟩ := lseq_ok g1 r1 hs
      refine ⟨p, vs, rfl, .inl ⟨hq, fun p2 hp => ?_⟩⟩
      obtain ⟨s3, g3, h3⟩ := mk_lst g1 i1.rev hp (st.none hp)
      exact q _ m1 _ _ (st.trans s3) g3 h3
    · cases er

/-! ### built-ins -/
theorem maxL_mem : ∀ {ns : List Int} {k : Int}, maxL ns = some k → k ∈ ns ∧ ∀ y ∈ ns, y ≤ k := by
  intro ns k h
  cases ns with
  | nil => simp [maxL] at h
  | cons a as =>
    simp only [maxL, Option.some.injEq] at h
    have key : ∀ (as : List Int) (a k : Int), as.foldl (fun x y => if y > x then y else x) a = k → (k = a ∨ k ∈ as) ∧ a ≤ k ∧ ∀ y ∈ as, y ≤ k := by
      intro as
      induction as with
      | nil => intro a k h; simp at h; subst h; simp
      | cons b bs ih =>
        intro a k h
        simp only [List.foldl_cons] at h
        obtain ⟨h1, h2, h3⟩ := ih _ k h
        split at h2 <;> rename_i hb
        · rw [if_pos hb] at h1
          refine ⟨?_, by omega, fun y hy => ?_⟩
          · rcases h1 with e | e
            · exact .inr (by simp [e])
            · exact .inr (by simp [e])
          · rcases List.mem_cons.mp hy with e | e
            · omega
            · exact h3 y e
        · rw [if_neg hb] at h1
          refine ⟨?_, h2, fun y hy => ?_⟩
          · rcases h1 with e | e
            · exact .inl e
            · exact .inr (by simp [e])
          · rcases List.mem_cons.mp hy with e | e
            · omega
            · exact h3 y e
    obtain ⟨h1, h2, h3⟩ := key as a k h
    refine ⟨by rcases h1 with e | e <;> simp [e], fun y hy => ?_⟩
    rcases List.mem_cons.mp hy with e | e
    · omega
    · exact h3 y e
theorem minL_mem : ∀ {ns : List Int} {k : Int}, minL ns = some k → k ∈ ns ∧ ∀ y ∈ ns, k ≤ y := by
  intro ns k h
  cases ns with
  | nil => simp [minL] at h
  | cons a as =>
    simp only [minL, Option.some.injEq] at h
    have key : ∀ (as : List Int) (a k : Int), as.foldl (fun x y => if y < x then y else x) a = k → (k = a ∨ k ∈ as) ∧ k ≤ a ∧ ∀ y ∈ as, k ≤ y := by
      intro as
      induction as with
      | nil => intro a k h; simp at h; subst h; simp
      | cons b bs ih =>
        intro a k h
        simp only [List.foldl_cons] at h
        obtain ⟨h1, h2, h3⟩ := ih _ k h
        split at h2 <;> rename_i hb
        · rw [if_pos hb] at h1
          refine ⟨?_, by omega, fun y hy => ?_⟩
          · rcases h1 with e | e
            · exact .inr (by simp [e])
            · exact .inr (by simp [e])
          · rcases List.mem_cons.mp hy with e | e
            · omega
            · exact h3 y e
        · rw [if_neg hb] at h1
          refine ⟨?_, h2, fun y hy => ?_⟩
          · rcases h1 with e | e
            · exact .inl e
            · exact .inr (by simp [e])
          · rcases List.mem_cons.mp hy with e | e
            · omega
            · exact h3 y e
    obtain ⟨h1, h2, h3⟩ := key as a k h
    refine ⟨by rcases h1 with e | e <;> simp [e], fun y hy => ?_⟩
    rcases List.mem_cons.mp hy with e | e
    · omega
    · exact h3 y e
theorem pa_one {X : Cx} {a : Expr} (h : isStar a = false) : PA X [a] (tCons (SE X a) tNil) := pa_cons pe_se pa_nil (star_cons h)
theorem pa_two {X : Cx} {a b : Expr} (h : isStar a = false) (h2 : isStar b = false) : PA X [a, b] (tCons (SE X a) (tCons (SE X b) tNil)) := pa_cons pe_se (pa_cons pe_se pa_nil (star_cons h2)) (star_cons h)
theorem hpl_one {X : Cx} {pos : Pos} : (backTo pos (starEach [] X.env)).any (·.1) = false := rfl
end
end Co
end

section
set_option maxHeartbeats 0
set_option Elab.async false
set_option linter.all false
set_option maxRecDepth 100000
/-! Co6: built-ins, isinstance, calls, instances. -/
namespace Co
open PySem L2
theorem b_len : bootBuiltins "len" = some (.builtin "len") := by decide +kernel
theorem b_abs : bootBuiltins "abs" = some (.builtin "abs") := by decide +kernel
theorem b_int : bootBuiltins "int" = some (.type "int") := by decide +kernel
theorem b_bool : bootBuiltins "bool" = some (.type "bool") := by decide +kernel
theorem b_str : bootBuiltins "str" = some (.type "str") := by decide +kernel
theorem b_list : bootBuiltins "list" = some (.type "list") := by decide +kernel
theorem b_tuple : bootBuiltins "tuple" = some (.type "tuple") := by decide +kernel
theorem b_all : bootBuiltins "all" = some (.builtin "all") := by decide +kernel
theorem b_any : bootBuiltins "any" = some (.builtin "any") := by decide +kernel
theorem b_sum : bootBuiltins "sum" = some (.builtin "sum") := by decide +kernel
theorem b_max : bootBuiltins "max" = some (.builtin "max") := by decide +kernel
theorem b_min : bootBuiltins "min" = some (.builtin "min") := by decide +kernel
theorem b_sorted : bootBuiltins "sorted" = some (.builtin "sorted") := by decide +kernel
theorem b_isi : bootBuiltins "isinstance" = some (.builtin "isinstance") := by decide +kernel
section
variable {X : Cx} {c : Ctx} {cl : List Addr} {g : Gm} {a b e : Expr} {ca cb ce : CE} {τ : Env} {S S' S1 S2 S3 : Store} {F : Hp} {m : List Addr} {σ : St} {H : Hp} {x y r : Rv} {d : D} {ds : List D}

theorem sorted_one {ns ms : List Int} (p : ms.Perm ns) (s : ms.Pairwise (· ≤ ·)) : ms = ns.mergeSort (fun a b => decide (a ≤ b)) := by
  have p2 : (ns.mergeSort (fun a b => decide (a ≤ b))).Perm ns := List.mergeSort_perm ns _
  have s2 : (ns.mergeSort (fun a b => decide (a ≤ b))).Pairwise (fun a b => decide (a ≤ b) = true) := List.pairwise_mergeSort (by intro a b c h1 h2; simp at *; omega) (by intro a b; simp; omega) ns
  have s3 : (ns.mergeSort (fun a b => decide (a ≤ b))).Pairwise (· ≤ ·) := s2.imp fun h => by simpa using h
  exact List.Perm.eq_of_pairwise (fun a b _ _ h1 h2 => Int.le_antisymm h1 h2) s s3 (p.trans p2.symm)

def biNm : Bi → Str
  | .len => "len" | .abs => "abs" | .int => "int" | .list => "list" | .tuple => "tuple" | .all => "all" | .any => "any" | .sum => "sum" | .max => "max" | .min => "min" | .sorted => "sorted"
theorem biOf_inv {f : Str} {b : Bi} (h : biOf f = some b) : f = biNm b := by
  unfold biOf at h
  repeat (split at h; (rename_i e; cases h; exact e))
  cases h
theorem snd_bi {f : Str} {fb : Bi} {p pos : Pos} (k : Kn c cl g X) (hb : g.isBi f = true) (hf : biOf f = some fb) (hs : isStar a = false) (sa : SndE X c cl a ca) : SndE X c cl (.Call (.Name f p) [a] [] pos) (.bi fb ca) := by
  intro τ S r S' he F m σ H gg ev Q q
  obtain ⟨hg, hm, hd, hn⟩ := bi_ok k hb
  simp only [evE] at he
  split at he
  rotate_left
  · cases he
  rename_i x S1 ea
  split at he
  rotate_left
  · cases he
  rename_i r' er
  cases he
  have go : ∀ {rd : List V → Hp → VK → Prop}, (∀ F1 m1 H1 v, Stp F m H F1 m1 H1 → G X.K cl F1 m1 S' H1 → RvOk X.K H F1 m1 H1 x v → rd [v] H1 Q) → tCB rd (tCons (SE X a) tNil) σ H Q := fun hr => sa τ S x _ ea F m σ H gg ev _ hr
  have ef := biOf_inv hf
  subst ef
  cases fb with
  | len =>
    -- len
    simp only [biR] at er
    have L : ∀ {n : Nat}, r = .fz (.int n) → (∀ F1 m1 H1 v, Stp F m H F1 m1 H1 → G X.K cl F1 m1 S' H1 → RvOk X.K H F1 m1 H1 x v → LenV X.K v H1 n) → SE X (.Call (.Name (biNm .len) p) [a] [] pos) σ H Q := by
      rintro n rfl hl
      refine se_of (pe_callB call_len hg hm b_len (pa_one hs) hn hd (star_cons hs) hpl_one) (go fun F1 m1 H1 v st g1 r1 => ?_)
      exact ⟨v, n, rfl, hl F1 m1 H1 v st g1 r1, q F1 m1 H1 _ st g1 rv_int⟩
    split at er
    · rename_i s
      split at er <;> cases er
      rename_i hz
      exact L rfl fun F1 m1 H1 v st g1 r1 => by rw [rvi_str r1]; exact ⟨hz, rfl⟩
    · rename_i n
      split at er
      · rename_i kvs en
        cases er
        refine se_of (pe_callB call_lenD hg hm b_len (pa_one hs) hn hd (star_cons hs) hpl_one) (go fun F1 m1 H1 v st g1 r1 => ?_)
        have r1 : Is X.K F1 m1 (.obj n) v := r1
        simp only [Is] at r1
        obtain ⟨p', rfl, hp⟩ := r1
        obtain ⟨_, ws, q2, q3⟩ := g1.ob n p' _ hp en
        exact ⟨p', ws, rfl, q2, by rw [← q3.len]; exact q F1 m1 H1 _ st g1 rv_int⟩
      · cases er
    · split at er
      · rename_i ds hsq
        cases er
        refine L rfl fun F1 m1 H1 v st g1 r1 => ?_
        obtain ⟨p', vs, rfl, i1, hq⟩ := seq_ok g1 r1 hsq
        rcases hq with hq | hq
        · exact .inl ⟨vs, hq, i1.len⟩
        · exact .inr ⟨vs, hq, i1.len⟩
      · cases er
  | abs =>
    simp only [biR] at er
    split at er
    · rename_i i
      cases er
      refine se_of (pe_callB call_abs hg hm b_abs (pa_one hs) hn hd (star_cons hs) hpl_one) (go fun F1 m1 H1 v st g1 r1 => ?_)
      rw [rvi_int r1]
      exact ⟨i, rfl, q F1 m1 H1 _ st g1 rv_int⟩
    · cases er
  | int =>
    simp only [biR] at er
    split at er
    · rename_i i
      cases er
      refine se_of (pe_callTy call_int1 hg hm b_int (pa_one hs) hn hd (star_cons hs) hpl_one) (go fun F1 m1 H1 v st g1 r1 => ?_)
      rw [rvi_int r1]
      exact .inl ⟨i, rfl, q F1 m1 H1 _ st g1 rv_int⟩
    · cases er
  | list =>
    simp only [biR] at er
    split at er
    · rename_i ds hsq
      cases er
      refine se_of (pe_callTy call_list_of hg hm b_list (pa_one hs) hn hd (star_cons hs) hpl_one) (go fun F1 m1 H1 v st g1 r1 => ?_)
      obtain ⟨p', vs, rfl, i1, hq⟩ := seq_ok g1 r1 hsq
      refine ⟨p', vs, rfl, hq, fun l hl => ?_⟩
      obtain ⟨s3, g3, h3⟩ := mk_lst g1 i1 hl (st.none hl)
      exact q _ m1 _ _ (st.trans s3) g3 h3
    · cases er
  | tuple =>
    simp only [biR] at er
    split at er
    · rename_i ds hsq
      cases er
      refine se_of (pe_callTy call_tuple_of hg hm b_tuple (pa_one hs) hn hd (star_cons hs) hpl_one) (go fun F1 m1 H1 v st g1 r1 => ?_)
      have tup : ∀ (p' : Addr) (vs : List V), v = .ref p' → IsA X.K F1 m1 ds vs → SqL X.K H1 p' vs → ∃ p ys, [v] = [V.ref p] ∧ ((SqL X.K H1 p ys ∧ ∀ l, H1 l = none → Q (.ref l) (upd H1 l (.tup ys))) ∨ (SqT X.K H1 p ys ∧ Q (.ref p) H1)) := by
        rintro p' vs rfl i1 hq
        refine ⟨p', vs, rfl, .inl ⟨hq, fun l hl => ?_⟩⟩
        obtain ⟨s3, g3, h3⟩ := mk_tup g1 i1 hl
        exact q _ m1 _ _ (st.trans s3) g3 h3
      cases x with
      | fz t =>
        cases t <;> simp [Rv.seq] at hsq
        · subst hsq
          have r2 : Is X.K F1 m1 _ v := r1
          have r3 := r2
          simp only [Is] at r3
          obtain ⟨p', vs, rfl, k1, i1⟩ := r3
          exact ⟨p', vs, rfl, .inr ⟨same_t g1.sub k1, q F1 m1 H1 _ st g1 r2⟩⟩
        · subst hsq
          have r2 : Is X.K F1 m1 _ v := r1
          simp only [Is] at r2
          obtain ⟨p', vs, rfl, k1, i1⟩ := r2
          exact tup p' vs rfl i1 (.of (g1.sub _ _ k1))
        · subst hsq
          have r2 : Is X.K F1 m1 _ v := r1
          simp only [Is] at r2
          obtain ⟨p', vs, rfl, k1, i1⟩ := r2
          exact tup p' vs rfl i1 (same_l g1.sub k1)
      | fr t =>
        simp [Rv.seq] at hsq; subst hsq
        obtain ⟨p', vs, rfl, h3, h1, h2, h0, h4⟩ := r1
        exact tup p' vs rfl h4 (.of h3)
      | rd t =>
        simp [Rv.seq] at hsq; subst hsq
        obtain ⟨p', vs, rfl, h3, h1, h2, h4⟩ := r1
        exact tup p' vs rfl h4 (.of h3)
    · cases er
  | all =>
    simp only [biR] at er
    split at er
    · rename_i ds hsq
      simp only [Option.map_eq_some_iff] at er
      obtain ⟨bs, eb, rfl⟩ := er
      refine se_of (pe_callB (cr_all k.calm) hg hm b_all (pa_one hs) hn hd (star_cons hs) hpl_one) (go fun F1 m1 H1 v st g1 r1 => ?_)
      obtain ⟨p', vs, rfl, i1, hq⟩ := lseq_ok g1 r1 hsq
      have ev' := i1.boolsOf eb
      subst ev'
      exact ⟨p', bs, rfl, hq, q F1 m1 H1 _ st g1 rv_bl⟩
    · cases er
  | any =>
    simp only [biR] at er
    split at er
    · rename_i ds hsq
      simp only [Option.map_eq_some_iff] at er
      obtain ⟨bs, eb, rfl⟩ := er
      refine se_of (pe_callB (cr_any k.calm) hg hm b_any (pa_one hs) hn hd (star_cons hs) hpl_one) (go fun F1 m1 H1 v st g1 r1 => ?_)
      obtain ⟨p', vs, rfl, i1, hq⟩ := lseq_ok g1 r1 hsq
      have ev' := i1.boolsOf eb
      subst ev'
      exact ⟨p', bs, rfl, hq, q F1 m1 H1 _ st g1 rv_bl⟩
    · cases er
  | sum =>
    simp only [biR] at er
    split at er
    · rename_i ds hsq
      simp only [Option.map_eq_some_iff] at er
      obtain ⟨bs, eb, rfl⟩ := er
      refine se_of (pe_callB (cr_sum k.calm) hg hm b_sum (pa_one hs) hn hd (star_cons hs) hpl_one) (go fun F1 m1 H1 v st g1 r1 => ?_)
      obtain ⟨p', vs, rfl, i1, hq⟩ := lseq_ok g1 r1 hsq
      have ev' := i1.intsOf eb
      subst ev'
      exact ⟨p', bs, rfl, hq, q F1 m1 H1 _ st g1 rv_int⟩
    · cases er
  | max =>
    simp only [biR] at er
    split at er
    · rename_i ds hsq
      simp only [Option.bind_eq_some_iff, Option.map_eq_some_iff] at er
      obtain ⟨bs, eb, z, ez, rfl⟩ := er
      refine se_of (pe_callB (cr_max k.calm) hg hm b_max (pa_one hs) hn hd (star_cons hs) hpl_one) (go fun F1 m1 H1 v st g1 r1 => ?_)
      obtain ⟨p', vs, rfl, i1, hq⟩ := lseq_ok g1 r1 hsq
      have ev' := i1.intsOf eb
      subst ev'
      obtain ⟨z1, z2⟩ := maxL_mem ez
      refine ⟨p', bs, rfl, hq, List.length_pos_of_mem z1, fun w hw hle => ?_⟩
      have : w = z := Int.le_antisymm (z2 w hw) (hle z z1)
      rw [this]
      exact q F1 m1 H1 _ st g1 rv_int
    · cases er
  | min =>
    simp only [biR] at er
    split at er
    · rename_i ds hsq
      simp only [Option.bind_eq_some_iff, Option.map_eq_some_iff] at er
      obtain ⟨bs, eb, z, ez, rfl⟩ := er
      refine se_of (pe_callB (cr_min k.calm) hg hm b_min (pa_one hs) hn hd (star_cons hs) hpl_one) (go fun F1 m1 H1 v st g1 r1 => ?_)
      obtain ⟨p', vs, rfl, i1, hq⟩ := lseq_ok g1 r1 hsq
      have ev' := i1.intsOf eb
      subst ev'
      obtain ⟨z1, z2⟩ := minL_mem ez
      refine ⟨p', bs, rfl, hq, List.length_pos_of_mem z1, fun w hw hle => ?_⟩
      have : w = z := Int.le_antisymm (hle z z1) (z2 w hw)
      rw [this]
      exact q F1 m1 H1 _ st g1 rv_int
    · cases er
  | sorted =>
    simp only [biR] at er
    split at er
    · rename_i ds hsq
      simp only [Option.map_eq_some_iff] at er
      obtain ⟨bs, eb, rfl⟩ := er
      refine se_of (pe_callB cr_sortedI hg hm b_sorted (pa_one hs) hn hd (star_cons hs) hpl_one) (go fun F1 m1 H1 v st g1 r1 => ?_)
      obtain ⟨p', vs, rfl, i1, hq⟩ := lseq_ok g1 r1 hsq
      have ev' := i1.intsOf eb
      subst ev'
      refine ⟨p', bs, rfl, hq, fun ns' p2 hp hs hnew => ?_⟩
      have := sorted_one hp hs
      subst this
      obtain ⟨s3, g3, h3⟩ := mk_lst g1 (IsA.ofInts (K := X.K) (F := F1) (m := m1) (bs.mergeSort (fun a b => decide (a ≤ b)))) hnew (st.none hnew)
      exact q _ m1 _ _ (st.trans s3) g3 h3
    · cases er
end
end Co
end

section
set_option maxHeartbeats 0
set_option Elab.async false
set_option linter.all false
set_option maxRecDepth 100000
/-! Co7: two-place built-ins, isinstance, calls, instances, dict displays. -/
namespace Co
open PySem L2
section
variable {X : Cx} {c : Ctx} {cl : List Addr} {g : Gm} {a b e : Expr} {ca cb ce : CE} {τ : Env} {S S' S1 S2 S3 : Store} {F : Hp} {m : List Addr} {σ : St} {H : Hp} {x y r : Rv} {d : D} {ds : List D}

theorem snd_bi2 {f : Str} {fb : Bi2} {p pos : Pos} (k : Kn c cl g X) (hf : (fb = .max ∧ f = "max" ∧ g.isBi f = true) ∨ (fb = .min ∧ f = "min" ∧ g.isBi f = true) ∨ (fb = .gcd ∧ f = "gcd" ∧ g.isGl f = true ∧ g.gcd = true)) (hs : isStar a = false) (hs2 : isStar b = false) (sa : SndE X c cl a ca) (sb : SndE X c cl b cb) :
    SndE X c cl (.Call (.Name f p) [a, b] [] pos) (.bi2 fb ca cb) := by
  intro τ S r S' he F m σ H gg ev Q q
  simp only [evE] at he
  split at he
  rotate_left
  · cases he
  rename_i x S1 ea
  split at he
  rotate_left
  · cases he
  rename_i y S2 eb
  split at he
  rotate_left
  · cases he
  rename_i d ed
  cases he
  have h2 : (backTo pos (starEach [b] X.env)).any (·.1) = false := star_none (by simpa using hs2)
  have go : ∀ {rd : List V → Hp → VK → Prop}, (∀ F1 m1 H1 v w, Stp F m H F1 m1 H1 → G X.K cl F1 m1 S' H1 → RvOk X.K H F1 m1 H1 x v → RvOk X.K H F1 m1 H1 y w → rd [v, w] H1 Q) → tCB rd (tCons (SE X a) (tCons (SE X b) tNil)) σ H Q := fun hr => two sa sb ea eb gg ev hr
  rcases hf with ⟨rfl, rfl, hb⟩ | ⟨rfl, rfl, hb⟩ | ⟨rfl, rfl, hb, hgc⟩
  · obtain ⟨hg, hm, hd, hn⟩ := bi_ok k hb
    simp only [bi2R] at ed
    split at ed
    · rename_i i j h0
      cases h0; cases ed
      refine se_of (pe_callB (call_max2 k.calm) hg hm b_max (pa_two hs hs2) hn hd (star_cons hs) h2) (go fun F1 m1 H1 v w st g1 r1 r2 => ?_)
      rw [rvi_int r1, rvi_int r2]
      exact ⟨i, j, rfl, q F1 m1 H1 _ st g1 rv_int⟩
    all_goals first | (rename_i h0; cases h0) | (rename_i h0 _ _; cases h0) | cases ed
  · obtain ⟨hg, hm, hd, hn⟩ := bi_ok k hb
    simp only [bi2R] at ed
    split at ed
    all_goals first | (rename_i h0; cases h0; done) | skip
    all_goals first
      | (rename_i i j h0
         cases ed
         refine se_of (pe_callB (call_min2 k.calm) hg hm b_min (pa_two hs hs2) hn hd (star_cons hs) h2) (go fun F1 m1 H1 v w st g1 r1 r2 => ?_)
         rw [rvi_int r1, rvi_int r2]
         exact ⟨i, j, rfl, q F1 m1 H1 _ st g1 rv_int⟩)
      | cases ed
  · obtain ⟨hg, hd, hn⟩ := gl_ok k hb
    simp only [bi2R] at ed
    split at ed
    all_goals first | (rename_i h0; cases h0; done) | skip
    all_goals first
      | (rename_i i j h0
         cases ed
         refine se_of (pe_callBfun cr_gcd hg (k.gcd hgc) (pa_two hs hs2) hd (star_cons hs) h2) (go fun F1 m1 H1 v w st g1 r1 r2 => ?_)
         rw [rvi_int r1, rvi_int r2]
         exact ⟨i, j, rfl, q F1 m1 H1 _ st g1 rv_int⟩)
      | cases ed

/-! ### isinstance -/
/-- a value's class, as a name or an own one -/
def tyOfRv (cl : List Addr) (S : Store) : Rv → Option Value
  | .fz .non => some (.type "NoneType") | .fz (.bl _) => some (.type "bool") | .fz (.int _) => some (.type "int") | .fz (.str _) => some (.type "str")
  | .fz (.tup _) => some (.type "tuple") | .fz (.lst _) => some (.type "list") | .fz (.scr _) => some (.type "list") | .fr _ => some (.type "list") | .rd _ => some (.type "list")
  | .fz (.obj n) => match S[n]? with
    | some (.dk _) => some (.type "dict")
    | some (.ins c _) => (cl[c]?).map .ref
    | none => none
theorem tyx_of {v : V} {S : Store} {H0 : Hp} (k : Kn c cl g X) (gg : G X.K cl F m S H) (h : RvOk X.K H0 F m H x v) {b : Bool} {t : Ty} (hb : isTy S x t = some b) : ∃ tv, tyOfRv cl S x = some tv ∧ TyX X.K H v tv := by
  have lst : ∀ {p : Addr} {vs : List V}, SqL X.K H p vs → TyX X.K H (.ref p) (.type "list") := by
    intro p vs hq
    rcases hq with (hq | ⟨o, hq⟩) | ⟨o, its, n, hk, hc, _⟩
    · exact .base (.lst hq)
    · exact .base (.frz hq)
    · exact .kList hk hc
  cases x with
  | fz d =>
    cases d with
    | non => exact ⟨_, rfl, by rw [rvi_non h]; exact .base .non⟩
    | bl b => exact ⟨_, rfl, by rw [rvi_bl h]; exact .base (.bl b)⟩
    | int i => exact ⟨_, rfl, by rw [rvi_int h]; exact .base (.int i)⟩
    | str s => exact ⟨_, rfl, by rw [rvi_str h]; exact .base (.str s)⟩
    | tup ds =>
      have h : Is X.K F m _ v := h
      simp only [Is] at h
      obtain ⟨p, vs, rfl, k1, i1⟩ := h
      refine ⟨_, rfl, ?_⟩
      rcases same_t gg.sub k1 with (hq | ⟨o, hq⟩) | ⟨o, its, n, hk, hc, _⟩
      · exact .base (.tup hq)
      · exact .fTuple hq
      · exact .kTuple hk hc
    | lst ds =>
      have h : Is X.K F m _ v := h
      simp only [Is] at h
      obtain ⟨p, vs, rfl, k1, i1⟩ := h
      exact ⟨_, rfl, .base (.lst (gg.sub _ _ k1))⟩
    | scr ds =>
      have h : Is X.K F m _ v := h
      simp only [Is] at h
      obtain ⟨p, vs, rfl, k1, i1⟩ := h
      exact ⟨_, rfl, lst (same_l gg.sub k1)⟩
    | obj n =>
      have h : Is X.K F m _ v := h
      simp only [Is] at h
      obtain ⟨p, rfl, hp⟩ := h
      cases en : S[n]? with
      | none => simp only [isTy, en, reduceCtorEq] at hb
      | some o =>
        obtain ⟨_, q2⟩ := gg.ob n p _ hp en
        cases o with
        | dk kvs =>
          obtain ⟨ws, q3, _⟩ := q2
          exact ⟨_, by simp [tyOfRv, en], .base (.dK q3)⟩
        | ins c fs =>
          obtain ⟨C, dx, ws, q3, q4, _⟩ := q2
          exact ⟨.ref C, by simp [tyOfRv, en, q3], .base (.ins q4 (k.clsOk.cls c C q3) (k.clsOk.cla c C q3) k.clsOk.clg k.clsOk.clt (k.clsOk.mro c C q3))⟩
  | fr ds =>
    obtain ⟨p, vs, rfl, h3, _⟩ := h
    exact ⟨_, rfl, .base (.lst h3)⟩
  | rd ds =>
    obtain ⟨p, vs, rfl, h3, _⟩ := h
    exact ⟨_, rfl, .base (.lst h3)⟩
/-- the answer for one class -/
theorem kit_of_ty {S : Store} {tv : Value} {t : Ty} {b : Bool} {v u : _} (k : Kn c cl g X) (h1 : tyOfRv cl S x = some tv) (h2 : isTy S x t = some b) (h3 : tyV cl t = some (v, u)) : PySem.W.kitOne X.K tv u = some b := by
  have bb : ∀ {n : String} {w : Bool}, tv = .type n → (match t with | .int => kitB n "int" = some w | .bool => kitB n "bool" = some w | .str => kitB n "str" = some w | .tuple => kitB n "tuple" = some w | .list => kitB n "list" = some w | .own _ => False) → PySem.W.kitOne X.K tv u = some w := by
    rintro n w rfl hk
    cases t <;> simp only [tyV, Option.some.injEq, Prod.mk.injEq] at h3 hk
    all_goals first | (obtain ⟨_, rfl⟩ := h3; exact kit_ty hk) | exact hk.elim
  have own : ∀ {n : String} {cc : Nat}, tv = .type n → n ∈ ["int", "bool", "str", "tuple", "list", "NoneType", "dict"] → t = .own cc → PySem.W.kitOne X.K tv u = some false := by
    rintro n cc rfl hn rfl
    simp only [tyV, Option.map_eq_some_iff, Prod.mk.injEq] at h3
    obtain ⟨C, hC, _, rfl⟩ := h3
    exact k.clsOk.bo cc C n hC hn
  have fin : ∀ {n : String}, tv = .type n → n ∈ ["int", "bool", "str", "tuple", "list", "NoneType", "dict"] → (∀ t', t = t' → isTy S x t' = some b) → (match t with | .int => kitB n "int" = some b | .bool => kitB n "bool" = some b | .str => kitB n "str" = some b | .tuple => kitB n "tuple" = some b | .list => kitB n "list" = some b | .own _ => b = false) → PySem.W.kitOne X.K tv u = some b := by
    intro n e hn _ hm
    cases t with
    | own cc => simp only at hm; subst hm; exact own e hn rfl
    | int => exact bb e hm
    | bool => exact bb e hm
    | str => exact bb e hm
    | tuple => exact bb e hm
    | list => exact bb e hm
  cases x with
  | fz d =>
    cases d with
    | obj n =>
      simp only [tyOfRv] at h1
      simp only [isTy] at h2
      split at h1
      · rename_i kvs en
        rw [en] at h2
        simp only [Option.some.injEq] at h1 h2
        subst h2
        refine fin h1.symm (by simp) (fun _ _ => by simp [isTy, en]) ?_
        cases t <;> first | rfl | (show kitB _ _ = some false; decide +kernel)
      · rename_i cc fs en
        rw [en] at h2
        simp only [Option.map_eq_some_iff, Option.some.injEq] at h1 h2
        obtain ⟨C, hC, rfl⟩ := h1
        cases t with
        | own c2 =>
          simp only [tyV, Option.map_eq_some_iff, Prod.mk.injEq] at h3
          obtain ⟨C2, hC2, _, rfl⟩ := h3
          simp only at h2
          rw [k.clsOk.oo cc C c2 C2 hC hC2, ← h2]
        | int => simp only [tyV, Option.some.injEq, Prod.mk.injEq] at h3; obtain ⟨_, rfl⟩ := h3; simp only at h2; rw [k.clsOk.ob cc C "int" hC (by simp), ← h2]
        | bool => simp only [tyV, Option.some.injEq, Prod.mk.injEq] at h3; obtain ⟨_, rfl⟩ := h3; simp only at h2; rw [k.clsOk.ob cc C "bool" hC (by simp), ← h2]
        | str => simp only [tyV, Option.some.injEq, Prod.mk.injEq] at h3; obtain ⟨_, rfl⟩ := h3; simp only at h2; rw [k.clsOk.ob cc C "str" hC (by simp), ← h2]
        | tuple => simp only [tyV, Option.some.injEq, Prod.mk.injEq] at h3; obtain ⟨_, rfl⟩ := h3; simp only at h2; rw [k.clsOk.ob cc C "tuple" hC (by simp), ← h2]
        | list => simp only [tyV, Option.some.injEq, Prod.mk.injEq] at h3; obtain ⟨_, rfl⟩ := h3; simp only at h2; rw [k.clsOk.ob cc C "list" hC (by simp), ← h2]
      · cases h1
    | _ =>
      simp only [tyOfRv, Option.some.injEq] at h1
      simp only [isTy, Option.some.injEq] at h2
      refine fin h1.symm (by simp) (fun t' e => by subst e; simp only [isTy]; rw [h2]) ?_
      subst h2
      cases t <;> first | rfl | (show kitB _ _ = some _; decide +kernel)
  | fr ds =>
    simp only [tyOfRv, Option.some.injEq] at h1
    simp only [isTy, Option.some.injEq] at h2
    refine fin h1.symm (by simp) (fun t' e => by subst e; simp only [isTy]; rw [h2]) ?_
    subst h2
    cases t <;> first | rfl | (show kitB _ _ = some _; decide +kernel)
  | rd ds =>
    simp only [tyOfRv, Option.some.injEq] at h1
    simp only [isTy, Option.some.injEq] at h2
    refine fin h1.symm (by simp) (fun t' e => by subst e; simp only [isTy]; rw [h2]) ?_
    subst h2
    cases t <;> first | rfl | (show kitB _ _ = some _; decide +kernel)
theorem kits_of {S : Store} {tv : Value} (k : Kn c cl g X) (h1 : tyOfRv cl S x = some tv) : ∀ {ts : List Ty} {b : Bool} {us : List Value}, isTys S x ts = some b → Paired (fun t u => ∃ v, tyV cl t = some (v, u)) ts us → PySem.W.kitAny X.K tv us = some b
  | [], b, us, h, p => by cases p; simp [isTys] at h; subst h; exact kitAny_nil
  | t :: ts, b, us, h, p => by
    cases p with
    | cons p1 p2 =>
      obtain ⟨v, hv⟩ := p1
      simp only [isTys] at h
      split at h
      · rename_i z1 z2 e1 e2
        cases h
        exact kitAny_cons (kit_of_ty k h1 e1 hv) (fun e => by subst e; simpa using kits_of k h1 e2 p2) (fun e => by subst e; rfl)
      · cases h
/-- a class's name -/
theorem pe_ty {t : Str} {p : Pos} {ty : Ty} (k : Kn c cl g X) (h : clsTy g t = some ty) : ∃ v u, tyV cl ty = some (v, u) ∧ ClsV v u ∧ PE X (.Name t p) (tC v) := by
  unfold clsTy at h
  split at h
  · rename_i hb
    obtain ⟨hg, hm, hd, hn⟩ := bi_ok k hb
    unfold tyOf at h
    split at h
    · rename_i e; subst e; cases h; exact ⟨_, _, rfl, .ty _, pe_bltn hg hm b_int rfl hn hd⟩
    split at h
    · rename_i e; subst e; cases h; exact ⟨_, _, rfl, .ty _, pe_bltn hg hm b_bool rfl hn hd⟩
    split at h
    · rename_i e; subst e; cases h; exact ⟨_, _, rfl, .ty _, pe_bltn hg hm b_str rfl hn hd⟩
    split at h
    · rename_i e; subst e; cases h; exact ⟨_, _, rfl, .ty _, pe_bltn hg hm b_tuple rfl hn hd⟩
    split at h
    · rename_i e; subst e; cases h; exact ⟨_, _, rfl, .ty _, pe_bltn hg hm b_list rfl hn hd⟩
    · cases h
  · split at h
    · rename_i hb
      obtain ⟨hg, hd, hn⟩ := gl_ok k hb
      simp only [Option.map_eq_some_iff] at h
      obtain ⟨i, hi, rfl⟩ := h
      obtain ⟨C, hC, hm⟩ := k.cls t i hi
      exact ⟨.ref C, .ref C, by simp [tyV, hC], .own C, pe_glob hg hm rfl hd⟩
    · cases h
theorem pa_tys {g : Gm} (k : Kn c cl g X) : ∀ {ts : List Expr} {tys : List Ty}, tysOf g ts = some tys → ∃ (vs : List V) (us : List Value), Paired (fun t u => ∃ v, tyV cl t = some (v, u)) tys us ∧ Paired ClsV vs us ∧ PA X ts (fun _ H Q => Q vs H)
  | [], tys, h => by simp [tysOf] at h; subst h; exact ⟨[], [], .nil, .nil, pa_nil⟩
  | e :: ts, tys, h => by
    unfold tysOf at h
    split at h
    · cases ‹e :: ts = []›
    · rename_i t p r heq
      cases heq
      split at h
      · rename_i x y e1 e2
        cases h
        obtain ⟨v, u, h1, h2, h3⟩ := pe_ty (p := p) k e1
        obtain ⟨vs, us, p1, p2, p3⟩ := pa_tys k e2
        exact ⟨v :: vs, u :: us, .cons ⟨v, h1⟩ p1, .cons h2 p2, pa_cons h3 p3 (star_cons rfl)⟩
      · cases h
    · cases h
theorem snd_isi1 {t : Str} {ty : Ty} {p p2 pos : Pos} (k : Kn c cl g X) (hb : g.isBi "isinstance" = true) (ht : clsTy g t = some ty) (hs : isStar a = false) (sa : SndE X c cl a ca) :
    SndE X c cl (.Call (.Name "isinstance" p) [a, .Name t p2] [] pos) (.isi ca [ty]) := by
  intro τ S r S' he F m σ H gg ev Q q
  obtain ⟨hg, hm, hd, hn⟩ := bi_ok k hb
  simp only [evE] at he
  split at he
  rotate_left
  · cases he
  rename_i x S1 ea
  split at he
  rotate_left
  · cases he
  rename_i z ez
  cases he
  obtain ⟨v, u, h1, h2, h3⟩ := pe_ty (p := p2) k ht
  refine se_of (pe_callB call_isi hg hm b_isi (pa_cons pe_se (pa_cons h3 pa_nil (star_cons rfl)) (star_cons hs)) hn hd (star_cons hs) rfl) (sa τ S x _ ea F m σ H gg ev _ fun F1 m1 H1 w st g1 r1 => ?_)
  simp only [isTys] at ez
  split at ez
  · rename_i z1 z2 e1 e2
    cases ez
    cases e2
    obtain ⟨tv, h4, h5⟩ := tyx_of k g1 r1 e1
    exact ⟨w, v, tv, u, z1, rfl, h2, h5, kit_of_ty k h4 e1 h1, by have hh := q F1 m1 H1 (.bl (z1 || false)) st g1 rv_bl; simpa using hh⟩
  · cases ez
theorem snd_isiN {ts : List Expr} {tys : List Ty} {p p2 pos : Pos} {kk : Nat} (k : Kn c cl g X) (hb : g.isBi "isinstance" = true) (ht : tysOf g ts = some tys) (hz : tys.length ≤ 100) (hne : tys ≠ []) (hs : isStar a = false) (sa : SndE X c cl a ca) :
    SndE X c cl (.Call (.Name "isinstance" p) [a, .Tuple ts kk p2] [] pos) (.isi ca tys) := by
  intro τ S r S' he F m σ H gg ev Q q
  obtain ⟨hg, hm, hd, hn⟩ := bi_ok k hb
  simp only [evE] at he
  split at he
  rotate_left
  · cases he
  rename_i x S1 ea
  split at he
  rotate_left
  · cases he
  rename_i z ez
  cases he
  obtain ⟨vs, us, p1, p2', p3⟩ := pa_tys k ht
  refine se_of (pe_callB call_isiT hg hm b_isi (pa_cons pe_se (pa_cons (pe_tup p3) pa_nil (star_cons rfl)) (star_cons hs)) hn hd (star_cons hs) rfl) (sa τ S x _ ea F m σ H gg ev _ fun F1 m1 H1 w st g1 r1 => ?_)
  have hl : vs.length ≤ 100 := by rw [Paired.length p2', ← Paired.length p1]; exact hz
  refine ⟨Nat.le_trans hl (by decide), fun tp htp => ?_⟩
  obtain ⟨t, e1⟩ : ∃ b, isTy S' x (tys.head hne) = some b := by
    cases tys with
    | nil => exact absurd rfl hne
    | cons t ts' =>
      simp only [isTys] at ez
      split at ez
      · rename_i z1 z2 e1 e2; exact ⟨z1, e1⟩
      · cases ez
  have st2 := Stp.new (m := m1) (o := .tup vs) g1.sub htp
  have g2 := g1.new (o := .tup vs) htp
  obtain ⟨tv, h4, h5⟩ := tyx_of k g2 (r1.step st2) e1
  exact ⟨w, tp, vs, tv, us, z, rfl, upd_same, p2', h5, kits_of k h4 ez p1, q _ m1 _ _ (st.trans st2) g2 rv_bl⟩

/-! ### calls -/
theorem fn_body {i n : Nat} {E : XK} {es : List Expr} {cs : CA} {Q : VK} (sa : SndA X c cl es cs) (h6 : ∀ ds S r, c.call i ds S = some r → ds.length = n) (ea : evA c cs τ S = some (ds, S1)) (ed : c.call i ds S1 = some (d, S')) (gg : G X.K cl F m S H) (ev : EnvOk X.K F m τ σ H)
    (q : ∀ F' m' H' v, Stp F m H F' m' H' → G X.K cl F' m' S' H' → RvOk X.K H F' m' H' (.fz d) v → Q v H') : tCall (spC X.K cl c.call i n) [] E (SA X es) σ H Q := by
  refine sa τ S ds S1 ea F m σ H gg ev _ fun F1 m1 H1 vs st g1 i1 => ?_
  show spC X.K cl c.call i n (vs ++ []) H1 Q E
  rw [List.append_nil]
  exact ⟨ds, S1, d, S', F1, m1, h6 ds S1 _ ed, ed, g1, i1, fun F' m' H' v st' g' i' => q F' m' H' v (st.trans st') g' i'⟩
theorem snd_call {f : Str} {i : Nat} {e0 : Expr} {es : List Expr} {cs : CA} {p pos : Pos} (k : Kn c cl g X) (hg : g.isGl f = true) (hf : g.fns.lookup f = some i) (hst : ∀ e ∈ e0 :: es, isStar e = false) (sa : SndA X c cl (e0 :: es) cs) : SndE X c cl (.Call (.Name f p) (e0 :: es) [] pos) (.call i cs) := by
  intro τ S r S' he F m σ H gg ev Q q
  obtain ⟨hg, hd, hn⟩ := gl_ok k hg
  obtain ⟨fa, fd, ps, lev, h1, h2, h3, h4, h5, h6⟩ := k.fn f i hf
  simp only [evE] at he
  split at he
  rotate_left
  · cases he
  rename_i ds S1 ea
  split at he
  rotate_left
  · cases he
  rename_i d S2 ed
  cases he
  exact se_of (pe_call (E := E0) h5 h3 hg h1 h2 h4 .nil pass0 pa_sa hd (star_cons (hst e0 (by simp))) (star_none fun e' he' => hst e' (by simp [he']))) (fn_body sa h6 ea ed gg ev q)
theorem snd_call0 {f : Str} {i : Nat} {p pos : Pos} (k : Kn c cl g X) (hg : g.isGl f = true) (hf : g.fns.lookup f = some i) : SndE X c cl (.Call (.Name f p) [] [] pos) (.call i .nil) := by
  intro τ S r S' he F m σ H gg ev Q q
  obtain ⟨hg, hd, hn⟩ := gl_ok k hg
  obtain ⟨fa, fd, ps, lev, h1, h2, h3, h4, h5, h6⟩ := k.fn f i hf
  simp only [evE, evA] at he
  split at he
  rotate_left
  · cases he
  rename_i d S2 ed
  cases he
  refine se_of (pe_call0 (E := E0) h5 h3 hg h1 h2 h4 .nil pass0 hd) ?_
  exact ⟨[], S, d, S', F, m, h6 [] S _ ed, ed, gg, rfl, fun F' m' H' v st' g' i' => q F' m' H' v st' g' i'⟩

/-! ### == by an own __eq__ -/
theorem cmpO_core {op : CmpOp} {co : Cop} (k : Kn c cl g X) (hco : (op = .Eq ∧ co = .eq) ∨ (op = .NotEq ∧ co = .ne)) (sa : SndE X c cl a ca) (sb : SndE X c cl b cb) (he : evE c (.cmpO co ca cb) τ S = some (r, S')) (gg : G X.K cl F m S H) (ev : EnvOk X.K F m τ σ H) :
    ∃ (z : Bool) (rd : R2), r = .fz (.bl z) ∧ OpR X (compareOp op) rd ∧ ∀ Q : VK, (∀ F' m' H', Stp F m H F' m' H' → G X.K cl F' m' S' H' → Q (.bl z) H') → SE X a σ H fun v H1 => SE X b σ H1 fun w H2 => rd v w H2 Q := by
  have hc2 : co = copOf op := by rcases hco with ⟨rfl, rfl⟩ | ⟨rfl, rfl⟩ <;> rfl
  simp only [evE] at he
  split at he
  rotate_left
  · cases he
  rename_i x S1 ea
  split at he
  rotate_left
  · cases he
  rename_i y S2 eb
  split at he
  · rename_i kk j eo
    split at he
    · rename_i dx dy bb et
      split at he
      · rename_i z S3 ecall
        -- the instance
        cases dx with
        | obj i =>
          simp only [ownEq] at eo
          split at eo
          · rename_i kc fs en
            split at eo
            · rename_i j' ej
              cases eo
              have hz : ∃ z' neg, r = .fz (.bl z') ∧ S' = S3 ∧ z' = (if neg = true then !z else z) ∧ ((op = .Eq ∧ neg = false) ∨ (op = .NotEq ∧ neg = true)) := by
                rcases hco with ⟨rfl, rfl⟩ | ⟨rfl, rfl⟩
                · simp only [Option.some.injEq, Prod.mk.injEq] at he
                  exact ⟨z, false, he.1.symm, he.2.symm, rfl, .inl ⟨rfl, rfl⟩⟩
                · simp only [Option.some.injEq, Prod.mk.injEq] at he
                  exact ⟨!z, true, he.1.symm, he.2.symm, rfl, .inr ⟨rfl, rfl⟩⟩
              obtain ⟨z', neg, rfl, rfl, hzz, hop⟩ := hz
              cases hC : cl[kk]? with
              | none =>
                refine ⟨z', fun _ _ _ _ => False, rfl, fun _ _ _ _ _ _ _ _ _ _ _ _ h => h.elim, fun Q q => two sa sb ea eb gg ev fun F2 m2 H2 v w st g2 r1 r2 => ?_⟩
                have h : Is X.K F2 m2 (.obj i) v := r1
                simp only [Is] at h
                obtain ⟨p, rfl, hp⟩ := h
                obtain ⟨_, C, dx, ws, q3, _⟩ := g2.ob i p _ hp en
                rw [hC] at q3; cases q3
              | some C =>
                obtain ⟨f, fd, ps, lev, q1, q2, q3, q4, q5, q6⟩ := k.eqn kk C _ hC ej
                have hop' : OpR X (compareOp op) (rOwn X.K C (spC X.K cl c.call j ps.length) neg E0) := by
                  rcases hop with ⟨rfl, rfl⟩ | ⟨rfl, rfl⟩
                  · exact op_ownEq q5 q1 q2 q4 pass0 (q3.mono (Nat.le_succ _))
                  · exact op_ownNe q5 q1 (k.clsOk.nen kk C hC) (k.clsOk.mro kk C hC) q2 q4 pass0 q3
                refine ⟨z', _, rfl, hop', fun Q q => two sa sb ea eb gg ev fun F2 m2 H2 v w st g2 r1 r2 => ?_⟩
                have h : Is X.K F2 m2 (.obj i) v := r1
                simp only [Is] at h
                obtain ⟨p, rfl, hp⟩ := h
                obtain ⟨_, C', dx, ws, w3, w4, w5, w6, w7⟩ := g2.ob i p _ hp en
                have eC : C' = C := by rw [hC] at w3; exact (Option.some.inj w3).symm
                subst eC
                obtain ⟨tv, h4, h5⟩ := tyx_of k g2 r2 et
                have hkit := kit_of_ty (v := .ref C') (u := .ref C') k h4 et (by simp [tyV, hC])
                have hnf : PySem.W.notFirst X.K C' tv = true := notFirst_of hkit (by
                  cases bb with
                  | false => exact .inl rfl
                  | true =>
                    refine .inr ?_
                    cases dy with
                    | obj n2 =>
                      simp only [isTy] at et
                      simp only [tyOfRv] at h4
                      split at et
                      · rename_i c2 fs2 en2
                        rw [en2] at h4
                        simp only [Option.some.injEq, decide_eq_true_eq] at et
                        subst et
                        simp only [hC, Option.map_some, Option.some.injEq] at h4
                        exact h4.symm
                      · cases et
                      · cases et
                    | _ => simp [isTy] at et)
                refine ⟨p, dx, ws, tv, rfl, w4, h5, hnf, [.obj i, dy], S2, .bl z, S', F2, m2, q6 _ _ _ ecall, ecall, g2, ?_, fun F' m' H' v' st' g' i' => ⟨z, is_bl.mp i', ?_⟩⟩
                · exact (IsA.one (by simp only [Is]; exact ⟨p, rfl, hp⟩)).app (IsA.one r2)
                · rw [← hzz]; exact q F' m' H' (st.trans st') g'
            · cases eo
          · cases eo
        | _ => simp [ownEq] at eo
      · cases he
    · cases he
  · split at he
    · rename_i z ez
      cases he
      rw [hc2] at ez
      obtain ⟨rd, ho, hr⟩ := cmp_coreS k ez
      exact ⟨z, rd, rfl, ho, fun Q q => two sa sb ea eb gg ev fun F2 m2 H2 v w st g2 r1 r2 => hr F2 m2 H2 v w _ g2 r1 r2 _ (q F2 m2 H2 st g2)⟩
    · cases he
theorem snd_cmpO {op : CmpOp} {co : Cop} {pos : Pos} (k : Kn c cl g X) (hco : (op = .Eq ∧ co = .eq) ∨ (op = .NotEq ∧ co = .ne)) (hb : behindInMarks op b = false) (sa : SndE X c cl a ca) (sb : SndE X c cl b cb) : SndE X c cl (.Compare a [op] [b] pos) (.cmpO co ca cb) := by
  intro τ S r S' he F m σ H gg ev Q q
  obtain ⟨z, rd, rfl, ho, hr⟩ := cmpO_core k hco sa sb he gg ev
  exact se_of (pe_cmpR ho pe_se pe_se hb) (hr Q fun F' m' H' st g' => q F' m' H' _ st g' rv_bl)
theorem sndt_cmpO {op : CmpOp} {co : Cop} {pos : Pos} (k : Kn c cl g X) (hco : (op = .Eq ∧ co = .eq) ∨ (op = .NotEq ∧ co = .ne)) (hb : behindInMarks op b = false) (sa : SndE X c cl a ca) (sb : SndE X c cl b cb) : SndT X c cl (.Compare a [op] [b] pos) (.tr (.cmpO co ca cb)) := by
  intro τ S r S' he F m σ H gg ev Q q
  rw [evT] at he
  split at he
  rotate_left
  · cases he
  rename_i x S1 he1
  obtain ⟨z, rd, rfl, ho, hr⟩ := cmpO_core k hco sa sb he1 gg ev
  simp only [truR] at he
  cases he
  exact st_of' (pt_cmpR ho pe_se pe_se hb) (hr _ fun F' m' H' st g' => ⟨_, rfl, q F' m' H' st g'⟩)

/-! ### a new object -/
theorem ObIs.grow {K : PySem.W.Frag} {o : Ob} {p a : Addr} {ho : HO} (h : ObIs K cl F m H a o) (ha : a ≠ p) (hq : ∀ a, H p ≠ some (.own a)) : ObIs K cl F (m ++ [p]) (upd H p ho) a o := by
  cases o with
  | dk kvs => obtain ⟨ws, h1, h2⟩ := h; exact ⟨ws, by rw [upd_ne ha]; exact h1, h2.mono (Same.refl _) ⟨[p], rfl⟩⟩
  | ins k fs =>
    obtain ⟨C, dx, ws, h0, h1, h2, h3, h4⟩ := h
    have hdx : dx ≠ p := fun e => hq a (e ▸ h2)
    exact ⟨C, dx, ws, h0, by rw [upd_ne ha]; exact h1, by rw [upd_ne hdx]; exact h2, by simp [h3, hdx], h4.mono (Same.refl _) ⟨[p], rfl⟩⟩
theorem G.join {K : PySem.W.Frag} {o : Ob} {p : Addr} {ho : HO} (gg : G K cl F m S H) (hp : p ∉ m) (fp : F p = none) (hq : ∀ a, H p ≠ some (.own a)) (hob : ObIs K cl F (m ++ [p]) (upd H p ho) p o) : G K cl F (m ++ [p]) (S ++ [o]) (upd H p ho) := by
  refine ⟨fun a u h => ?_, by simp [gg.len], ?_, fun i a o' h1 h2 => ?_⟩
  · rw [upd_ne (fun z => by rw [z, fp] at h; cases h)]; exact gg.sub a u h
  · rw [List.nodup_append]
    exact ⟨gg.nd, by simp, fun a ha b hb e => by simp at hb; subst hb; subst e; exact hp ha⟩
  · by_cases hi : i < m.length
    · rw [List.getElem?_append_left hi] at h1
      rw [List.getElem?_append_left (by rw [gg.len]; exact hi)] at h2
      obtain ⟨q1, q2⟩ := gg.ob i a o' h1 h2
      exact ⟨q1, q2.grow (fun z => hp (z ▸ List.mem_of_getElem? h1)) hq⟩
    · have hi' : m.length ≤ i := Nat.le_of_not_lt hi
      rw [List.getElem?_append_right hi'] at h1
      rw [List.getElem?_append_right (by rw [gg.len]; exact hi')] at h2
      rw [gg.len] at h2
      cases hz : i - m.length with
      | zero => rw [hz] at h1 h2; simp at h1 h2; subst h1; subst h2; exact ⟨fp, hob⟩
      | succ n => rw [hz] at h1; simp at h1
theorem Stp.join {F2 H2 : Hp} {m2 : List Addr} {p : Addr} {ho : HO} (st : Stp F m H F2 m2 H2) (hp : H p = Option.none) : Stp F m H F2 (m2 ++ [p]) (upd H2 p ho) := by
  refine ⟨st.sub, ?_, fun a o h hn => ?_, st.nof, fun a h => ?_, fun a h => ?_⟩
  · obtain ⟨l, rfl⟩ := st.pre
    exact ⟨l ++ [p], by simp⟩
  · rw [upd_ne (fun z => by rw [z, hp] at h; cases h)]; exact st.keep a o h hn
  · rcases List.mem_append.mp h with h | h
    · exact st.newm a h
    · simp at h; subst h; exact .inr hp
  · by_cases e : a = p
    · subst e; rw [upd_same]; exact fun z => nomatch z
    · rw [upd_ne e]; exact st.stay a h

/-! ### instances -/
theorem made {K : PySem.W.Frag} {C x dx : Addr} {kc : Nat} (gg : G K cl F m S H) (hC : cl[kc]? = some C) (hx : H x = none) (hd : H dx = none) (hne : dx ≠ x) :
    Stp F m H F (m ++ [x]) (upd (upd H dx (.own x)) x (.ins C dx [])) ∧ G K cl F (m ++ [x]) (S ++ [.ins kc []]) (upd (upd H dx (.own x)) x (.ins C dx [])) ∧ (m ++ [x])[S.length]? = some x := by
  have g1 := gg.lay (o := .own x) hd
  have st1 : Stp F m H F m (upd H dx (.own x)) := Stp.lay hd
  have hx1 : (upd H dx (.own x)) x = none := by rw [upd_ne (Ne.symm hne)]; exact hx
  have fx : F x = none := by
    cases q : F x with
    | none => rfl
    | some u => rw [gg.sub x u q] at hx; cases hx
  refine ⟨st1.join hx, g1.join (gg.notin hx) fx (fun a => by rw [hx1]; exact fun z => nomatch z) ⟨C, dx, [], hC, upd_same, by rw [upd_ne hne]; exact upd_same, ?_, rfl⟩, by rw [gg.len]; simp⟩
  have h1 := gg.notin hd
  simp [h1, hne]
theorem snd_mk0 {f : Str} {i : Nat} {p pos : Pos} (k : Kn c cl g X) (hg : g.isGl f = true) (hf : g.clss.lookup f = some i) : SndE X c cl (.Call (.Name f p) [] [] pos) (.mk i .nil) := by
  intro τ S r S' he F m σ H gg ev Q q
  obtain ⟨hg, hd, hn⟩ := gl_ok k hg
  simp only [evE, evA] at he
  split at he
  · rename_i eio
    simp only [if_true, Option.some.injEq, Prod.mk.injEq] at he
    obtain ⟨rfl, rfl⟩ := he
    obtain ⟨C, hC, hm, mk, hi⟩ := k.mkc f i _ hf eio
    refine se_of (pe_makeN mk.makes hi mk.kp (k.clsOk.mro i C hC) hg hm hd) fun a dx h1 h2 h3 => ?_
    obtain ⟨st, g1, h4⟩ := made gg hC h1 h2 h3
    refine q _ _ _ _ st g1 ?_
    show Is _ _ _ _ _
    simp only [Is]
    exact ⟨a, rfl, h4⟩
  · rename_i j eio
    split at he
    · rename_i S2 ed
      cases he
      obtain ⟨C, hC, hm, mk, fa, fd, ps, lev, q1, q2, q3, q4, q5, q6⟩ := k.mkc f i _ hf eio
      refine se_of (pe_make0 (E := E0) ⟨mk.makes, q1, q2, mk.kp⟩ q5 q3 hg hm q4 .nil pass0 hd) fun x dx h1 h2 h3 => ?_
      obtain ⟨st, g1, h4⟩ := made gg hC h1 h2 h3
      refine ⟨[.obj S.length], _, .non, S', F, _, q6 _ _ _ ed, ed, g1, IsA.one (by simp only [Is]; exact ⟨x, rfl, h4⟩), fun F' m' H' v st' g' i' => ⟨is_non.mp i', ?_⟩⟩
      refine q F' m' H' _ (st.trans st') g' ?_
      exact st'.is (by simp only [Is]; exact ⟨x, rfl, h4⟩)
    · cases he
  · cases he
theorem snd_mk {f : Str} {i : Nat} {e0 : Expr} {es : List Expr} {ce : CE} {cs : CA} {p pos : Pos} (k : Kn c cl g X) (hg : g.isGl f = true) (hf : g.clss.lookup f = some i) (hst : ∀ e ∈ e0 :: es, isStar e = false) (sa : SndA X c cl (e0 :: es) (.cons ce cs)) : SndE X c cl (.Call (.Name f p) (e0 :: es) [] pos) (.mk i (.cons ce cs)) := by
  intro τ S r S' he F m σ H gg ev Q q
  obtain ⟨hg, hd, hn⟩ := gl_ok k hg
  simp only [evE] at he
  split at he
  rotate_left
  · cases he
  rename_i ds S1 ea
  have hne : ds ≠ [] := by
    rintro rfl
    simp only [evA] at ea
    split at ea
    · split at ea
      · split at ea <;> cases ea
      · cases ea
    · cases ea
  split at he
  · rw [if_neg hne] at he; cases he
  · rename_i j eio
    split at he
    · rename_i S2 ed
      cases he
      obtain ⟨C, hC, hm, mk, fa, fd, ps, lev, q1, q2, q3, q4, q5, q6⟩ := k.mkc f i _ hf eio
      refine se_of (pe_make (E := E0) ⟨mk.makes, q1, q2, mk.kp⟩ q5 q3 hg hm q4 .nil pass0 pa_sa hd (star_cons (hst e0 (by simp))) (star_none fun e' he' => hst e' (by simp [he']))) ?_
      refine sa τ S ds S1 ea F m σ H gg ev _ fun F1 m1 H1 vs st1 g1 i1 x dx h1 h2 h3 => ?_
      obtain ⟨st, g2, h4⟩ := made g1 hC h1 h2 h3
      have io : Is X.K F1 (m1 ++ [x]) (.obj S1.length) (.ref x) := by simp only [Is]; exact ⟨x, rfl, h4⟩
      refine ⟨.obj S1.length :: ds, _, .non, S', F1, _, q6 _ _ _ ed, ed, g2, ?_, fun F' m' H' v st' g' i' => ⟨is_non.mp i', ?_⟩⟩
      · rw [List.append_nil]
        exact (IsA.one io).app (st.isA i1)
      · exact q F' m' H' _ ((st1.trans st).trans st') g' (st'.is io)
    · cases he
  · cases he
theorem snd_attr {f : Str} {pos : Pos} (k : Kn c cl g X) (ho : okBase a = true) (hf : f ∈ g.atrs) (sa : SndE X c cl a ca) : SndE X c cl (.Attribute a f pos) (.attr ca f) := by
  intro τ S r S' he F m σ H gg ev Q q
  simp only [evE] at he
  split at he
  rotate_left
  · cases he
  rename_i n S1 ea
  split at he
  rotate_left
  · cases he
  rename_i kc fs en
  split at he
  rotate_left
  · cases he
  rename_i d ed
  cases he
  have hb : attributeBase a f X.env (eval a X.env) = eval a X.env := by
    cases a <;> first | rfl | (exact absurd ho Bool.false_ne_true)
  refine se_of (pe_fld pe_se hb) (sa τ S _ _ ea F m σ H gg ev _ fun F1 m1 H1 v st g1 r1 => ?_)
  have h : Is X.K F1 m1 (.obj n) v := r1
  simp only [Is] at h
  obtain ⟨p, rfl, hp⟩ := h
  obtain ⟨_, C, dx, ws, q3, q4, q5, q6, q7⟩ := g1.ob n p _ hp en
  obtain ⟨w, h1, h2⟩ := KIs.look q7 ed
  exact ⟨p, C, dx, ws, w, rfl, q4, k.clsOk.cls kc C q3, k.atr kc C f q3 hf, h1, q F1 m1 H1 w st g1 h2⟩

/-! ### dict displays -/
def SndL (X : Cx) (c : Ctx) (cl : List Addr) : List Expr → CA → Prop
  | [], .nil => True
  | e :: es, .cons ce cs => SndE X c cl e ce ∧ SndL X c cl es cs
  | _, _ => False
theorem snda_of : ∀ {es : List Expr} {cs : CA}, SndL X c cl es cs → (∀ e ∈ es, isStar e = false) → SndA X c cl es cs
  | [], .nil, _, _ => snda_nil
  | e :: es, .cons ce cs, h, hs => snda_cons (hs e (by simp)) h.1 (snda_of h.2 fun e' h' => hs e' (by simp [h']))
  | [], .cons _ _, h, _ => h.elim
  | _ :: _, .nil, h, _ => h.elim
def kT (X : Cx) : Key → TE
  | .inl i => tC (.int i)
  | .inr x => tC (.str x)
def dpT (X : Cx) : List Key → List Expr → List (TE × TE)
  | k :: ks, e :: es => (kT X k, SE X e) :: dpT X ks es
  | _, _ => []
theorem pps_of {pos : Pos} : ∀ {ks : List (Option Expr)} {keys : List Key} {vs : List Expr}, keysOf ks = some keys → keys.length = vs.length → PPs X pos ks vs (dpT X keys vs)
  | [], keys, vs, h, hl => by
    simp [keysOf] at h; subst h
    cases vs with
    | nil => exact pps_nil
    | cons _ _ => simp at hl
  | some e :: r, keys, vs, h, hl => by
    unfold keysOf at h
    split at h
    · cases ‹some e :: r = []›
    · rename_i x j p r' heq
      cases heq
      simp only [Option.map_eq_some_iff] at h
      obtain ⟨ks', h1, rfl⟩ := h
      cases vs with
      | nil => simp at hl
      | cons v vs => exact pps_cons pe_str pe_se (pps_of h1 (by simpa using hl))
    · rename_i x j p r' heq
      cases heq
      simp only [Option.map_eq_some_iff] at h
      obtain ⟨ks', h1, rfl⟩ := h
      cases vs with
      | nil => simp at hl
      | cons v vs => exact pps_cons pe_int pe_se (pps_of h1 (by simpa using hl))
    · cases h
  | none :: r, keys, vs, h, hl => by simp [keysOf] at h
theorem kT_ok {k : Key} {Q : VK} (q : Q (kV k) H) : kT X k σ H Q := by cases k <;> exact q
theorem pairs_ok : ∀ {keys : List Key} {es : List Expr} {cs : CA} {ds : List D} {S S' : Store} {F : Hp} {m : List Addr} {H : Hp} {R : List (V × V) → Hp → Prop}, SndL X c cl es cs → keys.length = es.length → evA c cs τ S = some (ds, S') → G X.K cl F m S H → EnvOk X.K F m τ σ H →
    (∀ F' m' H' (kws : List (Key × V)), Stp F m H F' m' H' → G X.K cl F' m' S' H' → KIs X.K F' m' (keys.zip ds) kws → kws.map (·.1) = keys → R (kws.map fun kv => (kV kv.1, kv.2)) H') → tPairs (dpT X keys es) σ H R
  | [], [], .nil, ds, S, S', F, m, H, R, _, _, ea, gg, ev, q => by
    simp only [evA, Option.some.injEq, Prod.mk.injEq] at ea
    obtain ⟨rfl, rfl⟩ := ea
    exact q F m H [] Stp.refl gg rfl rfl
  | k :: keys, e :: es, .cons ce cs, ds, S, S', F, m, H, R, hs, hl, ea, gg, ev, q => by
    simp only [evA] at ea
    split at ea
    rotate_left
    · cases ea
    rename_i x S1 ex
    split at ea
    rotate_left
    · cases ea
    rename_i d ed
    split at ea
    rotate_left
    · cases ea
    rename_i ds' S2 ea'
    cases ea
    refine kT_ok (Q := _) ?_
    refine hs.1 τ S x S1 ex F m σ H gg ev _ fun F1 m1 H1 v st g1 r1 => ?_
    obtain ⟨F1', st', g1', sub, i1⟩ := keep_ok st g1 r1 ed
    refine pairs_ok hs.2 (by simpa using hl) ea' g1' (ev.step st') fun F2 m2 H2 kws st2 g2 i2 ek => ?_
    exact q F2 m2 H2 ((k, v) :: kws) (st'.trans st2) g2 ⟨v, kws, rfl, st2.is i1, i2⟩ (by simp [ek])
  | [], _ :: _, _, _, _, _, _, _, _, _, _, hl, _, _, _, _ => by simp at hl
  | _ :: _, [], _, _, _, _, _, _, _, _, _, hl, _, _, _, _ => by simp at hl
  | [], [], .cons _ _, _, _, _, _, _, _, _, h, _, _, _, _, _ => h.elim
  | _ :: _, _ :: _, .nil, _, _, _, _, _, _, _, h, _, _, _, _, _ => h.elim
theorem putK_new {kvs : List (Key × V)} {k : Key} {v : V} (h : k ∉ kvs.map (·.1)) : putK kvs k v = kvs ++ [(k, v)] := by
  unfold putK
  rw [if_neg]
  intro z
  rw [List.any_eq_true] at z
  obtain ⟨kv, h1, h2⟩ := z
  exact h (List.mem_map.mpr ⟨kv, h1, by simpa using h2⟩)
theorem mergeK_new : ∀ {more kvs : List (Key × V)}, (kvs.map (·.1) ++ more.map (·.1)).Nodup → mergeK kvs more = kvs ++ more
  | [], kvs, _ => by simp [mergeK]
  | p :: more, kvs, h => by
    have hn : p.1 ∉ kvs.map (·.1) := by
      rw [List.nodup_append] at h
      exact fun z => h.2.2 _ z p.1 (by simp) rfl
    show mergeK (putK kvs p.1 p.2) more = _
    rw [putK_new hn, mergeK_new (by simpa using h)]
    simp
theorem keysOf_len : ∀ {ks : List (Option Expr)} {keys : List Key}, keysOf ks = some keys → ks.length = keys.length ∧ ks.all (·.isSome) = true
  | [], keys, h => by simp [keysOf] at h; subst h; exact ⟨rfl, rfl⟩
  | some e :: r, keys, h => by
    unfold keysOf at h
    split at h
    · cases ‹some e :: r = []›
    · rename_i heq
      cases heq
      simp only [Option.map_eq_some_iff] at h
      obtain ⟨ks', h1, rfl⟩ := h
      obtain ⟨q1, q2⟩ := keysOf_len h1
      exact ⟨by simp [q1], by simpa using q2⟩
    · rename_i heq
      cases heq
      simp only [Option.map_eq_some_iff] at h
      obtain ⟨ks', h1, rfl⟩ := h
      obtain ⟨q1, q2⟩ := keysOf_len h1
      exact ⟨by simp [q1], by simpa using q2⟩
    · cases h
  | none :: r, keys, h => by simp [keysOf] at h
theorem sndl_len : ∀ {es : List Expr} {cs : CA} {ds : List D} {S S' : Store}, SndL X c cl es cs → evA c cs τ S = some (ds, S') → ds.length = es.length
  | [], .nil, ds, S, S', _, e => by simp [evA] at e; rw [e.1]; rfl
  | e :: es, .cons ce cs, ds, S, S', h, ea => by
    simp only [evA] at ea
    split at ea
    rotate_left
    · cases ea
    split at ea
    rotate_left
    · cases ea
    split at ea
    rotate_left
    · cases ea
    rename_i ea'
    cases ea
    simp [sndl_len h.2 ea']
  | [], .cons _ _, _, _, _, h, _ => h.elim
  | _ :: _, .nil, _, _, _, h, _ => h.elim
theorem snd_dct {ks : List (Option Expr)} {keys : List Key} {es : List Expr} {cs : CA} {pos : Pos} (hk : keysOf ks = some keys) (hs : SndL X c cl es cs) : SndE X c cl (.Dict ks es pos) (.dct keys cs) := by
  intro τ S r S' he F m σ H gg ev Q q
  simp only [evE] at he
  split at he
  rotate_left
  · cases he
  rename_i ds S1 ea
  split at he <;> cases he
  rename_i hc
  obtain ⟨hl, h15, hnd⟩ := hc
  have hle := sndl_len hs ea
  obtain ⟨hkl, hall⟩ := keysOf_len hk
  by_cases h0 : ks = []
  · subst h0
    simp [keysOf] at hk; subst hk
    have e1 : ds = [] := List.eq_nil_of_length_eq_zero (by simpa using hl)
    subst e1
    have e2 : es = [] := List.eq_nil_of_length_eq_zero (by simpa using hle.symm)
    subst e2
    cases cs with
    | cons _ _ => exact hs.elim
    | nil =>
      simp [evA] at ea
      subst ea
      refine se_of pe_dnewK fun p hp => ?_
      have fp : F p = none := by
        cases h : F p with
        | none => rfl
        | some u => rw [gg.sub p u h] at hp; cases hp
      refine q F (m ++ [p]) _ _ (Stp.join .refl hp) (gg.join (gg.notin hp) fp (fun a => by rw [hp]; exact fun z => nomatch z) ⟨[], upd_same, rfl⟩) ?_
      show Is _ _ _ _ _
      simp only [Is]
      exact ⟨p, rfl, by rw [gg.len]; simp⟩
  · refine se_of (pe_disp (pps_of hk (by omega)) hall (by omega) h0 (by omega)) fun p hp => ?_
    have g1 := gg.lay (o := .dK []) hp
    have st1 : Stp F m H F m (upd H p (.dK [])) := Stp.lay hp
    refine pairs_ok hs (by omega) ea g1 (ev.step st1) fun F2 m2 H2 kws st2 g2 i2 ek => ?_
    have hpm : p ∉ m := gg.notin hp
    have fp : F p = none := by
      cases h : F p with
      | none => rfl
      | some u => rw [gg.sub p u h] at hp; cases hp
    have hp1 : (upd H p (.dK [])) p ≠ none := by rw [upd_same]; exact fun z => nomatch z
    have h2p : H2 p = some (.dK []) := st2.keep p _ upd_same hpm
    have fp2 : F2 p = none := st2.nof p hp1 fp
    have hpm2 : p ∉ m2 := fun z => (st2.newm p z).elim hpm hp1
    refine ⟨h2p, kws, rfl, by rw [← i2.len, List.length_zip]; omega, ?_⟩
    have em : mergeK [] kws = kws := by rw [mergeK_new (by simpa [ek] using hnd)]; rfl
    rw [em]
    refine q F2 (m2 ++ [p]) _ _ ((st1.trans st2).join hp) (g2.join hpm2 fp2 (fun a => by rw [h2p]; exact fun z => nomatch z) ⟨kws, upd_same, i2.mono (Same.refl _) ⟨[p], rfl⟩⟩) ?_
    show Is _ _ _ _ _
    simp only [Is]
    exact ⟨p, rfl, by rw [g2.len]; simp⟩
end
end Co
end

section
set_option maxHeartbeats 0
set_option Elab.async false
set_option linter.all false
set_option maxRecDepth 100000
/-! Co8: what a loop walks, targets, list comprehensions. -/
namespace Co
open PySem L2

/-! ### reading an iterable -/
def SI (X : Cx) (tg it : Expr) : TI := fun σ H R => ∀ pins s, Inv X pins σ H s → wpAny (model X.prog X.w) X.A (eval it X.env) (fun v s1 => wpAny (model X.prog X.w) X.A (pyIter v) (PIE X pins σ tg R) X.xe s1) X.xe s
section
variable {X : Cx} {tg it : Expr} {σ : St} {H : Hp}
theorem pi_si : PI X tg it (SI X tg it) := ⟨fun pins s _ _ _ I h => h pins s I⟩
theorem si_of {wi : TI} (h : PI X tg it wi) {R : It → Hp → Prop} (q : wi σ H R) : SI X tg it σ H R := fun pins s I => h.run pins s σ H R I q
end
/-- what a walk's source asks of a later heap -/
def Stay (b : Bool) (F : Hp) (m : List Addr) (H H2 : Hp) : Prop := Same F H2 ∧ (b = false → ∀ a o, H a = some o → a ∉ m → H2 a = some o)
def Wk (K : PySem.W.Frag) (cl : List Addr) (b : Bool) (ds : List D) (F' : Hp) (m' : List Addr) (H' : Hp) (J : It) : Prop :=
  ∃ Gd Y, Walk J ds.length Gd Y ∧ (∀ H2, Stay b F' m' H' H2 → Gd H2) ∧
    ∀ F2 m2 S2 H2 i x H3, Same F' F2 → (∃ l, m2 = m' ++ l) → G K cl F2 m2 S2 H2 → i < ds.length → Y i H2 x H3 → ∃ d F3, ds[i]? = some d ∧ Stp F2 m2 H2 F3 m2 H3 ∧ G K cl F3 m2 S2 H3 ∧ Is K F3 m2 d x
def SndI (X : Cx) (c : Ctx) (cl : List Addr) (tg : Expr) (b : Bool) (e : Expr) (ci : CI) : Prop := ∀ τ S ds S', evI c b ci τ S = some (ds, S') → ∀ F m σ H, G X.K cl F m S H → EnvOk X.K F m τ σ H →
  ∀ R : It → Hp → Prop, (∀ F' m' H' J, Stp F m H F' m' H' → G X.K cl F' m' S' H' → Wk X.K cl b ds F' m' H' J → R J H') → SI X tg e σ H R

section
variable {X : Cx} {c : Ctx} {cl : List Addr} {g : Gm} {a e tg : Expr} {ca cb ce : CE} {τ : Env} {S S' S1 S2 S3 : Store} {F F' H' H0 F0 F1 H1 : Hp} {m m' m0 m1 : List Addr} {σ : St} {H : Hp} {x y r : Rv} {d : D} {ds es : List D} {b : Bool} {K : PySem.W.Frag} {v : V} {vs ws : List V}

/-- its items, kept -/
theorem seqB_ok (st : Stp F0 m0 H0 F m H) (g : G K cl F m S H) (h : RvOk K H0 F m H x v) (e : x.seqB b = some ds) : ∃ F' a vs, Stp F0 m0 H0 F' m H ∧ G K cl F' m S H ∧ Same F F' ∧ v = .ref a ∧ IsA K F' m ds vs ∧
    ((x.isT = false ∧ ∀ H2, Stay b F' m H H2 → SqL K H2 a vs) ∨ (x.isT = true ∧ ∀ H2, Stay b F' m H H2 → SqT K H2 a vs)) := by
  cases x with
  | fz z =>
    cases z <;> simp [Rv.seqB, Rv.seq] at e
    · subst e
      have h : Is K F m _ v := h
      simp only [Is] at h
      obtain ⟨a, vs, rfl, h1, h2⟩ := h
      exact ⟨F, a, vs, st, g, Same.refl _, rfl, h2, .inr ⟨rfl, fun H2 hs => same_t hs.1 h1⟩⟩
    · subst e
      have h : Is K F m _ v := h
      simp only [Is] at h
      obtain ⟨a, vs, rfl, h1, h2⟩ := h
      exact ⟨F, a, vs, st, g, Same.refl _, rfl, h2, .inl ⟨rfl, fun H2 hs => .of (hs.1 _ _ h1)⟩⟩
    · subst e
      have h : Is K F m _ v := h
      simp only [Is] at h
      obtain ⟨a, vs, rfl, h1, h2⟩ := h
      exact ⟨F, a, vs, st, g, Same.refl _, rfl, h2, .inl ⟨rfl, fun H2 hs => same_l hs.1 h1⟩⟩
  | fr z =>
    simp [Rv.seqB, Rv.seq] at e; subst e
    obtain ⟨p, us, rfl, h3, h1, h2, h0, h4⟩ := h
    exact ⟨upd F p (.lst us), p, us, st.frz h3 h1 h0, g.frz h3 h1 h2, same_new h1, rfl, IsA.mono (same_new h1) ⟨[], by simp⟩ _ _ h4, .inl ⟨rfl, fun H2 hs => .of (hs.1 _ _ upd_same)⟩⟩
  | rd z =>
    simp only [Rv.seqB] at e
    split at e
    · cases e
    rename_i hb
    simp only [Option.some.injEq] at e; subst e
    obtain ⟨p, us, rfl, h3, h1, h2, h4⟩ := h
    exact ⟨F, p, us, st, g, Same.refl _, rfl, h4, .inl ⟨rfl, fun H2 hs => .of (hs.2 (by simpa using hb) p _ h3 h2)⟩⟩

/-! ### walks -/
theorem wk_at {J : It} {Gd : Hp → Prop} (w : Walk J vs.length Gd (YAt vs)) (hi : IsA K F' m' ds vs) (hg : ∀ H2, Stay b F' m' H' H2 → Gd H2) : Wk K cl b ds F' m' H' J := by
  refine ⟨Gd, YAt vs, by rw [hi.len]; exact w, hg, fun F2 m2 S2 H2 i x H3 hs hp g2 hl hy => ?_⟩
  obtain ⟨rfl, h1⟩ := hy
  have hd : ds[i]? = some ds[i] := by simp [hl]
  obtain ⟨w, h2, h3⟩ := hi.get hd
  rw [h1] at h2; cases h2
  exact ⟨ds[i], F2, hd, Stp.refl, g2, Is.mono hs hp _ _ h3⟩
theorem wk_pair {J : It} {Gd : Hp → Prop} {xs ys : Nat → Option V} {n : Nat} (w : Walk J n Gd (YPair xs ys)) (hn : ds.length = n) (hg : ∀ H2, Stay b F' m' H' H2 → Gd H2)
    (hi : ∀ i, i < n → ∃ d1 d2, ds[i]? = some (.tup [d1, d2]) ∧ (∀ v, xs i = some v → Is K F' m' d1 v) ∧ (∀ v, ys i = some v → Is K F' m' d2 v)) : Wk K cl b ds F' m' H' J := by
  refine ⟨Gd, YPair xs ys, by rw [hn]; exact w, hg, fun F2 m2 S2 H2 i x H3 hs hp g2 hl hy => ?_⟩
  obtain ⟨T, u, w, rfl, h1, rfl, h2, h3⟩ := hy
  obtain ⟨d1, d2, e, q1, q2⟩ := hi i (by omega)
  refine ⟨_, upd F2 T (.tup [u, w]), e, Stp.new g2.sub h1, g2.new h1, ?_⟩
  have sm : Same F2 (upd F2 T (.tup [u, w])) := (Stp.new (m := m2) (o := .tup [u, w]) g2.sub h1).sub
  simp only [Is]
  refine ⟨T, [u, w], rfl, .of upd_same, ?_⟩
  simp only [IsA]
  exact ⟨u, [w], rfl, Is.mono (hs.trans sm) hp _ _ (q1 u h2), w, [], rfl, Is.mono (hs.trans sm) hp _ _ (q2 w h3), rfl⟩
theorem walk_zipT {a b : Addr} {xs ys : List V} {n : Nat} (hn : n = min xs.length ys.length) : Walk (RZ.ItzT K a b) n (fun H => SqT K H a xs ∧ SqT K H b ys) (YPair (fun i => xs[i]?) (fun i => ys[i]?)) := by
  subst hn
  refine ⟨fun i _ hi q => ?_, fun _ q => ⟨xs, ys, q.1, q.2, by omega⟩, fun i H v H' _ q y => ?_⟩
  · have h1 : i < xs.length := by omega
    have h2 : i < ys.length := by omega
    exact ⟨xs, ys, xs[i], ys[i], q.1, q.2, by simp [h1], by simp [h2]⟩
  · obtain ⟨T, x, z, h1, h2, h3, h4, h5⟩ := y
    exact ⟨T, x, z, h1, h2, h3, h4 xs q.1, h5 ys q.2⟩
theorem wk_range {lo : Int} {n : Nat} : Wk K cl b ((List.range n).map fun k : Nat => D.int (lo + (k : Int))) F' m' H' (Itr lo n) := by
  refine ⟨_, _, by simpa using (walk_range (lo := lo) (n := n)), fun _ _ => True.intro, fun F2 m2 S2 H2 i x H3 hs hp g2 hl hy => ?_⟩
  obtain ⟨rfl, rfl⟩ := hy
  have hl' : i < n := by simpa using hl
  exact ⟨_, F2, by simp [hl'], Stp.refl, g2, is_int.mpr rfl⟩

/-! ### iterables -/
theorem stay_refl (gg : G K cl F m S H) : Stay b F m H H := ⟨gg.sub, fun _ a o h _ => h⟩
theorem sndi_seq (se : SndE X c cl e ce) : SndI X c cl tg b e (.seq ce) := by
  intro τ S ds S' he F m σ H gg ev R q
  simp only [evI] at he
  split at he
  rotate_left
  · cases he
  rename_i x S1 ex
  split at he
  rotate_left
  · cases he
  rename_i ds' ed
  cases he
  cases ht : x.isT with
  | false =>
    refine si_of (pi_list pe_se) (se τ S x _ ex F m σ H gg ev _ fun F1 m1 H1 v st g1 r1 => ?_)
    obtain ⟨F2, a, vs, st2, g2, sm, rfl, hi, hh⟩ := seqB_ok st g1 r1 ed
    rcases hh with ⟨_, hh⟩ | ⟨h2, _⟩
    · exact ⟨a, rfl, ⟨vs, hh _ (stay_refl g2)⟩, q F2 m1 H1 _ st2 g2 (wk_at walk_list hi hh)⟩
    · rw [ht] at h2; cases h2
  | true =>
    refine si_of (pi_tup pe_se) (se τ S x _ ex F m σ H gg ev _ fun F1 m1 H1 v st g1 r1 => ?_)
    obtain ⟨F2, a, vs, st2, g2, sm, rfl, hi, hh⟩ := seqB_ok st g1 r1 ed
    rcases hh with ⟨h2, _⟩ | ⟨_, hh⟩
    · rw [ht] at h2; cases h2
    · exact ⟨a, rfl, ⟨vs, hh _ (stay_refl g2)⟩, q F2 m1 H1 _ st2 g2 (wk_at walk_tup hi hh)⟩
theorem sndi_rng1 {p pos : Pos} (k : Kn c cl g X) (hb : g.isBi "range" = true) (hs : isStar a = false) (sa : SndE X c cl a ca) : SndI X c cl tg b (.Call (.Name "range" p) [a] [] pos) (.rng1 ca) := by
  intro τ S ds S' he F m σ H gg ev R q
  obtain ⟨hg, hm, hd, hn⟩ := bi_ok k hb
  simp only [evI] at he
  split at he
  rotate_left
  · cases he
  rename_i j S1 ex
  split at he
  rotate_left
  · cases he
  rename_i hj
  cases he
  refine si_of (pi_range1 hg hm (pa_cons pe_se pa_nil (star_cons hs)) (star_cons hs)) (sa τ S _ _ ex F m σ H gg ev _ fun F1 m1 H1 v st g1 r1 => ?_)
  rw [rvi_int r1]
  refine ⟨j, rfl, hj.1, hj.2, q F1 m1 H1 _ st g1 ?_⟩
  have := wk_range (K := X.K) (cl := cl) (b := b) (F' := F1) (m' := m1) (H' := H1) (lo := 0) (n := j.toNat)
  simpa using this
theorem sndi_rng2 {a2 : Expr} {p pos : Pos} (k : Kn c cl g X) (hb : g.isBi "range" = true) (hs : isStar a = false) (hs2 : isStar a2 = false) (sa : SndE X c cl a ca) (sb : SndE X c cl a2 cb) : SndI X c cl tg b (.Call (.Name "range" p) [a, a2] [] pos) (.rng2 ca cb) := by
  intro τ S ds S' he F m σ H gg ev R q
  obtain ⟨hg, hm, hd, hn⟩ := bi_ok k hb
  simp only [evI] at he
  split at he
  rotate_left
  · cases he
  rename_i i S1 ex
  split at he
  rotate_left
  · cases he
  rename_i j S2 ey
  split at he
  rotate_left
  · cases he
  rename_i hj
  cases he
  have e2 : starEach [a2] X.env = [(false, eval a2 X.env)] := star_cons hs2
  refine si_of (pi_range2 hg hm (pa_cons pe_se (pa_cons pe_se pa_nil (star_cons hs2)) (star_cons hs)) (by rw [star_cons hs, e2]) e2) (two sa sb ex ey gg ev fun F1 m1 H1 v w st g1 r1 r2 => ?_)
  rw [rvi_int r1, rvi_int r2]
  exact ⟨i, j, rfl, ⟨hj.1.1, hj.1.2, hj.2.1, hj.2.2⟩, q F1 m1 H1 _ st g1 wk_range⟩
theorem sndi_enum {elts : List Expr} {kk : Nat} {tpos p pos : Pos} (k : Kn c cl g X) (hb : g.isBi "enumerate" = true) (hs : isStar a = false) (sa : SndE X c cl a ca) : SndI X c cl (.Tuple elts kk tpos) b (.Call (.Name "enumerate" p) [a] [] pos) (.enum ca) := by
  intro τ S ds S' he F m σ H gg ev R q
  obtain ⟨hg, hm, hd, hn⟩ := bi_ok k hb
  simp only [evI] at he
  split at he
  rotate_left
  · cases he
  rename_i x S1 ex
  split at he
  rotate_left
  · cases he
  rename_i xs ed
  cases he
  refine si_of (pi_enumA hg hm (pa_cons pe_se pa_nil (star_cons hs)) (star_cons hs)) (sa τ S _ _ ex F m σ H gg ev _ fun F1 m1 H1 v st g1 r1 => ?_)
  obtain ⟨F2, p, vs, st2, g2, sm, rfl, hi, hh⟩ := seqB_ok st g1 r1 ed
  have hp : ∀ i, i < vs.length → ∃ d1 d2, (xs.mapIdx fun (k : Nat) d => D.tup [.int (k : Int), d])[i]? = some (.tup [d1, d2]) ∧ (∀ v, some (V.int (i : Nat)) = some v → Is X.K F2 m1 d1 v) ∧ (∀ v, vs[i]? = some v → Is X.K F2 m1 d2 v) := by
    intro i hl
    have hd : xs[i]? = some (xs[i]'(by rw [hi.len]; exact hl)) := by simp [hi.len, hl]
    obtain ⟨w, h2, h3⟩ := hi.get hd
    refine ⟨.int i, _, by rw [List.getElem?_mapIdx, hd]; rfl, fun v e => by cases e; exact is_int.mpr rfl, fun v e => ?_⟩
    rw [h2] at e; cases e; exact h3
  refine ⟨p, vs, rfl, ?_⟩
  rcases hh with ⟨_, hh⟩ | ⟨_, hh⟩
  · exact .inl ⟨hh _ (stay_refl g2), q F2 m1 H1 _ st2 g2 (wk_pair walk_enum (by simp [hi.len]) hh hp)⟩
  · exact .inr ⟨hh _ (stay_refl g2), q F2 m1 H1 _ st2 g2 (wk_pair walk_enumT (by simp [hi.len]) hh hp)⟩
theorem stay_step {F2 H2 : Hp} {m2 : List Addr} {H3 : Hp} (st : Stp F m H F2 m2 H2) (h : Stay b F2 m2 H2 H3) : Stay b F m H H3 :=
  ⟨st.sub.trans h.1, fun e a o ha hn => h.2 e a o (st.keep a o ha hn) fun z => (st.newm a z).elim hn fun q => by rw [q] at ha; cases ha⟩
theorem stay_frz {F2 : Hp} {H3 : Hp} (sm : Same F F2) (h : Stay b F2 m H H3) : Stay b F m H H3 := ⟨sm.trans h.1, h.2⟩
theorem sndi_zip {a2 : Expr} {elts : List Expr} {kk : Nat} {tpos p pos : Pos} (k : Kn c cl g X) (hb : g.isBi "zip" = true) (hs : isStar a = false) (hs2 : isStar a2 = false) (sa : SndE X c cl a ca) (sb : SndE X c cl a2 cb) :
    SndI X c cl (.Tuple elts kk tpos) b (.Call (.Name "zip" p) [a, a2] [] pos) (.zip ca cb) := by
  intro τ S ds S' he F m σ H gg ev R q
  obtain ⟨hg, hm, hd, hn⟩ := bi_ok k hb
  simp only [evI] at he
  split at he
  rotate_left
  · cases he
  rename_i x S1 ex
  split at he
  rotate_left
  · cases he
  rename_i y S2 ey
  split at he
  rotate_left
  · cases he
  rename_i xs ys ed1 ed2
  split at he
  rotate_left
  · cases he
  rename_i hl
  cases he
  obtain ⟨hl, ht⟩ := hl
  have h2 : (backTo pos (starEach [a2] X.env)).any (·.1) = false := star_none (by simpa using hs2)
  refine si_of (RZ.pi_zipA hg hm (pa_cons pe_se (pa_cons pe_se pa_nil (star_cons hs2)) (star_cons hs)) (star_cons hs) h2) ?_
  refine sa τ S x S1 ex F m σ H gg ev _ fun F1 m1 H1 v st1 g1 r1 => ?_
  obtain ⟨F1', p1, vs1, st1', g1', sm1, rfl, i1, h1⟩ := seqB_ok st1 g1 r1 ed1
  refine sb τ S1 y _ ey F1' m1 σ H1 g1' (ev.step st1') _ fun F2 m2 H2 w st2 g2 r2 => ?_
  obtain ⟨F2', p2, vs2, st2', g2', sm2, rfl, i2, h3⟩ := seqB_ok st2 g2 r2 ed2
  have i1' := st2'.isA i1
  have el : vs1.length = vs2.length := by rw [← i1.len, ← i2.len]; exact hl
  have hp : ∀ i, i < vs1.length → ∃ d1 d2, (List.zipWith (fun u v => D.tup [u, v]) xs ys)[i]? = some (.tup [d1, d2]) ∧ (∀ v, vs1[i]? = some v → Is X.K F2' m2 d1 v) ∧ (∀ v, vs2[i]? = some v → Is X.K F2' m2 d2 v) := by
    intro i hli
    have hx : xs[i]? = some (xs[i]'(by rw [i1.len]; exact hli)) := by simp [i1.len, hli]
    have hy : ys[i]? = some (ys[i]'(by rw [← hl, i1.len]; exact hli)) := by simp [← hl, i1.len, hli]
    obtain ⟨w1, q1, q2⟩ := i1'.get hx
    obtain ⟨w2, q3, q4⟩ := i2.get hy
    refine ⟨_, _, by rw [List.getElem?_zipWith, hx, hy], fun v e => ?_, fun v e => ?_⟩
    · rw [q1] at e; cases e; exact q2
    · rw [q3] at e; cases e; exact q4
  have hn1 : (List.zipWith (fun u v => D.tup [u, v]) xs ys).length = vs1.length := by simp [i1.len, ← hl]
  have hmin : vs1.length = min vs1.length vs2.length := by omega
  refine ⟨p1, p2, vs1, vs2, rfl, ?_⟩
  rcases h1 with ⟨t1, h1⟩ | ⟨t1, h1⟩
  · rcases h3 with ⟨t2, h3⟩ | ⟨t2, h3⟩
    · refine .inl ⟨h1 _ (stay_step st2' (stay_refl g2')), h3 _ (stay_refl g2'), q F2' m2 H2 _ (st1'.trans st2') g2' ?_⟩
      exact wk_pair (walk_zip hmin) hn1 (fun H3 hs3 => ⟨h1 _ (stay_step st2' hs3), h3 _ hs3⟩) hp
    · rw [t1, t2] at ht; cases ht
  · rcases h3 with ⟨t2, h3⟩ | ⟨t2, h3⟩
    · rw [t1, t2] at ht; cases ht
    · refine .inr ⟨h1 _ (stay_step st2' (stay_refl g2')), h3 _ (stay_refl g2'), q F2' m2 H2 _ (st1'.trans st2') g2' ?_⟩
      exact wk_pair (walk_zipT hmin) hn1 (fun H3 hs3 => ⟨h1 _ (stay_step st2' hs3), h3 _ hs3⟩) hp

/-! ### targets -/
def SG (X : Cx) (tg : Expr) : TG := fun v σ H Q => ∀ pins s u, Inv X pins σ H s → RelV v u → wpAny (model X.prog X.w) X.A (assign tg X.env u) (fun _ s' => ∃ σ' H', Inv X pins σ' H' s' ∧ Q σ' H') X.xe s
theorem pg_sg : PG X tg (SG X tg) := ⟨fun pins s _ _ _ u _ I r h => h pins s u I r⟩
theorem sg_of {t : TG} (h : PG X tg t) {Q : L2.St → Hp → Prop} (q : t v σ H Q) : SG X tg v σ H Q := fun pins s u I r => h.run pins s σ H v u Q I r q
/-- own lists are younger than H0 -/
def Own (H0 : Hp) (τ : Env) (σ : L2.St) : Prop := ∀ (i : Nat) (p : Addr), isOwn τ[i]? = true → σ[i]? = some (some (.ref p)) → H0 p = none
theorem isOwn_set {i j : Nat} {d : D} (h : isOwn (τ.set i (.val d))[j]? = true) : j ≠ i ∧ isOwn τ[j]? = true := by
  by_cases e : i = j
  · subst e
    rw [List.getElem?_set] at h
    split at h
    · split at h <;> cases h
    · exact absurd rfl ‹_›
  · rw [List.getElem?_set_ne e] at h
    exact ⟨Ne.symm e, h⟩
theorem EnvOk.setVal {i : Nat} (ev : EnvOk K F m τ σ H) (hv : Is K F m d v) : EnvOk K F m (τ.set i (.val d)) (σ.set i (some v)) H := by
  refine ⟨by simp [ev.len], fun j s e => ?_, fun j k p hne h1 h2 e1 e2 => ?_⟩
  · by_cases hj : i = j
    · subst hj
      rw [List.getElem?_set] at e
      simp only [if_true] at e
      split at e
      · cases e
        rename_i hl
        have hl2 : i < σ.length := by rw [← ev.len]; exact hl
        exact ⟨v, by rw [List.getElem?_set]; simp [hl2], hv⟩
      · cases e
    · rw [List.getElem?_set_ne hj] at e ⊢
      exact ev.sl j s e
  · obtain ⟨n1, o1⟩ := isOwn_set h1
    obtain ⟨n2, o2⟩ := isOwn_set h2
    rw [List.getElem?_set_ne (Ne.symm n1)] at e1
    rw [List.getElem?_set_ne (Ne.symm n2)] at e2
    exact ev.apart j k p hne o1 o2 e1 e2
theorem Own.setVal {i : Nat} {o : Option V} (ho : Own H0 τ σ) : Own H0 (τ.set i (.val d)) (σ.set i o) := fun j p h e => by
  obtain ⟨n1, o1⟩ := isOwn_set h
  rw [List.getElem?_set_ne (Ne.symm n1)] at e
  exact ho j p o1 e
/-- wiped slots -/
theorem wipe_get : ∀ {vs : List Nat} {σ : St} {i : Nat}, (wipe σ vs)[i]? = if i ∈ vs then σ[i]?.map (fun _ => Option.none) else σ[i]?
  | [], σ, i => by simp [wipe]
  | v :: vs, σ, i => by
    unfold wipe
    rw [List.getElem?_set, wipe_length]
    by_cases h : v = i
    · subst h
      simp only [if_true, List.mem_cons, true_or]
      by_cases hl : v < σ.length <;> simp [hl]
    · rw [if_neg h, wipe_get]
      have : i ≠ v := fun e => h e.symm
      simp [this]
theorem wipe_set {vs : List Nat} {i : Nat} {o : Option V} (h : i ∈ vs) : wipe (σ.set i o) vs = wipe σ vs := by
  apply List.ext_getElem?
  intro j
  rw [wipe_get, wipe_get, List.getElem?_set]
  by_cases hj : i = j
  · subst hj
    simp only [h, if_true]
    by_cases hl : i < σ.length <;> simp [hl]
  · rw [if_neg hj]
theorem wipe_idem {vs : List Nat} : wipe (wipe σ vs) vs = wipe σ vs := by
  apply List.ext_getElem?
  intro j
  rw [wipe_get, wipe_get]
  split
  · cases σ[j]? <;> rfl
  · rfl
theorem wipeE_get : ∀ {vs : List Nat} {τ : Env} {i : Nat}, (wipeE τ vs)[i]? = if i ∈ vs then τ[i]?.map (fun _ => Slot.non) else τ[i]?
  | [], τ, i => by simp [wipeE]
  | v :: vs, τ, i => by
    have hl0 : ∀ (vs : List Nat), (wipeE τ vs).length = τ.length := by
      intro vs
      induction vs with
      | nil => rfl
      | cons a b ih => unfold wipeE; rw [List.length_set, ih]
    unfold wipeE
    rw [List.getElem?_set, hl0]
    by_cases h : v = i
    · subst h
      simp only [if_true, List.mem_cons, true_or]
      by_cases hl : v < τ.length <;> simp [hl]
    · rw [if_neg h, wipeE_get]
      have : i ≠ v := fun e => h e.symm
      simp [this]
theorem wipeE_len : ∀ {vs : List Nat}, (wipeE τ vs).length = τ.length
  | [] => rfl
  | v :: vs => by unfold wipeE; rw [List.length_set, wipeE_len]
theorem EnvOk.wipe {vs : List Nat} (ev : EnvOk K F m τ σ H) : EnvOk K F m (wipeE τ vs) (L2.wipe σ vs) H := by
  have own : ∀ {i}, isOwn (wipeE τ vs)[i]? = true → i ∉ vs ∧ isOwn τ[i]? = true := fun {i} h => by
    rw [wipeE_get] at h
    split at h
    · cases q : τ[i]? <;> rw [q] at h <;> cases h
    · exact ⟨‹_›, h⟩
  refine ⟨by rw [wipeE_len, wipe_length]; exact ev.len, fun j s e => ?_, fun j k p hne h1 h2 e1 e2 => ?_⟩
  · rw [wipeE_get] at e
    rw [wipe_get]
    split at e
    · cases q : τ[j]? <;> rw [q] at e <;> cases e
      exact True.intro
    · rename_i hj
      rw [if_neg hj]
      exact ev.sl j s e
  · obtain ⟨n1, o1⟩ := own h1
    obtain ⟨n2, o2⟩ := own h2
    rw [wipe_get, if_neg n1] at e1
    rw [wipe_get, if_neg n2] at e2
    exact ev.apart j k p hne o1 o2 e1 e2

def SndP (X : Cx) (cl : List Addr) (tg : Expr) (p : Pat) : Prop := ∀ d τ τ', p.asg d τ = some τ' → ∀ F m S σ H v, G X.K cl F m S H → EnvOk X.K F m τ σ H → Is X.K F m d v →
  ∀ Q : L2.St → Hp → Prop, (∀ σ', EnvOk X.K F m τ' σ' H → (∀ H0, Own H0 τ σ → Own H0 τ' σ') → (∀ ws, (∀ i ∈ p.slots, i ∈ ws) → wipe σ' ws = wipe σ ws) → Q σ' H) → SG X tg v σ H Q
def SndPs (X : Cx) (cl : List Addr) (es : List Expr) (p : Pat) : Prop := ∃ t : TGs, PGs X es t ∧ ∀ ds τ τ', p.asg (.tup ds) τ = some τ' → ds.length = es.length ∧ ∀ F m S σ H vs, G X.K cl F m S H → EnvOk X.K F m τ σ H → IsA X.K F m ds vs →
  ∀ Q : L2.St → Hp → Prop, (∀ σ', EnvOk X.K F m τ' σ' H → (∀ H0, Own H0 τ σ → Own H0 τ' σ') → (∀ ws, (∀ i ∈ p.slots, i ∈ ws) → wipe σ' ws = wipe σ ws) → Q σ' H) → t vs σ H Q
theorem asg_cons {e : Expr} {es : List Expr} {env : PySem.Env} (h : isStar e = false) : assignEach (e :: es) env = (false, assign e env) :: assignEach es env := by
  cases e <;> first | rfl | (simp [isStar] at h)
theorem asg_len {env : PySem.Env} : ∀ {es : List Expr}, (∀ e ∈ es, isStar e = false) → (assignEach es env).length = es.length ∧ (assignEach es env).findIdx? (·.1) = none
  | [], _ => ⟨rfl, rfl⟩
  | e :: es, h => by
    obtain ⟨h1, h2⟩ := asg_len (env := env) (es := es) fun e' he => h e' (by simp [he])
    rw [asg_cons (h e (by simp))]
    exact ⟨by simp [h1], by simp [List.findIdx?_cons, h2]⟩
theorem patOf_snd (k : Kn c cl g X) : ∀ n, (∀ e p, patOf g n e = some p → isStar e = false ∧ SndP X cl e p) ∧ (∀ es p, patOf.go g n es = some p → (∀ e ∈ es, isStar e = false) ∧ SndPs X cl es p)
  | 0 => ⟨fun e p h => (by have h : (none : Option Pat) = some p := h; cases h), fun es p h => (by have h : (none : Option Pat) = some p := h; cases h)⟩
  | n + 1 => by
    obtain ⟨ih1, ih2⟩ := patOf_snd k n
    refine ⟨fun e p h => ?_, fun es p h => ?_⟩
    · unfold patOf at h
      split at h
      · rename_i x pos
        simp only [Option.map_eq_some_iff] at h
        obtain ⟨i, hi, rfl⟩ := h
        obtain ⟨h1, h2, h3⟩ := stor_ok k hi
        refine ⟨rfl, fun d τ τ' ha F m S σ H v gg ev hv Q q => ?_⟩
        simp only [Pat.asg, Option.some.injEq] at ha
        subst ha
        exact sg_of (pg_name k.nd h1 h2 h3) (q _ (ev.setVal hv) (fun H0 ho => ho.setVal) fun ws hw => wipe_set (hw i (by simp [Pat.slots])))
      · rename_i es kk pos
        obtain ⟨h1, t, h2, h3⟩ := ih2 es p h
        refine ⟨rfl, fun d τ τ' ha F m S σ H v gg ev hv Q q => ?_⟩
        obtain ⟨l1, l2⟩ := asg_len (env := X.env) h1
        have hd : ∃ ds, d = .tup ds := by
          cases p with
          | nm i =>
            exfalso
            cases n with
            | zero => have h : (none : Option Pat) = _ := h; cases h
            | succ n =>
              cases es with
              | nil => have h : some Pat.tnil = _ := h; cases h
              | cons e es =>
                have h : (if isStar e = true then none else match patOf g n e, patOf.go g n es with | some p, some r => some (Pat.tcons p r) | _, _ => none) = some (Pat.nm i) := h
                split at h
                · cases h
                · split at h <;> cases h
          | tnil => cases d <;> first | exact ⟨_, rfl⟩ | cases ha
          | tcons p r => cases d <;> first | exact ⟨_, rfl⟩ | cases ha
        obtain ⟨ds, rfl⟩ := hd
        obtain ⟨l3, h4⟩ := h3 ds τ τ' ha
        simp only [Is] at hv
        obtain ⟨a, vs, rfl, hq, hi⟩ := hv
        refine sg_of (pg_tup k.calm h2 rfl l2) ⟨a, vs, rfl, same_t gg.sub hq, by rw [l1, ← l3, hi.len], h4 F m S σ H vs gg ev hi Q q⟩
      · cases h
    · cases es with
      | nil =>
        have h : some Pat.tnil = some p := h
        cases h
        refine ⟨by simp, gNil, pgs_nil, fun ds τ τ' ha => ?_⟩
        cases ds with
        | cons _ _ => simp [Pat.asg] at ha
        | nil =>
          simp only [Pat.asg, Option.some.injEq] at ha
          subst ha
          refine ⟨rfl, fun F m S σ H vs gg ev hi Q q => ?_⟩
          simp only [IsA] at hi
          exact ⟨hi, q σ ev (fun _ h => h) fun _ _ => rfl⟩
      | cons e es =>
        have h : (if isStar e = true then none else match patOf g n e, patOf.go g n es with | some p, some r => some (Pat.tcons p r) | _, _ => none) = some p := h
        split at h
        · cases h
        rename_i hst
        split at h
        · rename_i p1 p2 e1 e2
          cases h
          obtain ⟨s1, h1⟩ := ih1 e p1 e1
          obtain ⟨s2, t, h2, h3⟩ := ih2 es p2 e2
          refine ⟨fun e' he => ?_, gCons (SG X e) t, pgs_cons pg_sg h2 (by rw [asg_cons s1]; rfl), fun ds τ τ' ha => ?_⟩
          · rcases List.mem_cons.mp he with rfl | he
            · exact s1
            · exact s2 e' he
          cases ds with
          | nil => simp [Pat.asg] at ha
          | cons d ds =>
            simp only [Pat.asg] at ha
            split at ha
            · rename_i τ1 ha1
              obtain ⟨l3, h4⟩ := h3 ds τ1 τ' ha
              refine ⟨by simp [l3], fun F m S σ H vs gg ev hi Q q => ?_⟩
              simp only [IsA] at hi
              obtain ⟨v, us, rfl, i1, i2⟩ := hi
              refine ⟨v, us, rfl, h1 d τ τ1 ha1 F m S σ H v gg ev i1 _ fun σ1 ev1 ow1 wp1 => ?_⟩
              refine h4 F m S σ1 H us gg ev1 i2 Q fun σ2 ev2 ow2 wp2 => q σ2 ev2 (fun H0 h => ow2 H0 (ow1 H0 h)) fun ws hw => ?_
              rw [wp2 ws fun i hi => hw i (by simp [Pat.slots, hi]), wp1 ws fun i hi => hw i (by simp [Pat.slots, hi])]
            · cases ha
        · cases h
end
end Co
end

section
set_option maxHeartbeats 0
set_option Elab.async false
set_option linter.all false
set_option maxRecDepth 100000
/-! Co9: list comprehensions; every expression that coE takes. -/
namespace Co
open PySem L2
section
variable {X : Cx} {c : Ctx} {cl : List Addr} {g : Gm} {a e tg it elt : Expr} {ca cb ce : CE} {ci : CI} {ct : CT} {τ : Env} {S S' S1 S2 S3 : Store} {F F' H' H0 F0 F1 H1 : Hp} {m m' m0 m1 : List Addr} {σ : St} {H : Hp} {x y r : Rv} {d : D} {ds es : List D} {b : Bool} {K : PySem.W.Frag} {v : V} {vs ws : List V}

theorem Stp.updNew {p : Addr} {o : HO} (st : Stp F0 m0 H0 F m H) (h0 : H0 p = Option.none) : Stp F0 m0 H0 F m (upd H p o) := by
  refine ⟨st.sub, st.pre, fun a u h hn => ?_, st.nof, st.newm, fun a h => ?_⟩
  · rw [upd_ne (fun z => by rw [z, h0] at h; cases h)]; exact st.keep a u h hn
  · by_cases e : a = p
    · subst e; rw [upd_same]; exact fun z => nomatch z
    · rw [upd_ne e]; exact st.stay a h
theorem G.updOwn {p : Addr} {o : HO} (gg : G K cl F m S H) (hp : p ∉ m) (fp : F p = none) (hq : ∀ a, H p ≠ some (.own a)) : G K cl F m S (upd H p o) := by
  refine ⟨fun a u h => ?_, gg.len, gg.nd, fun i a o' h1 h2 => ?_⟩
  · rw [upd_ne (fun z => by rw [z, fp] at h; cases h)]; exact gg.sub a u h
  · obtain ⟨q1, q2⟩ := gg.ob i a o' h1 h2
    have hne : a ≠ p := fun z => hp (z ▸ List.mem_of_getElem? h1)
    exact ⟨q1, q2.keep (Same.refl _) (upd_ne hne) fun dx h => by rw [upd_ne (fun z : dx = p => hq a (by rw [← z]; exact h))]; exact h⟩

/-! ### a comprehension's block -/
theorem kn_blk {s : Scope} (k : Kn c cl g X) (ok : s.kind = .function) (s0 : Shared) (H0 : Hp) (C : Addr) (cl' : List (Str × Addr)) (fp : List Addr) : Kn c cl (g.blk s) (X.blk s0 H0 s (compEnvC s cl' C X.env) fp) where
  N := k.N
  nd := k.nd
  sc := by show relS s X.env.scope = relS s g.sc; rw [k.sc]
  kd := ok
  calm := k.calm
  fnc := fun x h => by show (s.names.lookup x == some .cell) = true; rw [h s rfl]; rfl
  free := k.free
  glob := k.glob
  fn := k.fn
  cls := k.cls
  mkc := k.mkc
  atr := k.atr
  clsOk := k.clsOk
  eqn := k.eqn
  gcd := k.gcd
  hu := k.hu
def bG (X : Cx) (s : Scope) (tg : Expr) : TG := fun v σ H Q => ∀ (s0 : Shared) (H0 : Hp) (C : Addr) (cl' : List (Str × Addr)) (fp : List Addr), SG (X.blk s0 H0 s (compEnvC s cl' C X.env) fp) tg v σ H Q
def bT (X : Cx) (s : Scope) (t : Expr) : TT := fun σ H Q => ∀ (s0 : Shared) (H0 : Hp) (C : Addr) (cl' : List (Str × Addr)) (fp : List Addr), ST (X.blk s0 H0 s (compEnvC s cl' C X.env) fp) t σ H Q
def bE (X : Cx) (s : Scope) (t : Expr) : TE := fun σ H Q => ∀ (s0 : Shared) (H0 : Hp) (C : Addr) (cl' : List (Str × Addr)) (fp : List Addr), SE (X.blk s0 H0 s (compEnvC s cl' C X.env) fp) t σ H Q
/-- one turn -/
def lcF (c : Ctx) (p : Pat) (vs : List Nat) (t : CT) (e : CE) (σ : Env) : D → Store → Option (Option D × Store) := fun d S => match p.asg d (wipeE σ vs) with
  | some σ' => match evT c t σ' S with
    | some (true, S2) => match evE c e σ' S2 with
      | some (r, S3) => match r.d with | some x => some (some x, S3) | none => none
      | none => none
    | some (false, S2) => some (none, S2)
    | none => none
  | none => none
/-- the comprehension's walk, as a reading -/
theorem lc_snd {s : Scope} {p : Pat} {tt : TT} (k : Kn c cl g X) (ok : s.kind = .function) (hp : patOf (g.blk s) 8 tg = some p) (hi : SndI X c cl tg false it ci)
    (he : ∀ (s0 : Shared) (H0 : Hp) (C : Addr) (cl' : List (Str × Addr)) (fp : List Addr), SndE (X.blk s0 H0 s (compEnvC s cl' C X.env) fp) c cl elt ce)
    (htt : ∀ τ S b S', evT c ct τ S = some (b, S') → ∀ F m σ H, G X.K cl F m S H → EnvOk X.K F m τ σ H → ∀ Q : Bool → Hp → Prop, (∀ F' m' H', Stp F m H F' m' H' → G X.K cl F' m' S' H' → Q b H') → tt σ H Q)
    (hev : evE c (.lc p p.slots ci ct ce) τ S = some (r, S')) (gg : G X.K cl F m S H) (ev : EnvOk X.K F m τ σ H) (Q : VK) (q : ∀ F' m' H' v, Stp F m H F' m' H' → G X.K cl F' m' S' H' → RvOk X.K H F' m' H' r v → Q v H') :
    tLc (SI X tg it) (bG X s tg) tt (bE X s elt) p.slots σ H Q := by
  simp only [evE] at hev
  split at hev
  rotate_left
  · cases hev
  rename_i ds S1 ei
  split at hev
  rotate_left
  · cases hev
  rename_i rs S2 el
  cases hev
  have el : lcGo (lcF c p p.slots ct ce τ) ds [] S1 = some (rs, S') := el
  refine hi τ S ds S1 ei F m σ H gg ev _ fun F1 m1 H1 J st g1 wk D hD => ?_
  obtain ⟨Gd, Y, w, hgd, hy⟩ := wk
  have f1D : F1 D = none := by
    cases h : F1 D with
    | none => rfl
    | some u => rw [g1.sub D u h] at hD; cases hD
  refine lc_it w (fun i H2 => ∃ F2 m2 S2 acc avs, Stp F1 m1 H1 F2 m2 H2 ∧ G X.K cl F2 m2 S2 H2 ∧ H2 D = some (.lst avs) ∧ F2 D = none ∧ D ∉ m2 ∧ IsA X.K F2 m2 acc avs ∧ lcGo (lcF c p p.slots ct ce τ) (ds.drop i) acc S2 = some (rs, S')) ?_ ?_ ?_ ?_
  · exact ⟨F1, m1, S1, [], [], Stp.lay hD, g1.lay hD, upd_same, f1D, g1.notin hD, rfl, el⟩
  · rintro i H2 _ ⟨F2, m2, S2, acc, avs, st2, g2, _⟩
    exact hgd H2 ⟨st2.sub.trans g2.sub, fun _ a o h hn => st2.keep a o h hn⟩
  · rintro i x H2 H3 hl ⟨F2, m2, S2, acc, avs, st2, g2, hD2, fD2, nD2, ia, el2⟩ hY
    obtain ⟨d, F3, hd, st3, g3, is3⟩ := hy F2 m2 S2 H2 i x H3 st2.sub st2.pre g2 hl hY
    have edrop : ds.drop i = d :: ds.drop (i + 1) := by
      have hx : ds[i]'hl = d := by rw [List.getElem?_eq_getElem hl] at hd; exact Option.some.inj hd
      rw [← hx]; exact List.drop_eq_getElem_cons hl
    rw [edrop] at el2
    simp only [lcGo] at el2
    have ev3 : EnvOk X.K F3 m2 (wipeE τ p.slots) (wipe σ p.slots) H3 := (((ev.step st).step st2).step st3).wipe
    cases eF : lcF c p p.slots ct ce τ d S2 with
    | none => rw [eF] at el2; cases el2
    | some o =>
      rw [eF] at el2
      unfold lcF at eF
      split at eF
      rotate_left
      · cases eF
      rename_i τ1 ea
      intro s0 H0 C cl' fp
      refine ((patOf_snd (kn_blk k ok s0 H0 C cl' fp) 8).1 tg p hp).2 d _ τ1 ea F3 m2 S2 _ H3 x g3 ev3 is3 _ fun σ2 ev2 _ wp2 => ⟨by rw [wp2 _ (fun i hi => hi), wipe_idem], ?_⟩
      split at eF
      · rename_i S3 et
        refine htt τ1 S2 true S3 et F3 m2 σ2 H3 g3 ev2 _ fun F4 m4 H4 st4 g4 => ?_
        rw [if_pos rfl]
        split at eF
        rotate_left
        · cases eF
        rename_i rx S4 ee
        split at eF
        rotate_left
        · cases eF
        rename_i dx edx
        cases eF
        simp only at el2
        split at el2
        rotate_left
        · cases el2
        rename_i hz
        intro s0 H0 C cl' fp
        refine he s0 H0 C cl' fp τ1 S3 rx S4 ee F4 m4 σ2 H4 g4 (ev2.step st4) _ fun F5 m5 H5 y st5 g5 r5 => ?_
        obtain ⟨F6, st6, g6, sm6, i6⟩ := keep_ok st5 g5 r5 edx
        have stt : Stp F2 m2 H2 F6 m5 H5 := (st3.trans st4).trans st6
        have hDne : H2 D ≠ none := by rw [hD2]; exact fun z => nomatch z
        have hD5 : H5 D = some (.lst avs) := stt.keep D _ hD2 nD2
        have fD6 : F6 D = none := stt.nof D hDne fD2
        have nD5 : D ∉ m5 := fun z => (stt.newm D z).elim nD2 hDne
        refine ⟨avs, hD5, by rw [← ia.len]; exact hz, F6, m5, S4, acc ++ [dx], avs ++ [y], (st2.trans stt).updNew hD, g6.updOwn nD5 fD6 (fun a => by rw [hD5]; exact fun z => nomatch z), upd_same, fD6, nD5, (stt.isA ia).app (.one i6), el2⟩
      · rename_i S3 et
        cases eF
        refine htt τ1 S2 false S3 et F3 m2 σ2 H3 g3 ev2 _ fun F4 m4 H4 st4 g4 => ?_
        rw [if_neg Bool.false_ne_true]
        have stt : Stp F2 m2 H2 F4 m4 H4 := st3.trans st4
        have hDne : H2 D ≠ none := by rw [hD2]; exact fun z => nomatch z
        exact ⟨F4, m4, S3, acc, avs, st2.trans stt, g4, stt.keep D _ hD2 nD2, stt.nof D hDne fD2, fun z => (stt.newm D z).elim nD2 hDne, stt.isA ia, el2⟩
      · cases eF
  · rintro H2 ⟨F2, m2, S2, acc, avs, st2, g2, hD2, fD2, nD2, ia, el2⟩
    rw [List.drop_length] at el2
    simp only [lcGo, Option.some.injEq, Prod.mk.injEq] at el2
    obtain ⟨rfl, rfl⟩ := el2
    exact q F2 m2 H2 _ (st.trans st2) g2 ⟨D, avs, rfl, hD2, fD2, nD2, st.none hD, ia⟩
end

/-! ### every expression -/
theorem coE_star {g : Gm} {n : Nat} {e : Expr} {ce : CE} (h : coE g n e = some ce) : isStar e = false := by
  cases e <;> first | rfl | (cases n <;> (have h : (none : Option CE) = some ce := h; cases h))
theorem coE_slice {g : Gm} {n : Nat} {e : Expr} {ce : CE} (h : coE g n e = some ce) : ∀ lo hi st p, e ≠ .Slice lo hi st p := by
  rintro lo hi st p rfl
  cases n <;> (have h : (none : Option CE) = some ce := h; cases h)
theorem coE_set {g : Gm} {n : Nat} {e : Expr} {ce : CE} {op : CmpOp} (h : coE g n e = some ce) : behindInMarks op e = false := by
  cases e <;> first | rfl | (cases n <;> (have h : (none : Option CE) = some ce := h; cases h))
theorem coI_set {g : Gm} {n : Nat} {t : Bool} {e : Expr} {ci : CI} {env : PySem.Env} (h : coI g n t e = some ci) : ∀ x, foldedSetIterable e env x = pure x := by
  intro x
  cases e <;> first | rfl | (cases n with
    | zero => (have h : (none : Option CI) = some ci := h; cases h)
    | succ n => cases n <;> (have h : (none : Option CI) = some ci := h; cases h))
def isBo : Expr → Bool
  | .BoolOp .. => true | _ => false
structure Snd (c : Ctx) (cl : List Addr) (n : Nat) : Prop where
  E : ∀ {g : Gm} {X : Cx} (k : Kn c cl g X) {e : Expr} {ce : CE}, coE g n e = some ce → SndE X c cl e ce
  T : ∀ {g : Gm} {X : Cx} (k : Kn c cl g X) {e : Expr} {ct : CT}, coT g n e = some ct → SndT X c cl e ct ∧ (isBo e = true → SndW X c cl e ct)
  A : ∀ {g : Gm} {X : Cx} (k : Kn c cl g X) {es : List Expr} {cs : CA}, coA g n es = some cs → (∀ e ∈ es, isStar e = false) ∧ SndL X c cl es cs
  I : ∀ {g : Gm} {X : Cx} (k : Kn c cl g X) {tg : Expr} {b : Bool} {e : Expr} {ci : CI}, coI g n (isTup tg) e = some ci → SndI X c cl tg b e ci
section
variable {c : Ctx} {cl : List Addr} {g : Gm} {X : Cx}
theorem co_A {n : Nat} (ih : Snd c cl n) (k : Kn c cl g X) {es : List Expr} {cs : CA} (h : coA g (n + 1) es = some cs) : (∀ e ∈ es, isStar e = false) ∧ SndL X c cl es cs := by
  unfold coA at h
  split at h
  · cases h
  · cases h; exact ⟨by simp, True.intro⟩
  · rename_i n' e es heq
    cases heq
    split at h
    · cases h
    rename_i hs
    split at h
    · rename_i x y e1 e2
      cases h
      obtain ⟨h1, h2⟩ := ih.A k e2
      refine ⟨fun e' he => ?_, ih.E k e1, h2⟩
      rcases List.mem_cons.mp he with rfl | he
      · simpa using hs
      · exact h1 e' he
    · cases h
theorem co_I {n : Nat} (ih : Snd c cl n) (k : Kn c cl g X) {tg : Expr} {b : Bool} {e : Expr} {ci : CI} (h : coI g (n + 1) (isTup tg) e = some ci) : SndI X c cl tg b e ci := by
  have sq : ∀ {e : Expr} {ci : CI}, (coE g n e).map .seq = some ci → SndI X c cl tg b e ci := by
    intro e ci h
    simp only [Option.map_eq_some_iff] at h
    obtain ⟨x, h1, rfl⟩ := h
    exact sndi_seq (ih.E k h1)
  have tp : isTup tg = true → ∃ es kk p, tg = .Tuple es kk p := by
    intro h; cases tg <;> first | exact ⟨_, _, _, rfl⟩ | cases h
  unfold coI at h
  split at h
  · rename_i f p args pos
    split at h
    · rename_i hc
      obtain ⟨hb, rfl⟩ := hc
      split at h
      · rename_i a
        split at h
        · cases h
        rename_i hs
        simp only [Option.map_eq_some_iff] at h
        obtain ⟨x, h1, rfl⟩ := h
        exact sndi_rng1 k hb (by simpa using hs) (ih.E k h1)
      · rename_i a a2
        split at h
        · cases h
        rename_i hs
        simp only [Bool.or_eq_true, not_or, Bool.not_eq_true] at hs
        split at h
        · rename_i x y e1 e2
          cases h
          exact sndi_rng2 k hb hs.1 hs.2 (ih.E k e1) (ih.E k e2)
        · cases h
      · cases h
    · split at h
      · rename_i hc
        obtain ⟨hb, rfl⟩ := hc
        split at h
        · rename_i a
          split at h
          · rename_i hs
            simp only [Bool.and_eq_true, Bool.not_eq_true'] at hs
            simp only [Option.map_eq_some_iff] at h
            obtain ⟨x, h1, rfl⟩ := h
            obtain ⟨es, kk, p, rfl⟩ := tp hs.1
            exact sndi_enum k hb hs.2 (ih.E k h1)
          · cases h
        · cases h
      · split at h
        · rename_i hc
          obtain ⟨hb, rfl⟩ := hc
          split at h
          · rename_i a a2
            split at h
            · rename_i hs
              simp only [Bool.and_eq_true, Bool.not_eq_true'] at hs
              split at h
              · rename_i x y e1 e2
                cases h
                obtain ⟨es, kk, p, rfl⟩ := tp hs.1.1
                exact sndi_zip k hb hs.1.2 hs.2 (ih.E k e1) (ih.E k e2)
              · cases h
            · cases h
          · cases h
        · exact sq h
  · exact sq h
theorem snd_cmpK {op : CmpOp} {a b : Expr} {ca cb : CE} {pos : Pos} (k : Kn c cl g X) (hb : behindInMarks op b = false) (sa : SndE X c cl a ca) (sb : SndE X c cl b cb) : SndE X c cl (.Compare a [op] [b] pos) (cmpK g op a b ca cb) := by
  cases op with
  | Eq =>
    unfold cmpK; simp only
    split
    · exact snd_cmpO k (.inl ⟨rfl, rfl⟩) hb sa sb
    · exact snd_cmp (op := .Eq) k hb sa sb
  | NotEq =>
    unfold cmpK; simp only
    split
    · exact snd_cmpO k (.inr ⟨rfl, rfl⟩) hb sa sb
    · exact snd_cmp (op := .NotEq) k hb sa sb
  | _ => exact snd_cmp k hb sa sb
theorem sndt_cmpK {op : CmpOp} {a b : Expr} {ca cb : CE} {pos : Pos} (k : Kn c cl g X) (hb : behindInMarks op b = false) (sa : SndE X c cl a ca) (sb : SndE X c cl b cb) : SndT X c cl (.Compare a [op] [b] pos) (.tr (cmpK g op a b ca cb)) := by
  cases op with
  | Eq =>
    unfold cmpK; simp only
    split
    · exact sndt_cmpO k (.inl ⟨rfl, rfl⟩) hb sa sb
    · exact sndt_cmp (op := .Eq) k hb sa sb
  | NotEq =>
    unfold cmpK; simp only
    split
    · exact sndt_cmpO k (.inr ⟨rfl, rfl⟩) hb sa sb
    · exact sndt_cmp (op := .NotEq) k hb sa sb
  | _ => exact sndt_cmp k hb sa sb
theorem coE_cmp {n : Nat} {a : Expr} {ops : List CmpOp} {bs : List Expr} {p : Pos} {x : CE} (h : coE g (n + 1) (.Compare a ops bs p) = some x) :
    (∃ op b ca cb, ops = [op] ∧ bs = [b] ∧ coE g n a = some ca ∧ coE g n b = some cb ∧ x = cmpK g op a b ca cb) ∨
    (∃ op op' b d ca cb cd, ops = [op, op'] ∧ bs = [b, d] ∧ coE g n a = some ca ∧ coE g n b = some cb ∧ coE g n d = some cd ∧ x = .chain (copOf op) (copOf op') ca cb cd) := by
  rcases ops with _ | ⟨op, _ | ⟨op', _ | ⟨op'', ops⟩⟩⟩ <;> rcases bs with _ | ⟨b, _ | ⟨d, _ | ⟨d', bs⟩⟩⟩
  all_goals first
    | (have h : (none : Option CE) = some x := h
       cases h
       done)
    | (have h : (match coE g n a, coE g n b with | some x, some y => some (cmpK g op a b x y) | _, _ => none) = some x := h
       split at h
       · rename_i ca cb e1 e2
         cases h
         exact .inl ⟨op, b, ca, cb, rfl, rfl, e1, e2, rfl⟩
       · cases h)
    | (have h : (match coE g n a, coE g n b, coE g n d with | some x, some y, some z => some (CE.chain (copOf op) (copOf op') x y z) | _, _, _ => none) = some x := h
       split at h
       · rename_i ca cb cd e1 e2 e3
         cases h
         exact .inr ⟨op, op', b, d, ca, cb, cd, rfl, rfl, e1, e2, e3, rfl⟩
       · cases h)
theorem co_T {n : Nat} (ih : ∀ m, m ≤ n → Snd c cl m) (k : Kn c cl g X) {e : Expr} {ct : CT} (h : coT g (n + 1) e = some ct) : SndT X c cl e ct ∧ (isBo e = true → SndW X c cl e ct) := by
  unfold coT at h
  split at h
  · rename_i op a p
    have w := sndw_one (op := op) (pos := p) ((ih n (Nat.le_refl _)).T k h).1
    exact ⟨sndt_w w, fun _ => w⟩
  · rename_i a b r p
    split at h
    · rename_i x y e1 e2
      cases h
      have w := sndw_and ((ih n (Nat.le_refl _)).T k e1).1 (((ih n (Nat.le_refl _)).T k e2).2 rfl)
      exact ⟨sndt_w w, fun _ => w⟩
    · cases h
  · rename_i a b r p
    split at h
    · rename_i x y e1 e2
      cases h
      have w := sndw_or ((ih n (Nat.le_refl _)).T k e1).1 (((ih n (Nat.le_refl _)).T k e2).2 rfl)
      exact ⟨sndt_w w, fun _ => w⟩
    · cases h
  · rename_i a p
    simp only [Option.map_eq_some_iff] at h
    obtain ⟨x, h1, rfl⟩ := h
    exact ⟨sndt_not ((ih n (Nat.le_refl _)).T k h1).1, fun z => nomatch z⟩
  · cases h
  · cases h
  · rename_i h1 h2 h3 h4 h5 h6
    simp only [Option.map_eq_some_iff] at h
    obtain ⟨x, hx, rfl⟩ := h
    have se := (ih n (Nat.le_refl _)).E k hx
    refine ⟨?_, fun z => ?_⟩
    · cases e with
      | UnaryOp op a p =>
        cases op with
        | Not => exact (h4 a p rfl).elim
        | USub => exact sndt_tr (fun _ => rfl) se
        | _ => exact sndt_tr (fun _ => rfl) se
      | BoolOp op vs p => exact (h6 op vs p rfl).elim
      | IfExp t a b p => exact (h5 t a b p rfl).elim
      | Compare a ops bs p =>
        cases n with
        | zero => (have hx : (none : Option CE) = some x := hx; cases hx)
        | succ n =>
          have i2 := ih n (by omega)
          rcases coE_cmp hx with ⟨op, b, ca, cb, rfl, rfl, e1, e2, rfl⟩ | ⟨op, op', b, d, ca, cb, cd, rfl, rfl, e1, e2, e3, rfl⟩
          · exact sndt_cmpK k (coE_set e2) (i2.E k e1) (i2.E k e2)
          · exact sndt_chain k (coE_set e3) (i2.E k e1) (i2.E k e2) (i2.E k e3)
      | _ => exact sndt_tr (fun _ => rfl) se
    · cases e <;> first | exact (h6 _ _ _ rfl).elim | cases z
theorem coE_sub_eq {n : Nat} {a s : Expr} {p : Pos} : coE g (n + 1) (.Subscript a s p) = (match coE g n a with
      | none => none
      | some x => match s with
        | .Slice none none (some (.UnaryOp .USub (.Constant (.int 1) _ _) _)) _ => some (CE.rev x)
        | .Slice (some lo) (some hi) none _ => match coE g n lo, coE g n hi with | some l, some h => some (.sl2 x l h) | _, _ => none
        | .Slice (some lo) none none _ => (coE g n lo).map (.slL x)
        | .Slice none (some hi) none _ => (coE g n hi).map (.slH x)
        | .Slice .. => none
        | b => (coE g n b).map (.idx x)) := rfl
theorem co_sub {n : Nat} (ih : Snd c cl n) (k : Kn c cl g X) {a s : Expr} {p : Pos} {ce : CE} (h : coE g (n + 1) (.Subscript a s p) = some ce) : SndE X c cl (.Subscript a s p) ce := by
  rw [coE_sub_eq] at h
  split at h
  · cases h
  rename_i x ex
  have sa := ih.E k ex
  split at h
  · cases h
    exact snd_rev sa
  · split at h
    · rename_i e1 e2
      cases h
      exact snd_sl2 sa (ih.E k e1) (ih.E k e2)
    · cases h
  · simp only [Option.map_eq_some_iff] at h
    obtain ⟨l, h1, rfl⟩ := h
    exact snd_slL sa (ih.E k h1)
  · simp only [Option.map_eq_some_iff] at h
    obtain ⟨l, h1, rfl⟩ := h
    exact snd_slH sa (ih.E k h1)
  · cases h
  · simp only [Option.map_eq_some_iff] at h
    obtain ⟨l, h1, rfl⟩ := h
    exact snd_idx k (coE_slice h1) sa (ih.E k h1)
theorem coE_call_eq {n : Nat} {f : Str} {p pos : Pos} {args : List Expr} : coE g (n + 1) (.Call (.Name f p) args [] pos) = (if g.isBi f = true then
        if f = ("isinstance" : Str) then match args with
          | [a, .Name t _] => match coE g n a, clsTy g t with | some x, some ty => some (CE.isi x [ty]) | _, _ => none
          | [a, .Tuple ts _ _] => match coE g n a, tysOf g ts with | some x, some tys => if (decide (0 < tys.length) && decide (tys.length ≤ 100)) = true then some (.isi x tys) else none | _, _ => none
          | _ => none
        else match args with
          | [a] => match biOf f, coE g n a with | some b, some x => some (.bi b x) | _, _ => none
          | [a, b] => match coE g n a, coE g n b with
            | some x, some y => if f = ("max" : Str) then some (.bi2 .max x y) else if f = ("min" : Str) then some (.bi2 .min x y) else none
            | _, _ => none
          | _ => none
      else if g.isGl f = true then
        if f = ("gcd" : Str) ∧ g.gcd = true then match args with
          | [a, b] => match coE g n a, coE g n b with | some x, some y => some (.bi2 .gcd x y) | _, _ => none
          | _ => none
        else match g.fns.lookup f, g.clss.lookup f, coA g n args with
          | some i, none, some as => some (.call i as)
          | none, some i, some as => some (.mk i as)
          | _, _, _ => none
      else none) := rfl
theorem co_call {n : Nat} (ih : Snd c cl n) (k : Kn c cl g X) {f : Str} {p pos : Pos} {args : List Expr} {ce : CE} (h : coE g (n + 1) (.Call (.Name f p) args [] pos) = some ce) : SndE X c cl (.Call (.Name f p) args [] pos) ce := by
  rw [coE_call_eq] at h
  split at h
  · rename_i hb
    split at h
    · rename_i hf
      subst hf
      split at h
      · rename_i a t p2
        split at h
        · rename_i x ty e1 e2
          cases h
          exact snd_isi1 k hb e2 (coE_star e1) (ih.E k e1)
        · cases h
      · rename_i a ts kk p2
        split at h
        · rename_i x tys e1 e2
          split at h
          · rename_i hc
            cases h
            simp only [Bool.and_eq_true, decide_eq_true_eq] at hc
            exact snd_isiN k hb e2 hc.2 (fun e => by rw [e] at hc; exact absurd hc.1 (by simp)) (coE_star e1) (ih.E k e1)
          · cases h
        · cases h
      · cases h
    · split at h
      · rename_i a
        split at h
        · rename_i b x e1 e2
          cases h
          exact snd_bi k hb e1 (coE_star e2) (ih.E k e2)
        · cases h
      · rename_i a b
        split at h
        · rename_i x y e1 e2
          split at h
          · rename_i hf
            cases h
            exact snd_bi2 k (.inl ⟨rfl, hf, hb⟩) (coE_star e1) (coE_star e2) (ih.E k e1) (ih.E k e2)
          · split at h
            · rename_i hf
              cases h
              exact snd_bi2 k (.inr (.inl ⟨rfl, hf, hb⟩)) (coE_star e1) (coE_star e2) (ih.E k e1) (ih.E k e2)
            · cases h
        · cases h
      · cases h
  · split at h
    · rename_i hg
      split at h
      · rename_i hf
        split at h
        · rename_i a b
          split at h
          · rename_i x y e1 e2
            cases h
            exact snd_bi2 k (.inr (.inr ⟨rfl, hf.1, hg, hf.2⟩)) (coE_star e1) (coE_star e2) (ih.E k e1) (ih.E k e2)
          · cases h
        · cases h
      · split at h
        · rename_i i as e1 e2 e3
          cases h
          obtain ⟨h1, h2⟩ := ih.A k e3
          cases args with
          | nil => cases as with
            | nil => exact snd_call0 k hg e1
            | cons _ _ => exact h2.elim
          | cons e es => exact snd_call k hg e1 h1 (snda_of h2 h1)
        · rename_i i as e1 e2 e3
          cases h
          obtain ⟨h1, h2⟩ := ih.A k e3
          cases args with
          | nil => cases as with
            | nil => exact snd_mk0 k hg e2
            | cons _ _ => exact h2.elim
          | cons e es => cases as with
            | nil => exact h2.elim
            | cons _ _ => exact snd_mk k hg e2 h1 (snda_of h2 h1)
        · cases h
    · cases h
theorem own_slots (N : List Str) (is : List Nat) : (is.map fun i => (N.getD i ⟨#[]⟩, i)).map (·.2) = is := by
  rw [List.map_map]
  show is.map (fun i => i) = is
  simp
/-- what a comprehension's text tells -/
theorem coE_lc_eq {n : Nat} {elt tg it : Expr} {ifs : List Expr} {s : Scope} {p : Pos} : coE g (n + 1) (.ListComp elt [⟨tg, it, ifs, 0⟩] s p) = (match patOf (g.blk s) 8 tg, coI g n (isTup tg) it, coE (g.blk s) n elt with
      | some p, some it, some e => if (decide (p.slots.Nodup) && blkC g.N g.sc s (p.slots.map fun i => (g.N.getD i ⟨#[]⟩, i))) = true then (match ifs with
          | [] => some (CE.lc p p.slots it .yes e)
          | [t] => (coT (g.blk s) n t).map fun t => .lc p p.slots it t e
          | _ => none) else none
      | _, _, _ => none) := rfl
theorem co_lcInv {n : Nat} {elt tg it : Expr} {ifs : List Expr} {s : Scope} {p : Pos} {ce : CE} (h : coE g (n + 1) (.ListComp elt [⟨tg, it, ifs, 0⟩] s p) = some ce) :
    ∃ pt ci ee ct, ce = .lc pt pt.slots ci ct ee ∧ patOf (g.blk s) 8 tg = some pt ∧ coI g n (isTup tg) it = some ci ∧ coE (g.blk s) n elt = some ee ∧ blkC g.N g.sc s (pt.slots.map fun i => (g.N.getD i ⟨#[]⟩, i)) = true ∧
      ((ifs = [] ∧ ct = .yes) ∨ ∃ t, ifs = [t] ∧ coT (g.blk s) n t = some ct) := by
  rw [coE_lc_eq] at h
  split at h
  · rename_i pt ci ee e1 e2 e3
    split at h
    · rename_i hc
      simp only [Bool.and_eq_true, decide_eq_true_eq] at hc
      split at h
      · cases h
        exact ⟨pt, ci, ee, .yes, rfl, e1, e2, e3, hc.2, .inl ⟨rfl, rfl⟩⟩
      · rename_i t
        simp only [Option.map_eq_some_iff] at h
        obtain ⟨ct, h1, rfl⟩ := h
        exact ⟨pt, ci, ee, ct, rfl, e1, e2, e3, hc.2, .inr ⟨t, rfl, h1⟩⟩
      · cases h
    · cases h
  · cases h
/-- what is to be shown of a comprehension: pe_lc and ps_setLc ask it -/
theorem lc_parts {n : Nat} (ih : Snd c cl n) (k : Kn c cl g X) {elt tg it : Expr} {ifs : List Expr} {s : Scope} {p : Pos} {ce : CE} (h : coE g (n + 1) (.ListComp elt [⟨tg, it, ifs, 0⟩] s p) = some ce) :
    ∃ (tt : TT) (own : List (Str × Nat)), BlkOk X.N X.env.scope s own ∧ (∀ (s0 : Shared) (H0 : Hp) (C : Addr) (cl' : List (Str × Addr)) (fp : List Addr), PTs (X.blk s0 H0 s (compEnvC s cl' C X.env) fp) ifs tt) ∧ (∀ x, foldedSetIterable it X.env x = pure x) ∧
      ∀ τ S r S', evE c ce τ S = some (r, S') → ∀ F m σ H, G X.K cl F m S H → EnvOk X.K F m τ σ H → ∀ Q : VK, (∀ F' m' H' v, Stp F m H F' m' H' → G X.K cl F' m' S' H' → RvOk X.K H F' m' H' r v → Q v H') →
        tLc (SI X tg it) (bG X s tg) tt (bE X s elt) (own.map (·.2)) σ H Q := by
  obtain ⟨pt, ci, ee, ct, rfl, e1, e2, e3, hb, ht⟩ := co_lcInv h
  have ok := blkOk_by hb
  have hbe : ∀ (s0 : Shared) (H0 : Hp) (C : Addr) (cl' : List (Str × Addr)) (fp : List Addr), SndE (X.blk s0 H0 s (compEnvC s cl' C X.env) fp) c cl elt ee := fun s0 H0 C cl' fp => ih.E (kn_blk k ok.kind s0 H0 C cl' fp) e3
  have ok' : BlkOk X.N X.env.scope s (pt.slots.map fun i => (g.N.getD i ⟨#[]⟩, i)) := by rw [k.N, k.sc]; exact ok
  rcases ht with ⟨rfl, rfl⟩ | ⟨t, rfl, e4⟩
  · refine ⟨tYes, _, ok', fun _ _ _ _ _ => pts_nil, coI_set e2, fun τ S r S' hev F m σ H gg ev Q q => ?_⟩
    rw [own_slots]
    refine lc_snd k ok.kind e1 (ih.I k e2) hbe (fun τ S b S' he F m σ H gg ev Q q => ?_) hev gg ev Q q
    simp only [evT, Option.some.injEq, Prod.mk.injEq] at he
    obtain ⟨rfl, rfl⟩ := he
    exact q F m H Stp.refl gg
  · refine ⟨bT X s t, _, ok', fun s0 H0 C cl' fp => pts_one ⟨fun pins s1 σ H Q I h => h s0 H0 C cl' fp pins s1 I⟩, coI_set e2, fun τ S r S' hev F m σ H gg ev Q q => ?_⟩
    rw [own_slots]
    refine lc_snd k ok.kind e1 (ih.I k e2) hbe (fun τ S b S' he F m σ H gg ev Q q => ?_) hev gg ev Q q
    intro s0 H0 C cl' fp
    exact (ih.T (kn_blk k ok.kind s0 H0 C cl' fp) e4).1 τ S b S' he F m σ H gg ev Q q
theorem pg_b {s : Scope} {tg : Expr} (s0 : Shared) (H0 : Hp) (C : Addr) (cl' : List (Str × Addr)) (fp : List Addr) : PG (X.blk s0 H0 s (compEnvC s cl' C X.env) fp) tg (bG X s tg) := ⟨fun pins s1 σ H v u Q I r h => h s0 H0 C cl' fp pins s1 u I r⟩
theorem pe_b {s : Scope} {elt : Expr} (s0 : Shared) (H0 : Hp) (C : Addr) (cl' : List (Str × Addr)) (fp : List Addr) : PE (X.blk s0 H0 s (compEnvC s cl' C X.env) fp) elt (bE X s elt) := ⟨fun pins s1 σ H Q I h => h s0 H0 C cl' fp pins s1 I⟩
theorem co_E {n : Nat} (ih : Snd c cl n) (k : Kn c cl g X) {e : Expr} {ce : CE} (h : coE g (n + 1) e = some ce) : SndE X c cl e ce := by
  have h0 := h
  have mp : ∀ {α β : Type} {o : Option α} {f : α → β} {y : β}, o.map f = some y → ∃ x, o = some x ∧ f x = y := fun h => Option.map_eq_some_iff.mp h
  unfold coE at h
  split at h
  · obtain ⟨x, h1, rfl⟩ := mp h
    exact snd_const h1
  · split at h
    · rename_i i hi
      cases h
      exact snd_var k hi
    · split at h
      · rename_i hg
        obtain ⟨x, h1, rfl⟩ := mp h
        exact snd_glob k hg h1
      · cases h
  · split at h
    · rename_i o x y e1 e2 e3
      cases h
      exact snd_bin e1 (ih.E k e2) (ih.E k e3)
    · cases h
  · obtain ⟨x, h1, rfl⟩ := mp h
    exact snd_neg (ih.E k h1)
  · obtain ⟨x, h1, rfl⟩ := mp h
    exact snd_not (ih.E k h1)
  · exact snd_one (ih.E k h)
  · split at h
    · rename_i x y e1 e2
      cases h
      exact snd_and (ih.E k e1) (ih.E k e2)
    · cases h
  · split at h
    · rename_i x y e1 e2
      cases h
      exact snd_or (ih.E k e1) (ih.E k e2)
    · cases h
  · split at h
    · rename_i x y e1 e2
      cases h
      exact snd_cmpK k (coE_set e2) (ih.E k e1) (ih.E k e2)
    · cases h
  · split at h
    · rename_i x y z e1 e2 e3
      cases h
      exact snd_chain k (coE_set e3) (ih.E k e1) (ih.E k e2) (ih.E k e3)
    · cases h
  · split at h
    · rename_i x y z e1 e2 e3
      cases h
      exact snd_ite (ih.T k e1).1 (ih.E k e2) (ih.E k e3)
    · cases h
  · obtain ⟨x, h1, rfl⟩ := mp h
    obtain ⟨q1, q2⟩ := ih.A k h1
    exact snd_tup (snda_of q2 q1)
  · obtain ⟨x, h1, rfl⟩ := mp h
    obtain ⟨q1, q2⟩ := ih.A k h1
    exact snd_lst (snda_of q2 q1)
  · exact co_sub ih k h0
  · split at h
    · rename_i hc
      simp only [Bool.and_eq_true, decide_eq_true_eq] at hc
      obtain ⟨x, h1, rfl⟩ := mp h
      exact snd_attr k hc.2 hc.1 (ih.E k h1)
    · cases h
  · exact co_call ih k h0
  · obtain ⟨tt, own, q1, q2, q3, q4⟩ := lc_parts ih k h0
    intro τ S r S' he F m σ H gg ev Q q
    exact se_of (pe_lc k.calm k.nd pi_si q1 pg_b q2 pe_b q3) (q4 τ S r S' he F m σ H gg ev Q q)
  · split at h
    · rename_i e1 e2
      cases h
      exact snd_dct e1 (ih.A k e2).2
    · cases h
  · cases h
theorem co_snd : ∀ n, Snd c cl n := by
  intro n
  induction n using Nat.strongRecOn with
  | ind n ih =>
    cases n with
    | zero => exact ⟨fun k e ce h => (by have h : (none : Option CE) = some ce := h; cases h), fun k e ct h => (by have h : (none : Option CT) = some ct := h; cases h), fun k es cs h => (by have h : (none : Option CA) = some cs := h; cases h), fun k tg b e ci h => (by have h : (none : Option CI) = some ci := h; cases h)⟩
    | succ n => exact ⟨fun k e ce h => co_E (ih n (by omega)) k h, fun k e ct h => co_T (fun m hm => ih m (by omega)) k h, fun k es cs h => co_A (ih n (by omega)) k h, fun k tg b e ci h => co_I (ih n (by omega)) k h⟩
end
end Co
end

section
set_option maxHeartbeats 0
set_option Elab.async false
set_option linter.all false
set_option maxRecDepth 100000
/-! Co10: statements, one kind at a time. -/
namespace Co
open PySem L2

def SS (X : Cx) (s : Stmt) : TS := fun D σ H => ∀ pins s0, Inv X pins σ H s0 → wpAny (model X.prog X.w) X.A (exec s X.env) (SP X pins D) X.xe s0
def SSs (X : Cx) (ss : List Stmt) : TS := fun D σ H => ∀ pins s0, Inv X pins σ H s0 → wpAny (model X.prog X.w) X.A (execs ss X.env) (SP X pins D) X.xe s0
section
variable {X : Cx} {s : Stmt} {ss : List Stmt} {D : Ends} {σ : St} {H : Hp}
theorem ps_ss : PS X s (SS X s) := ⟨fun pins s0 _ _ _ I h => h pins s0 I⟩
theorem pss_sss : PSs X ss (SSs X ss) := ⟨fun pins s0 _ _ _ I h => h pins s0 I⟩
theorem ss_of {t : TS} (h : PS X s t) (q : t D σ H) : SS X s D σ H := fun pins s0 I => h.run pins s0 σ H D I q
theorem sss_of {t : TS} (h : PSs X ss t) (q : t D σ H) : SSs X ss D σ H := fun pins s0 I => h.run pins s0 σ H D I q
end

/-- how things stand between two statements; F0, m0, H0: at the def's entry -/
structure StOk (K : PySem.W.Frag) (cl : List Addr) (F0 : Hp) (m0 : List Addr) (H0 F : Hp) (m : List Addr) (H : Hp) (τ : Env) (σ : L2.St) (S : Store) : Prop where
  st : Stp F0 m0 H0 F m H
  g : G K cl F m S H
  ev : EnvOk K F m τ σ H
  own : Own H0 τ σ
def Post (K : PySem.W.Frag) (cl : List Addr) (F0 : Hp) (m0 : List Addr) (H0 F : Hp) (m : List Addr) (D : Ends) : Out → Prop
  | .nx τ S => ∀ F' m' σ' H', Same F F' → (∃ l, m' = m ++ l) → StOk K cl F0 m0 H0 F' m' H' τ σ' S → D.nx σ' H'
  | .brk τ S => ∀ F' m' σ' H', Same F F' → (∃ l, m' = m ++ l) → StOk K cl F0 m0 H0 F' m' H' τ σ' S → D.bk σ' H'
  | .ct τ S => ∀ F' m' σ' H', Same F F' → (∃ l, m' = m ++ l) → StOk K cl F0 m0 H0 F' m' H' τ σ' S → D.ct σ' H'
  | .ret d S => ∀ F' m' H' v, Same F F' → (∃ l, m' = m ++ l) → Stp F0 m0 H0 F' m' H' → G K cl F' m' S H' → Is K F' m' d v → D.rt v H'
def SndS (X : Cx) (c : Ctx) (cl : List Addr) (s : Stmt) (cs : CS) : Prop := ∀ τ S o, exS c cs τ S = some o → ∀ F0 m0 H0 F m σ H, StOk X.K cl F0 m0 H0 F m H τ σ S → ∀ D, Post X.K cl F0 m0 H0 F m D o → SS X s D σ H
def SndB (X : Cx) (c : Ctx) (cl : List Addr) (ss : List Stmt) (cb : CB) : Prop := ∀ τ S o, exB c cb τ S = some o → ∀ F0 m0 H0 F m σ H, StOk X.K cl F0 m0 H0 F m H τ σ S → ∀ D, Post X.K cl F0 m0 H0 F m D o → SSs X ss D σ H

section
variable {X : Cx} {c : Ctx} {cl : List Addr} {g : Gm} {a e tg it : Expr} {ca ce : CE} {ci : CI} {ct : CT} {τ τ' : Env} {S S' S1 S2 : Store} {F F' H' H0 F0 F1 F2 H1 H2 : Hp} {m m' m0 m1 m2 : List Addr} {σ σ' : St} {H : Hp} {x y r : Rv} {d : D} {ds es : List D} {b : Bool} {K : PySem.W.Frag} {v : V} {vs ws : List V} {D' : Ends} {o : Out} {pos : Pos}

theorem pre_trans (p : ∃ l, m1 = m ++ l) (q : ∃ l, m2 = m1 ++ l) : ∃ l, m2 = m ++ l := by
  obtain ⟨l, rfl⟩ := p
  obtain ⟨l2, rfl⟩ := q
  exact ⟨l ++ l2, by simp⟩
theorem pre_refl : ∃ l, m = m ++ l := ⟨[], by simp⟩
theorem Post.later (h : Post K cl F0 m0 H0 F m D' o) (s : Same F F1) (p : ∃ l, m1 = m ++ l) : Post K cl F0 m0 H0 F1 m1 D' o := by
  cases o with
  | nx τ S => exact fun F' m' σ' H' q r k => h F' m' σ' H' (s.trans q) (pre_trans p r) k
  | brk τ S => exact fun F' m' σ' H' q r k => h F' m' σ' H' (s.trans q) (pre_trans p r) k
  | ct τ S => exact fun F' m' σ' H' q r k => h F' m' σ' H' (s.trans q) (pre_trans p r) k
  | ret d S => exact fun F' m' H' v q r k1 k2 k3 => h F' m' H' v (s.trans q) (pre_trans p r) k1 k2 k3
theorem StOk.step (h : StOk K cl F0 m0 H0 F m H τ σ S) (st : Stp F m H F1 m1 H1) (g1 : G K cl F1 m1 S1 H1) : StOk K cl F0 m0 H0 F1 m1 H1 τ σ S1 := ⟨h.st.trans st, g1, h.ev.step st, h.own⟩
theorem StOk.setVal {i : Nat} (h : StOk K cl F0 m0 H0 F m H τ σ S) (hv : Is K F m d v) : StOk K cl F0 m0 H0 F m H (τ.set i (.val d)) (σ.set i (some v)) S := ⟨h.st, h.g, h.ev.setVal hv, h.own.setVal⟩
theorem isOwn_setO {i j : Nat} {ds : List D} (h : isOwn (τ.set i (.own ds))[j]? = true) : (j = i ∧ i < τ.length) ∨ (j ≠ i ∧ isOwn τ[j]? = true) := by
  by_cases e : i = j
  · subst e
    by_cases hl : i < τ.length
    · exact .inl ⟨rfl, hl⟩
    · rw [List.getElem?_eq_none (by simpa using hl)] at h; cases h
  · rw [List.getElem?_set_ne e] at h
    exact .inr ⟨Ne.symm e, h⟩
/-- a new list of its own -/
theorem StOk.setOwn {i : Nat} {p : Addr} (h : StOk K cl F0 m0 H0 F m H τ σ S) (st : Stp F m H F1 m1 H1) (g1 : G K cl F1 m1 S1 H1) (hp : H p = none) (h1 : H1 p = some (.lst vs)) (fp : F1 p = none) (pm : p ∉ m1) (hi : IsA K F1 m1 ds vs) :
    StOk K cl F0 m0 H0 F1 m1 H1 (τ.set i (.own ds)) (σ.set i (some (.ref p))) S1 := by
  have e1 := h.ev.step st
  have far : ∀ {j : Nat}, isOwn τ[j]? = true → σ[j]? ≠ some (some (.ref p)) := fun {j} ho e => by
    cases q : τ[j]? with
    | none => rw [q] at ho; cases ho
    | some s =>
      cases s with
      | own ds' =>
        obtain ⟨p', vs', k1, k2, k3, k4, k5⟩ := h.ev.sl j _ q
        rw [e] at k1; cases k1
        rw [hp] at k4; cases k4
      | _ => rw [q] at ho; cases ho
  refine ⟨h.st.trans st, g1, ⟨by simp [e1.len], fun j s e => ?_, fun j k q hne o1 o2 e2 e3 => ?_⟩, fun j q o1 e2 => ?_⟩
  · by_cases hj : i = j
    · subst hj
      rw [List.getElem?_set] at e
      simp only [if_true] at e
      split at e
      · cases e
        rename_i hl
        have hl2 : i < σ.length := by rw [← h.ev.len]; exact hl
        exact ⟨p, vs, by rw [List.getElem?_set]; simp [hl2], fp, pm, h1, hi⟩
      · cases e
    · rw [List.getElem?_set_ne hj] at e ⊢
      exact e1.sl j s e
  · rcases isOwn_setO o1 with ⟨rfl, hl⟩ | ⟨n1, o1⟩
    · rcases isOwn_setO o2 with ⟨rfl, _⟩ | ⟨n2, o2⟩
      · exact hne rfl
      · rw [List.getElem?_set] at e2
        rw [List.getElem?_set_ne (Ne.symm n2)] at e3
        simp only [if_true] at e2
        split at e2
        · cases e2; exact far o2 e3
        · cases e2
    · rw [List.getElem?_set_ne (Ne.symm n1)] at e2
      rcases isOwn_setO o2 with ⟨ek, _⟩ | ⟨n2, o2⟩
      · rw [ek, List.getElem?_set] at e3
        simp only [if_true] at e3
        split at e3
        · cases e3; exact far (by assumption) e2
        · cases e3
      · rw [List.getElem?_set_ne (Ne.symm n2)] at e3
        exact e1.apart j k q hne (by assumption) (by assumption) e2 e3
  · rcases isOwn_setO o1 with ⟨rfl, hl⟩ | ⟨n1, o1⟩
    · rw [List.getElem?_set] at e2
      simp only [if_true] at e2
      split at e2
      · cases e2; exact h.st.none hp
      · cases e2
    · rw [List.getElem?_set_ne (Ne.symm n1)] at e2
      exact h.own j q o1 e2
theorem asg_ok {i : Nat} (h : StOk K cl F0 m0 H0 F m H τ σ S) (st : Stp F m H F1 m1 H1) (g1 : G K cl F1 m1 S1 H1) (hr : RvOk K H F1 m1 H1 x v) (e : asgR i x τ = some τ') : StOk K cl F0 m0 H0 F1 m1 H1 τ' (σ.set i (some v)) S1 := by
  cases x with
  | fz d =>
    simp only [asgR, Option.some.injEq] at e
    subst e
    exact (h.step st g1).setVal hr
  | fr ds =>
    simp only [asgR, Option.some.injEq] at e
    subst e
    obtain ⟨p, vs, rfl, h1, fp, pm, hp, hi⟩ := hr
    exact h.setOwn st g1 hp h1 fp pm hi
  | rd ds => cases e
/-- where an own list stands -/
theorem own_at {i : Nat} (h : EnvOk K F m τ σ H) (e : ownAt τ i = some ds) : ∃ p vs, τ[i]? = some (.own ds) ∧ σ[i]? = some (some (.ref p)) ∧ F p = none ∧ p ∉ m ∧ H p = some (.lst vs) ∧ IsA K F m ds vs := by
  unfold ownAt at e
  split at e
  · rename_i ds' q
    cases e
    obtain ⟨p, vs, k1, k2, k3, k4, k5⟩ := h.sl i _ q
    exact ⟨p, vs, q, k1, k2, k3, k4, k5⟩
  · cases e
/-- an own list is changed -/
theorem StOk.updOwn {i : Nat} {p : Addr} {es : List D} {us : List V} (h : StOk K cl F0 m0 H0 F m H τ σ S) (ht : τ[i]? = some (.own ds)) (hs : σ[i]? = some (some (.ref p))) (fp : F p = none) (pm : p ∉ m) (hH : H p = some (.lst vs)) (hi : IsA K F m es us) :
    StOk K cl F0 m0 H0 F m (upd H p (.lst us)) (τ.set i (.own es)) σ S := by
  have hown : isOwn τ[i]? = true := by rw [ht]; rfl
  have h0 : H0 p = none := h.own i p hown hs
  have setO : ∀ {j}, isOwn (τ.set i (.own es))[j]? = true → isOwn τ[j]? = true := fun {j} o => by
    rcases isOwn_setO o with ⟨rfl, _⟩ | ⟨_, o⟩
    · exact hown
    · exact o
  refine ⟨h.st.updNew h0, h.g.updOwn pm fp (fun a => by rw [hH]; exact fun z => nomatch z), ⟨by simp [h.ev.len], fun j s e => ?_, fun j k q hne o1 o2 => h.ev.apart j k q hne (setO o1) (setO o2)⟩, fun j q o1 => h.own j q (setO o1)⟩
  by_cases hj : i = j
  · subst hj
    rw [List.getElem?_set] at e
    simp only [if_true] at e
    split at e
    · cases e
      exact ⟨p, us, hs, fp, pm, upd_same, hi⟩
    · cases e
  · rw [List.getElem?_set_ne hj] at e
    have q := h.ev.sl j s e
    cases s with
    | non => trivial
    | val d => exact q
    | own ds' =>
      obtain ⟨p', vs', k1, k2, k3, k4, k5⟩ := q
      have hne : p' ≠ p := fun z => h.ev.apart i j p hj hown (by rw [e]; rfl) hs (by rw [k1, z])
      exact ⟨p', vs', k1, k2, k3, by rw [upd_ne hne]; exact k4, k5⟩
/-- an object is changed -/
theorem StOk.setObj {n : Nat} {a : Addr} {ob : Ob} {ho : HO} (h : StOk K cl F0 m0 H0 F m H τ σ S) (ha : m[n]? = some a) (hq : ∀ b, H a ≠ some (.own b)) (hob : ObIs K cl F m (upd H a ho) a ob) (hl : n < S.length) : StOk K cl F0 m0 H0 F m (upd H a ho) τ σ (S.set n ob) := by
  have ham : a ∈ m := List.mem_of_getElem? ha
  have hfa : F a = none := by
    have : ∃ o, S[n]? = some o := ⟨S[n], by simp [hl]⟩
    obtain ⟨o, eo⟩ := this
    exact (h.g.ob n a o ha eo).1
  refine ⟨?_, ?_, ?_, h.own⟩
  · refine ⟨h.st.sub, h.st.pre, fun b u hb hn => ?_, h.st.nof, h.st.newm, fun b hb => ?_⟩
    · have hne : b ≠ a := fun z => (h.st.newm a ham).elim (fun q => hn (z ▸ q)) fun q => by rw [z, q] at hb; cases hb
      rw [upd_ne hne]; exact h.st.keep b u hb hn
    · by_cases e : b = a
      · subst e; rw [upd_same]; exact fun z => nomatch z
      · rw [upd_ne e]; exact h.st.stay b hb
  · refine ⟨fun b u hb => ?_, by simp [h.g.len], h.g.nd, fun j b o' h1 h2 => ?_⟩
    · rw [upd_ne (fun z => by rw [z, hfa] at hb; cases hb)]; exact h.g.sub b u hb
    · by_cases hj : n = j
      · subst hj
        rw [ha] at h1; cases h1
        rw [List.getElem?_set] at h2
        simp only [if_true, hl] at h2
        cases h2
        exact ⟨hfa, hob⟩
      · rw [List.getElem?_set_ne hj] at h2
        obtain ⟨q1, q2⟩ := h.g.ob j b o' h1 h2
        have hne : b ≠ a := fun z => by
          subst z
          have l1 := (List.getElem?_eq_some_iff.mp ha)
          have l2 := (List.getElem?_eq_some_iff.mp h1)
          obtain ⟨p1, e1⟩ := l1
          obtain ⟨p2, e2⟩ := l2
          exact hj ((List.getElem_inj h.g.nd).mp (e1.trans e2.symm))
        exact ⟨q1, q2.keep (Same.refl _) (upd_ne hne) fun dx h => by rw [upd_ne (fun z : dx = a => hq b (by rw [← z]; exact h))]; exact h⟩
  · refine ⟨h.ev.len, fun j s e => ?_, h.ev.apart⟩
    have q := h.ev.sl j s e
    cases s with
    | non => trivial
    | val d => exact q
    | own ds' =>
      obtain ⟨p', vs', k1, k2, k3, k4, k5⟩ := q
      exact ⟨p', vs', k1, k2, k3, by rw [upd_ne (fun z : p' = a => k3 (by rw [z]; exact ham))]; exact k4, k5⟩
/-- own lists let go -/
theorem frz_ok : ∀ {is : List Nat} {τ : Env} {F : Hp}, StOk K cl F0 m0 H0 F m H τ σ S → ∃ F1, Same F F1 ∧ StOk K cl F0 m0 H0 F1 m H (frz is τ) σ S
  | [], τ, F, h => ⟨F, Same.refl _, h⟩
  | i :: is, τ, F, h => by
    unfold frz
    split
    · rename_i ds q
      obtain ⟨p, vs, k1, k2, k3, k4, k5⟩ := h.ev.sl i _ q
      have hown : isOwn τ[i]? = true := by rw [q]; rfl
      have h0 : H0 p = none := h.own i p hown k1
      have sm : Same F (upd F p (.lst vs)) := same_new k2
      have new : StOk K cl F0 m0 H0 (upd F p (.lst vs)) m H (τ.set i (.val (.lst ds))) σ S := by
        refine ⟨h.st.frz k4 k2 h0, h.g.frz k4 k2 k3, ⟨by simp [h.ev.len], fun j s e => ?_, fun j k r hne o1 o2 => h.ev.apart j k r hne (isOwn_set o1).2 (isOwn_set o2).2⟩, fun j r o1 => h.own j r (isOwn_set o1).2⟩
        by_cases hj : i = j
        · subst hj
          rw [List.getElem?_set] at e
          simp only [if_true] at e
          split at e
          · cases e
            refine ⟨_, k1, ?_⟩
            simp only [Is]
            exact ⟨p, vs, rfl, upd_same, IsA.mono sm pre_refl _ _ k5⟩
          · cases e
        · rw [List.getElem?_set_ne hj] at e
          have q2 := h.ev.sl j s e
          cases s with
          | non => trivial
          | val d => obtain ⟨v, e1, e2⟩ := q2; exact ⟨v, e1, Is.mono sm pre_refl _ _ e2⟩
          | own ds' =>
            obtain ⟨p', vs', r1, r2, r3, r4, r5⟩ := q2
            have hne : p' ≠ p := fun z => h.ev.apart i j p hj hown (by rw [e]; rfl) k1 (by rw [r1, z])
            exact ⟨p', vs', r1, by rw [upd_ne hne]; exact r2, r3, r4, IsA.mono sm pre_refl _ _ r5⟩
      obtain ⟨F1, s1, h1⟩ := frz_ok (is := is) new
      exact ⟨F1, sm.trans s1, h1⟩
    · exact frz_ok h

/-! ### stores -/
theorem sw_false {t : Option Expr} {l : Nat} {env : PySem.Env} (h : isLC e = false) : swapsWith e t l env = pure false := by
  cases e <;> first | rfl | (cases h; done)
theorem snds_set {i : Nat} {xn : Str} {px : Pos} (k : Kn c cl g X) (hi : g.stor xn = some i) (hl : isLC e = false) (se : SndE X c cl e ce) : SndS X c cl (.Assign [.Name xn px] e pos) (.set i ce) := by
  intro τ S o he F0 m0 H0 F m σ H ok D P
  obtain ⟨h1, h2, h3⟩ := stor_ok k hi
  simp only [exS] at he
  split at he
  rotate_left
  · cases he
  rename_i x S1 ex
  split at he
  rotate_left
  · cases he
  rename_i τ' ea
  cases he
  refine ss_of (ps_set k.nd h1 h2 pe_se (sw_false hl) h3) (se τ S x S1 ex F m σ H ok.g ok.ev _ fun F1 m1 H1 v st g1 r1 => ?_)
  exact P F1 m1 _ H1 st.sub st.pre (asg_ok ok st g1 r1 ea)
theorem snds_setLc {n i : Nat} {xn : Str} {px p2 : Pos} {elt tg it : Expr} {ifs : List Expr} {s : Scope} (k : Kn c cl g X) (ih : Snd c cl n) (hi : g.stor xn = some i) (hs : lcSw g (.Name xn px) (.ListComp elt [⟨tg, it, ifs, 0⟩] s p2) = true) (h : coE g (n + 1) (.ListComp elt [⟨tg, it, ifs, 0⟩] s p2) = some ce) :
    SndS X c cl (.Assign [.Name xn px] (.ListComp elt [⟨tg, it, ifs, 0⟩] s p2) pos) (.set i ce) := by
  intro τ S o he F0 m0 H0 F m σ H ok D P
  obtain ⟨h1, h2, h3⟩ := stor_ok k hi
  simp only [exS] at he
  split at he
  rotate_left
  · cases he
  rename_i x S1 ex
  split at he
  rotate_left
  · cases he
  rename_i τ' ea
  cases he
  simp only [lcSw, Bool.and_eq_true, decide_eq_true_eq, Bool.not_eq_true'] at hs
  obtain ⟨⟨q1, q2⟩, q3⟩ := hs
  have hl : X.env.scope.names.lookup xn = some .local := by rw [k.sc]; exact q1
  obtain ⟨tt, own, r1, r2, r3, r4⟩ := lc_parts ih k h
  refine ss_of (ps_setLc k.calm k.nd h1 hl (sw_true (by rw [k.sc]; exact k.kd) hl (by simpa using q2) q3) pi_si r1 pg_b r2 pe_b r3) (r4 τ S x S1 ex F m σ H ok.g ok.ev _ fun F1 m1 H1 v st g1 rr => ?_)
  exact P F1 m1 _ H1 st.sub st.pre (asg_ok ok st g1 rr ea)
/-- a target takes a value that stands -/
theorem pat_ok {p : Pat} (sp : SndP X cl tg p) (ok : StOk X.K cl F0 m0 H0 F m H τ σ S) (ea : p.asg d τ = some τ') (hv : Is X.K F m d v) {D : Ends} (P : ∀ σ', StOk X.K cl F0 m0 H0 F m H τ' σ' S → D.nx σ' H) : SG X tg v σ H D.nx :=
  sp d τ τ' ea F m S σ H v ok.g ok.ev hv _ fun σ' ev ow _ => P σ' ⟨ok.st, ok.g, ev, ow _ ok.own⟩
theorem snds_setP {p : Pat} {ts : List Expr} {kk : Nat} {pt : Pos} (k : Kn c cl g X) (hp : SndP X cl (.Tuple ts kk pt) p) (hl : isLC e = false) (hw : swappedStores [.Tuple ts kk pt] e X.env = pure none) (se : SndE X c cl e ce) : SndS X c cl (.Assign [.Tuple ts kk pt] e pos) (.setP p ce) := by
  intro τ S o he F0 m0 H0 F m σ H ok D P
  simp only [exS] at he
  split at he
  rotate_left
  · cases he
  rename_i x S1 ex
  split at he
  rotate_left
  · cases he
  rename_i d ed
  split at he
  rotate_left
  · cases he
  rename_i τ' ea
  cases he
  refine ss_of (ps_asg pe_se pg_sg (show swapsWith e (some (.Tuple ts kk pt)) pos.line X.env = pure false from sw_false hl) hw) (se τ S x S1 ex F m σ H ok.g ok.ev _ fun F1 m1 H1 v st g1 r1 => ?_)
  obtain ⟨F2, st2, g2, sm, i2⟩ := keep_ok st g1 r1 ed
  exact pat_ok hp (ok.step st2 g2) ea i2 fun σ' ok' => P F2 m1 σ' H1 st2.sub st2.pre ok'
theorem snds_drop (hl : isLC e = false) (se : SndE X c cl e ce) : SndS X c cl (.Expr e pos) (.drop ce) := by
  intro τ S o he F0 m0 H0 F m σ H ok D P
  simp only [exS] at he
  split at he
  rotate_left
  · cases he
  rename_i x S1 ex
  cases he
  refine ss_of (ps_expr pe_se (sw_false hl)) (se τ S x S1 ex F m σ H ok.g ok.ev _ fun F1 m1 H1 v st g1 r1 => ?_)
  exact P F1 m1 _ H1 st.sub st.pre (ok.step st g1)
theorem snds_ret (se : SndE X c cl e ce) : SndS X c cl (.Return (some e) pos) (.ret ce) := by
  intro τ S o he F0 m0 H0 F m σ H ok D P
  simp only [exS] at he
  split at he
  rotate_left
  · cases he
  rename_i x S1 ex
  split at he
  rotate_left
  · cases he
  rename_i d ed
  cases he
  refine ss_of (ps_ret pe_se) (se τ S x S1 ex F m σ H ok.g ok.ev _ fun F1 m1 H1 v st g1 r1 => ?_)
  obtain ⟨F2, st2, g2, sm, i2⟩ := keep_ok st g1 r1 ed
  exact P F2 m1 H1 v st2.sub st2.pre (ok.st.trans st2) g2 i2
theorem snds_retN : SndS X c cl (.Return none pos) .retN := by
  intro τ S o he F0 m0 H0 F m σ H ok D P
  simp only [exS, Option.some.injEq] at he
  subst he
  exact ss_of ps_retN (P F m H _ (Same.refl _) pre_refl ok.st ok.g (by simp [Is]))
theorem snds_pass : SndS X c cl (.Pass pos) .pass := by
  intro τ S o he F0 m0 H0 F m σ H ok D P
  simp only [exS, Option.some.injEq] at he
  subst he
  exact ss_of ps_pass (P F m σ H (Same.refl _) pre_refl ok)
theorem snds_doc {z : Str} {j : Nat} {p : Pos} : SndS X c cl (.Expr (.Constant (.str z) j p) pos) .pass := by
  intro τ S o he F0 m0 H0 F m σ H ok D P
  simp only [exS, Option.some.injEq] at he
  subst he
  exact ss_of ps_doc (P F m σ H (Same.refl _) pre_refl ok)
theorem snds_brk : SndS X c cl (.Break pos) .brk := by
  intro τ S o he F0 m0 H0 F m σ H ok D P
  simp only [exS, Option.some.injEq] at he
  subst he
  exact ss_of ps_break (P F m σ H (Same.refl _) pre_refl ok)
theorem snds_cont : SndS X c cl (.Continue pos) .cont := by
  intro τ S o he F0 m0 H0 F m σ H ok D P
  simp only [exS, Option.some.injEq] at he
  subst he
  exact ss_of ps_continue (P F m σ H (Same.refl _) pre_refl ok)
theorem snds_never {s : Stmt} : SndS X c cl s .never := by
  intro τ S o he
  simp [exS] at he
theorem snds_if {t : Expr} {A B : List Stmt} {ba bb : CB} (st : SndT X c cl t ct) (ha : SndB X c cl A ba) (hb : SndB X c cl B bb) : SndS X c cl (.If t A B pos) (.ifs ct ba bb) := by
  intro τ S o he F0 m0 H0 F m σ H ok D P
  simp only [exS] at he
  split at he
  · rename_i S1 et
    refine ss_of (ps_if pt_st pss_sss pss_sss) (st τ S true S1 et F m σ H ok.g ok.ev _ fun F1 m1 H1 s1 g1 => ?_)
    rw [if_pos rfl]
    exact ha τ S1 o he F0 m0 H0 F1 m1 σ H1 (ok.step s1 g1) D (P.later s1.sub s1.pre)
  · rename_i S1 et
    refine ss_of (ps_if pt_st pss_sss pss_sss) (st τ S false S1 et F m σ H ok.g ok.ev _ fun F1 m1 H1 s1 g1 => ?_)
    rw [if_neg Bool.false_ne_true]
    exact hb τ S1 o he F0 m0 H0 F1 m1 σ H1 (ok.step s1 g1) D (P.later s1.sub s1.pre)
  · cases he
theorem sndb_nil : SndB X c cl [] .nil := by
  intro τ S o he F0 m0 H0 F m σ H ok D P
  simp only [exB, Option.some.injEq] at he
  subst he
  exact sss_of pss_nil (P F m σ H (Same.refl _) pre_refl ok)
theorem sndb_cons {s : Stmt} {ss : List Stmt} {cs : CS} {cb : CB} {fz : List Nat} (hs : SndS X c cl s cs) (hb : SndB X c cl ss cb) : SndB X c cl (s :: ss) (.cons fz cs cb) := by
  intro τ S o he F0 m0 H0 F m σ H ok D P
  obtain ⟨F1, sm, ok1⟩ := frz_ok (is := fz) ok
  have P1 := P.later sm pre_refl
  simp only [exB] at he
  refine sss_of (pss_cons ps_ss pss_sss) ?_
  cases e1 : exS c cs (frz fz τ) S with
  | none => rw [e1] at he; cases he
  | some o1 =>
    rw [e1] at he
    refine hs _ S o1 e1 F0 m0 H0 F1 m σ H ok1 _ ?_
    cases o1 with
    | nx τ' S' => exact fun F' m' σ' H' sm' pr ok' => hb τ' S' o he F0 m0 H0 F' m' σ' H' ok' D (P1.later sm' pr)
    | brk τ' S' => cases he; exact P1
    | ct τ' S' => cases he; exact P1
    | ret d S' => cases he; exact P1

/-! ### loops -/
theorem whD_some {t : Env → Store → Option (Bool × Store)} {b : Env → Store → Option Out} (h : whD t b τ S = some o) : ∃ n, whF t b n τ S = some o := by
  unfold whD at h
  split at h
  · rename_i q
    have := Classical.choose_spec (Classical.choose_spec q)
    simp only [Option.some.injEq] at h
    rw [h] at this
    exact ⟨_, this⟩
  · cases h
theorem snds_while {t : Expr} {B : List Stmt} {cb : CB} (hp : PassesOwn (model X.prog X.w) X.A X.env X.xe) (st : SndT X c cl t ct) (hb : SndB X c cl B cb) : SndS X c cl (.While t B [] pos) (.whl ct cb) := by
  intro τ S o he F0 m0 H0 F m σ H ok D P
  simp only [exS] at he
  obtain ⟨n, hn⟩ := whD_some he
  refine ss_of (ps_while hp pt_st pss_sss) ⟨fun k σ1 H1 => ∃ F1 m1 τ1 S1, Same F F1 ∧ (∃ l, m1 = m ++ l) ∧ StOk X.K cl F0 m0 H0 F1 m1 H1 τ1 σ1 S1 ∧ whF (evT c ct) (exB c cb) k τ1 S1 = some o, ⟨n, F, m, τ, S, Same.refl _, pre_refl, ok, hn⟩, ?_⟩
  rintro k σ1 H1 ⟨F1, m1, τ1, S1, sm, pr, ok1, hk⟩
  cases k with
  | zero => cases hk
  | succ k =>
    simp only [whF] at hk
    split at hk
    · rename_i S2 et
      cases hk
      refine st τ1 S1 false S2 et F1 m1 σ1 H1 ok1.g ok1.ev _ fun F2 m2 H2 s2 g2 => ?_
      rw [if_neg Bool.false_ne_true]
      exact P F2 m2 σ1 H2 (sm.trans s2.sub) (pre_trans pr s2.pre) (ok1.step s2 g2)
    · rename_i S2 et
      refine st τ1 S1 true S2 et F1 m1 σ1 H1 ok1.g ok1.ev _ fun F2 m2 H2 s2 g2 => ?_
      rw [if_pos rfl]
      have sm2 := sm.trans s2.sub
      have pr2 := pre_trans pr s2.pre
      refine ⟨fun σ' H' => ∃ F1 m1 τ1 S1, Same F F1 ∧ (∃ l, m1 = m ++ l) ∧ StOk X.K cl F0 m0 H0 F1 m1 H' τ1 σ' S1 ∧ whF (evT c ct) (exB c cb) k τ1 S1 = some o, fun σ' H' h => ⟨k, by omega, h⟩, ?_⟩
      cases e1 : exB c cb τ1 S2 with
      | none => rw [e1] at hk; cases hk
      | some o1 =>
        rw [e1] at hk
        refine hb τ1 S2 o1 e1 F0 m0 H0 F2 m2 σ1 H2 (ok1.step s2 g2) _ ?_
        cases o1 with
        | nx τ' S' => exact fun F' m' σ' H' sm' pr' ok' => ⟨F', m', τ', S', sm2.trans sm', pre_trans pr2 pr', ok', hk⟩
        | ct τ' S' => exact fun F' m' σ' H' sm' pr' ok' => ⟨F', m', τ', S', sm2.trans sm', pre_trans pr2 pr', ok', hk⟩
        | brk τ' S' => cases hk; exact fun F' m' σ' H' sm' pr' ok' => P F' m' σ' H' (sm2.trans sm') (pre_trans pr2 pr') ok'
        | ret d S' => cases hk; exact fun F' m' H' v sm' pr' k1 k2 k3 => P F' m' H' v (sm2.trans sm') (pre_trans pr2 pr') k1 k2 k3
    · cases hk
theorem snds_for {B : List Stmt} {cb : CB} {p : Pat} (k : Kn c cl g X) (hp : PassesOwn (model X.prog X.w) X.A X.env X.xe) (hi : SndI X c cl tg true it ci) (hf : ∀ x, foldedSetIterable it X.env x = pure x) (sp : SndP X cl tg p) (hb : SndB X c cl B cb) : SndS X c cl (.For tg it B [] pos) (.for p ci cb) := by
  intro τ S o he F0 m0 H0 F m σ H ok D P
  simp only [exS] at he
  split at he
  rotate_left
  · cases he
  rename_i ds S1 ei
  refine ss_of (ps_for hp k.calm pi_si pg_sg pss_sss hf) (hi τ S ds S1 ei F m σ H ok.g ok.ev _ fun F1 m1 H1 J st g1 wk => ?_)
  obtain ⟨Gd, Y, w, hgd, hy⟩ := wk
  refine for_it w (fun i σ2 H2 => ∃ F2 m2 τ2 S2, Same F1 F2 ∧ (∃ l, m2 = m1 ++ l) ∧ StOk X.K cl F0 m0 H0 F2 m2 H2 τ2 σ2 S2 ∧ forGo (fun d σ S => match p.asg d σ with | some σ' => exB c cb σ' S | none => none) (ds.drop i) τ2 S2 = some o) ?_ ?_ ?_ ?_
  · exact ⟨F1, m1, τ, S1, Same.refl _, pre_refl, ok.step st g1, he⟩
  · rintro i σ2 H2 _ ⟨F2, m2, τ2, S2, sm, pr, ok2, _⟩
    exact hgd H2 ⟨sm.trans ok2.g.sub, fun z => nomatch z⟩
  · rintro i x σ2 H2 H3 hl ⟨F2, m2, τ2, S2, sm, pr, ok2, el⟩ hY
    obtain ⟨d, F3, hd, st3, g3, is3⟩ := hy F2 m2 S2 H2 i x H3 sm pr ok2.g hl hY
    have edrop : ds.drop i = d :: ds.drop (i + 1) := by
      have hx : ds[i]'hl = d := by rw [List.getElem?_eq_getElem hl] at hd; exact Option.some.inj hd
      rw [← hx]; exact List.drop_eq_getElem_cons hl
    rw [edrop] at el
    simp only [forGo] at el
    have ok3 := ok2.step st3 g3
    cases ea : p.asg d τ2 with
    | none => rw [ea] at el; cases el
    | some τ3 =>
      rw [ea] at el
      simp only at el
      refine sp d τ2 τ3 ea F3 m2 S2 σ2 H3 x g3 ok3.ev is3 _ fun σ3 ev3 ow3 _ => ?_
      have ok4 : StOk X.K cl F0 m0 H0 F3 m2 H3 τ3 σ3 S2 := ⟨ok3.st, g3, ev3, ow3 _ ok3.own⟩
      have sm3 := sm.trans st3.sub
      cases e1 : exB c cb τ3 S2 with
      | none => rw [e1] at el; cases el
      | some o1 =>
        rw [e1] at el
        refine hb τ3 S2 o1 e1 F0 m0 H0 F3 m2 σ3 H3 ok4 _ ?_
        cases o1 with
        | nx τ' S' => exact fun F' m' σ' H' sm' pr' ok' => ⟨F', m', τ', S', sm3.trans sm', pre_trans pr pr', ok', el⟩
        | ct τ' S' => exact fun F' m' σ' H' sm' pr' ok' => ⟨F', m', τ', S', sm3.trans sm', pre_trans pr pr', ok', el⟩
        | brk τ' S' => cases el; exact fun F' m' σ' H' sm' pr' ok' => P F' m' σ' H' (st.sub.trans (sm3.trans sm')) (pre_trans st.pre (pre_trans pr pr')) ok'
        | ret d S' => cases el; exact fun F' m' H' v sm' pr' k1 k2 k3 => P F' m' H' v (st.sub.trans (sm3.trans sm')) (pre_trans st.pre (pre_trans pr pr')) k1 k2 k3
  · rintro σ2 H2 ⟨F2, m2, τ2, S2, sm, pr, ok2, el⟩
    rw [List.drop_length] at el
    simp only [forGo, Option.some.injEq] at el
    subst el
    exact P F2 m2 σ2 H2 (st.sub.trans sm) (pre_trans st.pre pr) ok2
end
end Co
end

section
set_option maxHeartbeats 0
set_option Elab.async false
set_option linter.all false
set_option maxRecDepth 100000
/-! Co11: stores into lists, dicts and objects; methods of lists; every statement that coS takes. -/
namespace Co
open PySem L2
section
variable {X : Cx} {c : Ctx} {cl : List Addr} {g : Gm} {a e tg it : Expr} {ca ce : CE} {ci : CI} {ct : CT} {τ τ' : Env} {S S' S1 S2 : Store} {F F' H' H0 F0 F1 F2 H1 H2 : Hp} {m m' m0 m1 m2 : List Addr} {σ σ' : St} {H : Hp} {x y r : Rv} {d : D} {ds es : List D} {b : Bool} {K : PySem.W.Frag} {v : V} {vs ws : List V} {D' : Ends} {o : Out} {pos : Pos}

theorem kis_put : ∀ {kvs : List (Key × D)} {ws : List (Key × V)} {k : Key}, KIs K F m kvs ws → Is K F m d v → KIs K F m (putD kvs k d) (putK ws k v) := by
  have anyEq : ∀ {kvs : List (Key × D)} {ws : List (Key × V)} {k : Key}, KIs K F m kvs ws → (kvs.any fun kv => decide (kv.1 = k)) = (ws.any fun kv => decide (kv.1 = k)) := by
    intro kvs
    induction kvs with
    | nil => intro ws k h; cases h; rfl
    | cons p r ih =>
      intro ws k h
      obtain ⟨q, z⟩ := p
      obtain ⟨v, us, rfl, h1, h2⟩ := h
      rw [List.any_cons, List.any_cons, ih h2]
  have mapOk : ∀ {kvs : List (Key × D)} {ws : List (Key × V)} {k : Key}, KIs K F m kvs ws → Is K F m d v → KIs K F m (kvs.map (fun kv => if kv.1 = k then (kv.1, d) else kv)) (ws.map (fun kv => if kv.1 = k then (kv.1, v) else kv)) := by
    intro kvs
    induction kvs with
    | nil => intro ws k h _; cases h; rfl
    | cons p r ih =>
      intro ws k h hv
      obtain ⟨q, z⟩ := p
      obtain ⟨w, us, rfl, h1, h2⟩ := h
      simp only [List.map_cons]
      by_cases e : q = k
      · simp only [e, if_true]
        exact ⟨v, _, rfl, hv, ih h2 hv⟩
      · simp only [if_neg e]
        exact ⟨w, _, rfl, h1, ih h2 hv⟩
  have appOk : ∀ {kvs : List (Key × D)} {ws : List (Key × V)} {k : Key}, KIs K F m kvs ws → Is K F m d v → KIs K F m (kvs ++ [(k, d)]) (ws ++ [(k, v)]) := by
    intro kvs
    induction kvs with
    | nil => intro ws k h hv; cases h; exact ⟨v, [], rfl, hv, rfl⟩
    | cons p r ih =>
      intro ws k h hv
      obtain ⟨q, z⟩ := p
      obtain ⟨w, us, rfl, h1, h2⟩ := h
      exact ⟨w, _, rfl, h1, ih h2 hv⟩
  intro kvs ws k h hv
  unfold putD putK
  rw [anyEq h]
  split
  · exact mapOk h hv
  · exact appOk h hv
theorem kis_setF {f : Str} : ∀ {fs : List (Str × D)} {ws : List (Str × V)}, KIs K F m fs ws → Is K F m d v → KIs K F m (setF f d fs) (putF f v ws)
  | [], ws, h, hv => by cases h; exact ⟨v, [], rfl, hv, rfl⟩
  | (q, z) :: r, ws, h, hv => by
    obtain ⟨w, us, rfl, h1, h2⟩ := h
    unfold setF putF
    by_cases e : q = f
    · rw [if_pos e, if_pos e]; exact ⟨v, us, rfl, hv, h2⟩
    · rw [if_neg e, if_neg e]; exact ⟨w, _, rfl, h1, kis_setF h2 hv⟩

theorem swst_sub {o i : Expr} {p : Pos} {env : PySem.Env} : swappedStores [.Subscript o i p] e env = pure none := by cases e <;> rfl
theorem swst_name {n : Str} {p : Pos} {env : PySem.Env} : swappedStores [.Name n p] e env = pure none := by cases e <;> rfl
theorem sub_asg {oe i : Expr} {p : Pos} {env : PySem.Env} (h : ∀ lo hi st p, i ≠ .Slice lo hi st p) : ∀ v, assign (.Subscript oe i p) env v = (do
      let ov ← holding [v] (eval oe env)
      let iv ← holding [v, ov] (eval i env)
      standAt p
      holding [v, ov, iv] (setItem ov iv v)
      release [v, ov, iv] []) := by
  intro v
  cases i <;> first | rfl | exact absurd rfl (h _ _ _ _)
/-- x[a] = e -/
theorem snds_put {xn : Str} {px pt : Pos} {i : Nat} (k : Kn c cl g X) (hx : g.slot xn = some i) (hl : isLC e = false) (hns : ∀ lo hi st p, a ≠ .Slice lo hi st p) (sa : SndE X c cl a ca) (se : SndE X c cl e ce) : SndS X c cl (.Assign [.Subscript (.Name xn px) a pt] e pos) (.put i ca ce) := by
  intro τ S o he F0 m0 H0 F m σ H ok D P
  obtain ⟨n1, n2, n3, n4⟩ := slot_ok k hx
  simp only [exS] at he
  split at he
  rotate_left
  · cases he
  rename_i x S1 ex
  split at he
  rotate_left
  · cases he
  rename_i d ed
  split at he
  rotate_left
  · cases he
  rename_i kd S2 ea
  split at he
  · rename_i ds et
    split at he
    rotate_left
    · cases he
    rename_i ki
    split at he
    rotate_left
    · cases he
    rename_i j ej
    cases he
    refine ss_of (ps_asg pe_se (pg_sub pe_se pe_se set_list (sub_asg hns)) (show swapsWith e (some (.Subscript (.Name xn px) a pt)) pos.line X.env = pure false from sw_false hl) swst_sub) (se τ S x S1 ex F m σ H ok.g ok.ev _ fun F1 m1 H1 v st1 g1 r1 => ?_)
    obtain ⟨F1', st1', g1', sm1, i1⟩ := keep_ok st1 g1 r1 ed
    have ok1 := ok.step st1' g1'
    obtain ⟨p, us, k1, k2, _⟩ := ok1.ev.sl i _ et
    refine se_of (pe_var n1 n2 n3 n4) ⟨_, k1, ?_⟩
    refine sa τ S1 _ S2 ea F1' m1 σ H1 g1' ok1.ev _ fun F2 m2 H2 w st2 g2 r2 => ?_
    rw [rvi_int r2]
    have ok2 := ok1.step st2 g2
    obtain ⟨p', us', k1', q2, q3, q4, q5⟩ := ok2.ev.sl i _ et
    rw [k1] at k1'; cases k1'
    refine ⟨p, us', ki, j, rfl, rfl, q4, by rw [← q5.len]; exact ej, ?_⟩
    exact P F2 m2 σ _ (st1'.trans st2).sub (st1'.trans st2).pre (ok2.updOwn et k1 q2 q3 q4 (q5.set j (st2.is i1)))
  · rename_i n et
    split at he
    rotate_left
    · cases he
    rename_i kvs key eo ek
    split at he
    rotate_left
    · cases he
    rename_i hz
    cases he
    refine ss_of (ps_dput (hu_of' k) pe_se pe_se pe_se (sw_false hl)) (se τ S x S1 ex F m σ H ok.g ok.ev _ fun F1 m1 H1 v st1 g1 r1 => ?_)
    obtain ⟨F1', st1', g1', sm1, i1⟩ := keep_ok st1 g1 r1 ed
    have ok1 := ok.step st1' g1'
    obtain ⟨u, k1, k2⟩ := ok1.ev.sl i _ et
    refine se_of (pe_var n1 n2 n3 n4) ⟨_, k1, ?_⟩
    refine sa τ S1 _ S2 ea F1' m1 σ H1 g1' ok1.ev _ fun F2 m2 H2 w st2 g2 r2 => ?_
    have ok2 := ok1.step st2 g2
    have k3 : Is X.K F2 m2 (.obj n) u := st2.is k2
    simp only [Is] at k3
    obtain ⟨p, rfl, hp⟩ := k3
    obtain ⟨fp, kws, q1, q2⟩ := g2.ob n p _ hp eo
    have ew : w = kV key := key_is r2 ek
    subst ew
    refine ⟨p, _, rfl, DPut.k q1 (by rw [← q2.len]; exact hz), ?_⟩
    refine P F2 m2 σ _ (st1'.trans st2).sub (st1'.trans st2).pre (ok2.setObj hp (fun b => by rw [q1]; exact fun z => nomatch z) ⟨_, upd_same, kis_put q2 (st2.is i1)⟩ ?_)
    exact (List.getElem?_eq_some_iff.mp eo).1
  · cases he
where hu_of' {X : Cx} {c : Ctx} {cl : List Addr} {g : Gm} (k : Kn c cl g X) : X.A.units + 1 < cLine := by have := k.hu.un; omega
/-- o.f = e -/
theorem snds_fset {oe : Expr} {f : Str} {pt : Pos} (k : Kn c cl g X) (hf : f ∈ g.atrs) (hl : isLC e = false) (so : SndE X c cl oe ca) (se : SndE X c cl e ce) : SndS X c cl (.Assign [.Attribute oe f pt] e pos) (.fset ca f ce) := by
  intro τ S o he F0 m0 H0 F m σ H ok D P
  simp only [exS] at he
  split at he
  rotate_left
  · cases he
  rename_i x S1 ex
  split at he
  rotate_left
  · cases he
  rename_i d ed
  split at he
  rotate_left
  · cases he
  rename_i n S2 eo
  split at he
  rotate_left
  · cases he
  rename_i kc fs en
  split at he
  rotate_left
  · cases he
  rename_i hz
  cases he
  refine ss_of (ps_fld pe_se pe_se (sw_false hl)) (se τ S x S1 ex F m σ H ok.g ok.ev _ fun F1 m1 H1 v st1 g1 r1 => ?_)
  obtain ⟨F1', st1', g1', sm1, i1⟩ := keep_ok st1 g1 r1 ed
  have ok1 := ok.step st1' g1'
  refine so τ S1 _ S2 eo F1' m1 σ H1 g1' ok1.ev _ fun F2 m2 H2 w st2 g2 r2 => ?_
  have ok2 := ok1.step st2 g2
  have k3 : Is X.K F2 m2 (.obj n) w := r2
  simp only [Is] at k3
  obtain ⟨p, rfl, hp⟩ := k3
  obtain ⟨fp, C, dx, ws, q1, q2, q3, q4, q5⟩ := g2.ob n p _ hp en
  refine ⟨p, C, dx, ws, rfl, q2, k.clsOk.cls kc C q1, k.atr kc C f q1 hf, by rw [← q5.len]; exact hz, ?_⟩
  have hne : dx ≠ p := fun z => by rw [z, q2] at q3; cases q3
  refine P F2 m2 σ _ (st1'.trans st2).sub (st1'.trans st2).pre (ok2.setObj hp (fun b => by rw [q2]; exact fun z => nomatch z) ⟨C, dx, _, q1, upd_same, by rw [upd_ne hne]; exact q3, q4, kis_setF q5 (st2.is i1)⟩ ?_)
  exact (List.getElem?_eq_some_iff.mp en).1
/-- x += e -/
theorem snds_aug {xn : Str} {px : Pos} {op : Operator} {p : Bop} {i : Nat} (k : Kn c cl g X) (hi : g.stor xn = some i) (hop : bopOf op = some p) (se : SndE X c cl e ce) : SndS X c cl (.AugAssign (.Name xn px) op e pos) (.aug i p ce) := by
  intro τ S o he F0 m0 H0 F m σ H ok D P
  obtain ⟨h1, h2, h3⟩ := stor_ok k hi
  have eo := bopOf_inv hop
  subst eo
  simp only [exS] at he
  split at he
  rotate_left
  · cases he
  rename_i a et
  split at he
  rotate_left
  · cases he
  rename_i b S1 ex
  obtain ⟨u, k1, k2⟩ := ok.ev.sl i _ et
  have eu := is_int.mp k2
  subst eu
  have core : ∀ {f : Int → Int → Int}, PIp X (bopTo p) (ipI f) → o = .nx (τ.set i (.val (.int (f a b)))) S1 → SS X (.AugAssign (.Name xn px) (bopTo p) e pos) D σ H := by
    intro f hp eo
    subst eo
    refine ss_of (ps_aug k.nd h1 h2 pe_se hp h3) ⟨_, k1, se τ S _ S1 ex F m σ H ok.g ok.ev _ fun F1 m1 H1 v st1 g1 r1 => ?_⟩
    exact ⟨a, b, rfl, rvi_int r1, P F1 m1 _ H1 st1.sub st1.pre ((ok.step st1 g1).setVal (is_int.mpr rfl))⟩
  cases p with
  | add => simp only [Option.some.injEq] at he; exact core ip_add he.symm
  | sub => simp only [Option.some.injEq] at he; exact core ip_sub he.symm
  | _ => cases he

/-! ### methods of lists -/
theorem few_one {cpos : Pos} {env : PySem.Env} (h : isStar a = false) : ((backTo cpos (starEach [a] env)).all (fun x => !x.1) && (backToKw cpos (keywordEach [] env)).all (fun x => x.1.isSome)
      && decide (([a] : List Expr).length + ([] : List Keyword).length + (if ([] : List Keyword).isEmpty then 0 else 1) < 30)) = true := by
  rw [star_cons h]; rfl
theorem snds_app {xn : Str} {px ap cp : Pos} {i : Nat} (k : Kn c cl g X) (hx : g.slot xn = some i) (hln : (ap.endLine == cp.line) = true) (hs : isStar a = false) (sa : SndE X c cl a ca) :
    SndS X c cl (.Expr (.Call (.Attribute (.Name xn px) "append" ap) [a] [] cp) pos) (.app i ca) := by
  intro τ S o he F0 m0 H0 F m σ H ok D P
  obtain ⟨n1, n2, n3, n4⟩ := slot_ok k hx
  simp only [exS] at he
  split at he
  rotate_left
  · cases he
  rename_i x S1 ex
  split at he
  rotate_left
  · cases he
  rename_i d ds ed eo
  split at he
  rotate_left
  · cases he
  rename_i hz
  cases he
  obtain ⟨p, us, et, k1, q2, q3, q4, q5⟩ := own_at ok.ev eo
  refine ss_of (ps_expr (pe_bm PySem.F.plainAttrs_list PySem.F.slot_list_append PySem.F.type_list_append mt_append (pe_var n1 n2 n3 n4) (pa_cons pe_se pa_nil (star_cons hs)) rfl (few_one hs) hln (star_cons hs) rfl) rfl) ?_
  refine ⟨_, k1, .inl ⟨rfl, us, .of q4⟩, ?_⟩
  refine sa τ S x S1 ex F m σ H ok.g ok.ev _ fun F1 m1 H1 v st1 g1 r1 => ?_
  obtain ⟨F2, st2, g2, sm, i2⟩ := keep_ok st1 g1 r1 ed
  have ok2 := ok.step st2 g2
  obtain ⟨p', us', k1', q2', q3', q4', q5'⟩ := ok2.ev.sl i _ et
  rw [k1] at k1'; cases k1'
  exact ⟨p, us', v, rfl, rfl, q4', by rw [← q5'.len]; exact hz, P F2 m1 σ _ st2.sub st2.pre (ok2.updOwn et k1 q2' q3' q4' (q5'.app (.one i2)))⟩
theorem snds_ext {xn : Str} {px ap cp : Pos} {i : Nat} (k : Kn c cl g X) (hx : g.slot xn = some i) (hln : (ap.endLine == cp.line) = true) (hs : isStar a = false) (sa : SndE X c cl a ca) :
    SndS X c cl (.Expr (.Call (.Attribute (.Name xn px) "extend" ap) [a] [] cp) pos) (.ext i ca) := by
  intro τ S o he F0 m0 H0 F m σ H ok D P
  obtain ⟨n1, n2, n3, n4⟩ := slot_ok k hx
  simp only [exS] at he
  split at he
  rotate_left
  · cases he
  rename_i x S1 ex
  split at he
  rotate_left
  · cases he
  rename_i xs ds ed eo
  split at he
  rotate_left
  · cases he
  rename_i hz
  cases he
  obtain ⟨p, us, et, k1, q2, q3, q4, q5⟩ := own_at ok.ev eo
  refine ss_of (ps_expr (pe_bm PySem.F.plainAttrs_list PySem.F.slot_list_extend PySem.F.type_list_extend mt_extend (pe_var n1 n2 n3 n4) (pa_cons pe_se pa_nil (star_cons hs)) rfl (few_one hs) hln (star_cons hs) rfl) rfl) ?_
  refine ⟨_, k1, .inl ⟨rfl, us, .of q4⟩, ?_⟩
  refine sa τ S x S1 ex F m σ H ok.g ok.ev _ fun F1 m1 H1 v st1 g1 r1 => ?_
  have ok2 := ok.step st1 g1
  obtain ⟨p', us', k1', q2', q3', q4', q5'⟩ := ok2.ev.sl i _ et
  rw [k1] at k1'; cases k1'
  obtain ⟨b, zs, rfl, i3, h3⟩ := tseq_ok g1 r1 ed
  exact ⟨p, b, us', zs, rfl, rfl, q4', h3, by rw [← q5'.len, ← i3.len]; exact hz, P F1 m1 σ _ st1.sub st1.pre (ok2.updOwn et k1 q2' q3' q4' (q5'.app i3))⟩
theorem isA_last : ∀ {ds : List D} {vs : List V}, IsA K F m ds vs → ds.getLast? = some d → ∃ v, vs[vs.length - 1]? = some v ∧ Is K F m d v := by
  intro ds vs h e
  rw [List.getLast?_eq_getElem?] at e
  obtain ⟨v, h1, h2⟩ := h.get e
  exact ⟨v, by rw [← h.len]; exact h1, h2⟩
theorem snds_pop {yn : Str} {py ap cp : Pos} {i : Nat} {p : Pat} (k : Kn c cl g X) (hx : g.slot yn = some i) (hln : (ap.endLine == cp.line) = true) (sp : SndP X cl tg p) (hw : swappedStores [tg] (.Call (.Attribute (.Name yn py) "pop" ap) [] [] cp) X.env = pure none) (h1 : (assignEach [tg] X.env).map (·.2) = [assign tg X.env]) :
    SndS X c cl (.Assign [tg] (.Call (.Attribute (.Name yn py) "pop" ap) [] [] cp) pos) (.pop p i) := by
  intro τ S o he F0 m0 H0 F m σ H ok D P
  obtain ⟨n1, n2, n3, n4⟩ := slot_ok k hx
  simp only [exS] at he
  split at he
  rotate_left
  · cases he
  rename_i ds eo
  split at he
  rotate_left
  · cases he
  rename_i d ed
  split at he
  rotate_left
  · cases he
  rename_i τ' ea
  cases he
  obtain ⟨q, us, et, k1, q2, q3, q4, q5⟩ := own_at ok.ev eo
  obtain ⟨v, hv, iv⟩ := isA_last q5 ed
  refine ss_of (ps_asg (pe_bm0 PySem.F.plainAttrs_list PySem.F.slot_list_pop PySem.F.type_list_pop mt_pop (pe_var n1 n2 n3 n4) rfl hln) pg_sg rfl hw h1) ?_
  refine ⟨_, k1, .inl ⟨rfl, us, .of q4⟩, q, us, v, rfl, rfl, q4, hv, ?_⟩
  have ok2 := ok.updOwn et k1 q2 q3 q4 q5.dropLast
  exact pat_ok sp ok2 ea iv fun σ' ok' => P F m σ' _ (Same.refl _) pre_refl ok'
end
end Co
end

section
set_option maxHeartbeats 0
set_option Elab.async false
set_option linter.all false
set_option maxRecDepth 100000
/-! Co12: a, b = x, y; every statement that coS takes, every block that coB takes. -/
namespace Co
open PySem L2
section
variable {X : Cx} {c : Ctx} {cl : List Addr} {g : Gm} {a e tg it : Expr} {ca ce : CE} {ci : CI} {ct : CT} {τ τ' : Env} {S S' S1 S2 : Store} {F F' H' H0 F0 F1 F2 H1 H2 : Hp} {m m' m0 m1 m2 : List Addr} {σ σ' : St} {H : Hp} {x y r : Rv} {d : D} {ds es : List D} {b : Bool} {K : PySem.W.Frag} {v : V} {vs ws : List V} {D' : Ends} {o : Out} {pos : Pos}

theorem star_fn : (fun (e : Expr) => match e with | .Starred .. => true | _ => false) = isStar := by
  funext e; cases e <;> rfl
theorem blkK (k : Kn c cl g X) : X.env.blockKind = .function := by
  have hk : X.env.scope.kind = .function := by rw [k.sc]; exact k.kd
  unfold Env.blockKind; rw [hk]; rfl
theorem ixOf_ne {x y : Str} {N : List Str} {i j : Nat} (h1 : ixOf x N 0 = some i) (h2 : ixOf y N 0 = some j) (h : i ≠ j) : x ≠ y := fun e => by
  subst e; rw [h1] at h2; exact h (Option.some.inj h2)
theorem swst_par2 {xn yn : Str} {px py pt p2 : Pos} {kt k2 : Nat} {a b : Expr} {env : PySem.Env} (hb : env.blockKind = .function) (hx : env.kindOf xn = some .local) (hy : env.kindOf yn = some .local) (hl : py.line = px.line) (hxy : xn ≠ yn)
    (hs : [a, b].any isStar = false) (h1 : [a, b].all (foldedForSure 8) = false) (h2 : [a, b].all (constantsAlone 8) = false) : swappedStores [.Tuple [.Name xn px, .Name yn py] kt pt] (.Tuple [a, b] k2 p2) env = pure (some [xn, yn]) := by
  unfold swappedStores
  rw [hb]
  have e2 : ([xn, yn] : List Str).eraseDups.length = 2 := by
    have : (yn == xn) = false := by simpa using fun e : yn = xn => hxy e.symm
    simp [List.eraseDups_cons, this]
  simp only [star_fn]
  show (if ([a, b].any isStar) = true then _ else _) = _
  rw [hs, if_neg Bool.false_ne_true]
  simp only [List.filterMap_cons, List.filterMap_nil, List.head?_cons, Option.map_some, Option.getD_some, hx, hy, hl, Expr.pos, beq_self_eq_true, Bool.and_self, if_true]
  rw [e2, h1, h2]
  rfl
theorem swst_par3 {xn yn zn : Str} {px py pz pt p2 : Pos} {kt k2 : Nat} {a b d : Expr} {env : PySem.Env} (hb : env.blockKind = .function) (hx : env.kindOf xn = some .local) (hy : env.kindOf yn = some .local) (hz : env.kindOf zn = some .local) (hl : py.line = px.line) (hl2 : pz.line = px.line) (hxy : xn ≠ yn) (hxz : xn ≠ zn) (hyz : yn ≠ zn)
    (hs : [a, b, d].any isStar = false) (h1 : [a, b, d].all (foldedForSure 8) = false) (h2 : [a, b, d].all (constantsAlone 8) = false) : swappedStores [.Tuple [.Name xn px, .Name yn py, .Name zn pz] kt pt] (.Tuple [a, b, d] k2 p2) env = pure (some [xn, yn, zn]) := by
  unfold swappedStores
  rw [hb]
  have e2 : ([xn, yn, zn] : List Str).eraseDups.length = 3 := by
    have h1 : (yn == xn) = false := by simpa using fun e : yn = xn => hxy e.symm
    have h2 : (zn == xn) = false := by simpa using fun e : zn = xn => hxz e.symm
    have h3 : (zn == yn) = false := by simpa using fun e : zn = yn => hyz e.symm
    simp [List.eraseDups_cons, h1, h2, h3]
  simp only [star_fn]
  show (if ([a, b, d].any isStar) = true then _ else _) = _
  rw [hs, if_neg Bool.false_ne_true]
  simp only [List.filterMap_cons, List.filterMap_nil, List.head?_cons, Option.map_some, Option.getD_some, hx, hy, hz, hl, hl2, Expr.pos, beq_self_eq_true, Bool.and_self, if_true]
  rw [e2, h1, h2]
  rfl
/-- stores that are surely not swapped -/
theorem swst_no {ts : List Expr} {kt : Nat} {pt : Pos} (k : Kn c cl g X) (h : noSwap g ts e = true) : swappedStores [.Tuple ts kt pt] e X.env = pure none := by
  cases e with
  | Tuple vs k2 p2 =>
    simp only [noSwap, Bool.or_eq_true] at h
    unfold swappedStores
    rw [blkK k]
    simp only
    by_cases h1 : (!(ts.length == 2 || ts.length == 3) || vs.length != ts.length) = true
    · rw [h1]; rfl
    · have h3 := h.resolve_left (by simpa using h1)
      rw [Bool.not_eq_true] at h1
      rw [h1]
      show (if (vs.any _) = true then _ else _) = _
      split
      · rfl
      · have len : ∀ (ts : List Expr) (l : Nat), (ts.any fun t => match t with | .Name x _ => decide (g.sc.names.lookup x ≠ some .local) | _ => true) = true →
            (ts.filterMap fun
              | .Name id pos => if (X.env.kindOf id == some .local && pos.line == l) = true then some id else none
              | _ => none).length < ts.length := by
          intro ts l
          have le : ∀ ts : List Expr, (ts.filterMap fun
              | .Name id pos => if (X.env.kindOf id == some .local && pos.line == l) = true then some id else none
              | _ => none).length ≤ ts.length := fun ts => List.length_filterMap_le _ _
          induction ts with
          | nil => intro h; cases h
          | cons t ts ih =>
            intro h
            rw [List.any_cons, Bool.or_eq_true] at h
            rw [List.filterMap_cons]
            split
            · exact Nat.lt_succ_of_le (le ts)
            · rename_i b hb
              rcases h with h | h
              · exfalso
                cases t <;> try cases hb
                rename_i x p
                have h : decide (g.sc.names.lookup x ≠ some .local) = true := h
                have h := of_decide_eq_true h
                have : X.env.kindOf x ≠ some .local := by
                  unfold Env.kindOf; rw [k.sc]; exact h
                have hb : (if (X.env.kindOf x == some .local && p.line == l) = true then some x else none) = some b := hb
                split at hb
                · rename_i q
                  simp only [Bool.and_eq_true, beq_iff_eq] at q
                  exact this q.1
                · cases hb
              · simpa using ih h
        have hlt := len ts (((ts.head?.map (·.pos.line)).getD 0)) h3
        have hne : ((ts.filterMap fun
              | .Name id pos => if (X.env.kindOf id == some .local && pos.line == ((ts.head?.map (·.pos.line)).getD 0)) = true then some id else none
              | _ => none).length != ts.length) = true := by
          simp only [bne_iff_ne, ne_eq]; omega
        rw [if_pos]
        rw [Bool.or_eq_true]
        exact .inl hne
  | _ => rfl
theorem kind_of (k : Kn c cl g X) {x : Str} (h : g.sc.names.lookup x = some .local) : X.env.kindOf x = some .local := by
  unfold Env.kindOf; rw [k.sc]; exact h
theorem snds_par2 {xn yn : Str} {px py pt p2 : Pos} {kt k2 i j : Nat} {a b : Expr} {as : CA} (k : Kn c cl g X) (hi : ixOf xn g.N 0 = some i) (hj : ixOf yn g.N 0 = some j) (hij : i ≠ j) (hx : g.sc.names.lookup xn = some .local) (hy : g.sc.names.lookup yn = some .local) (hl : py.line = px.line)
    (hs : [a, b].any isStar = false) (h1 : [a, b].all (foldedForSure 8) = false) (h2 : [a, b].all (constantsAlone 8) = false) (sa : SndA X c cl [a, b] as) :
    SndS X c cl (.Assign [.Tuple [.Name xn px, .Name yn py] kt pt] (.Tuple [a, b] k2 p2) pos) (.par [i, j] as) := by
  intro τ S o he F0 m0 H0 F m σ H ok D P
  simp only [exS] at he
  split at he
  rotate_left
  · cases he
  rename_i ds S1 ea
  split at he
  rotate_left
  · cases he
  rename_i τ' ep
  cases he
  refine ss_of (ps_par k.calm k.nd (by rw [k.N]; exact ixOf_at hi) (by rw [k.N]; exact ixOf_at hj) hij (kind_of k hx) (kind_of k hy) pa_sa (swst_par2 (blkK k) (kind_of k hx) (kind_of k hy) hl (ixOf_ne hi hj hij) hs h1 h2)) (sa τ S ds S1 ea F m σ H ok.g ok.ev _ fun F1 m1 H1 vs st1 g1 i1 => ?_)
  match ds, ep, i1 with
  | [d1, d2], ep, i1 =>
    simp only [parGo, Option.some.injEq] at ep
    subst ep
    simp only [IsA] at i1
    obtain ⟨v, _, rfl, q1, w, _, rfl, q2, rfl⟩ := i1
    exact ⟨v, w, rfl, P F1 m1 _ H1 st1.sub st1.pre (((ok.step st1 g1).setVal q1).setVal q2)⟩
  | [], ep, _ => simp [parGo] at ep
  | [_], ep, _ => simp [parGo] at ep
  | _ :: _ :: _ :: _, ep, _ => simp [parGo] at ep
theorem snds_par3 {xn yn zn : Str} {px py pz pt p2 : Pos} {kt k2 i j l : Nat} {a b d : Expr} {as : CA} (k : Kn c cl g X) (hi : ixOf xn g.N 0 = some i) (hj : ixOf yn g.N 0 = some j) (hk : ixOf zn g.N 0 = some l) (hij : i ≠ j) (hil : i ≠ l) (hjl : j ≠ l) (hx : g.sc.names.lookup xn = some .local) (hy : g.sc.names.lookup yn = some .local) (hz : g.sc.names.lookup zn = some .local) (hl : py.line = px.line) (hl2 : pz.line = px.line)
    (hs : [a, b, d].any isStar = false) (h1 : [a, b, d].all (foldedForSure 8) = false) (h2 : [a, b, d].all (constantsAlone 8) = false) (sa : SndA X c cl [a, b, d] as) :
    SndS X c cl (.Assign [.Tuple [.Name xn px, .Name yn py, .Name zn pz] kt pt] (.Tuple [a, b, d] k2 p2) pos) (.par [i, j, l] as) := by
  intro τ S o he F0 m0 H0 F m σ H ok D P
  simp only [exS] at he
  split at he
  rotate_left
  · cases he
  rename_i ds S1 ea
  split at he
  rotate_left
  · cases he
  rename_i τ' ep
  cases he
  refine ss_of (ps_par3 k.calm k.nd (by rw [k.N]; exact ixOf_at hi) (by rw [k.N]; exact ixOf_at hj) (by rw [k.N]; exact ixOf_at hk) hij hil hjl (kind_of k hx) (kind_of k hy) (kind_of k hz) pa_sa (swst_par3 (blkK k) (kind_of k hx) (kind_of k hy) (kind_of k hz) hl hl2 (ixOf_ne hi hj hij) (ixOf_ne hi hk hil) (ixOf_ne hj hk hjl) hs h1 h2)) (sa τ S ds S1 ea F m σ H ok.g ok.ev _ fun F1 m1 H1 vs st1 g1 i1 => ?_)
  match ds, ep, i1 with
  | [d1, d2, d3], ep, i1 =>
    simp only [parGo, Option.some.injEq] at ep
    subst ep
    simp only [IsA] at i1
    obtain ⟨v, _, rfl, q1, w, _, rfl, q2, u, _, rfl, q3, rfl⟩ := i1
    exact ⟨v, w, u, rfl, P F1 m1 _ H1 st1.sub st1.pre ((((ok.step st1 g1).setVal q1).setVal q2).setVal q3)⟩
  | [], ep, _ => simp [parGo] at ep
  | [_], ep, _ => simp [parGo] at ep
  | [_, _], ep, _ => simp [parGo] at ep
  | _ :: _ :: _ :: _ :: _, ep, _ => simp [parGo] at ep
theorem snds_par {ts vs : List Expr} {kt k2 : Nat} {pt p2 : Pos} {is : List Nat} {as : CA} (k : Kn c cl g X) (ht : (ts.length == 2 || ts.length == 3) = true) (hv : (vs.length == ts.length) = true) (hs : vs.any isStar = false)
    (hp : parNames g ts ((ts.head?.map (·.pos.line)).getD 0) = some is) (hn : is.Nodup) (h1 : vs.any (fun v => !foldedForSure 8 v) = true) (h2 : vs.all (constantsAlone 8) = false) (sa : SndA X c cl vs as) :
    SndS X c cl (.Assign [.Tuple ts kt pt] (.Tuple vs k2 p2) pos) (.par is as) := by
  have h1 : vs.all (foldedForSure 8) = false := by
    rw [List.any_eq_true] at h1
    obtain ⟨v, q1, q2⟩ := h1
    rw [Bool.eq_false_iff, ne_eq, List.all_eq_true]
    intro z
    rw [z v q1] at q2; cases q2
  have nm : ∀ {t : Expr} {ts : List Expr} {l : Nat} {is : List Nat}, parNames g (t :: ts) l = some is → ∃ x p i r, t = .Name x p ∧ is = i :: r ∧ g.sc.names.lookup x = some .local ∧ p.line = l ∧ ixOf x g.N 0 = some i ∧ parNames g ts l = some r := by
    intro t ts l is h
    cases t with
    | Name x p =>
      have h : (if g.sc.names.lookup x = some .local ∧ p.line = l then (match ixOf x g.N 0, parNames g ts l with | some i, some is => some (i :: is) | _, _ => none) else none) = some is := h
      split at h
      · rename_i q
        split at h
        · rename_i i r e1 e2
          cases h
          exact ⟨x, p, i, r, rfl, rfl, q.1, q.2, e1, e2⟩
        · cases h
      · cases h
    | _ => cases h
  match ts, vs, ht, hv, hp with
  | [t1, t2], [a, b], _, _, hp =>
    obtain ⟨x, px, i, r, rfl, rfl, q1, q2, q3, q4⟩ := nm hp
    obtain ⟨y, py, j, r2, rfl, rfl, q5, q6, q7, q8⟩ := nm q4
    have e : r2 = [] := by have h : some [] = some r2 := q8; cases h; rfl
    subst e
    have hij : i ≠ j := by simpa using hn
    exact snds_par2 k q3 q7 hij q1 q5 q6 hs h1 h2 sa
  | [t1, t2, t3], [a, b, d], _, _, hp =>
    obtain ⟨x, px, i, r, rfl, rfl, q1, q2, q3, q4⟩ := nm hp
    obtain ⟨y, py, j, r2, rfl, rfl, q5, q6, q7, q8⟩ := nm q4
    obtain ⟨z, pz, l, r3, rfl, rfl, q9, q10, q11, q12⟩ := nm q8
    have e : r3 = [] := by have h : some [] = some r3 := q12; cases h; rfl
    subst e
    have hh : (i ≠ j ∧ i ≠ l) ∧ j ≠ l := by simpa using hn
    exact snds_par3 k q3 q7 q11 hh.1.1 hh.1.2 hh.2 q1 q5 q9 q6 q10 hs h1 h2 sa
  | [], _, ht, _, _ => cases ht
  | [_], _, ht, _, _ => cases ht
  | _ :: _ :: _ :: _ :: _, _, ht, _, _ => simp at ht
  | [_, _], [], _, hv, _ => cases hv
  | [_, _], [_], _, hv, _ => cases hv
  | [_, _], _ :: _ :: _ :: _, _, hv, _ => simp at hv
  | [_, _, _], [], _, hv, _ => cases hv
  | [_, _, _], [_], _, hv, _ => cases hv
  | [_, _, _], [_, _], _, hv, _ => cases hv
  | [_, _, _], _ :: _ :: _ :: _ :: _, _, hv, _ => simp at hv

/-! ### all of them -/
theorem co_lcShape {n : Nat} {elt : Expr} {gs : List Comprehension} {s : Scope} {p : Pos} (h : coE g (n + 1) (.ListComp elt gs s p) = some ce) : ∃ tg it ifs, gs = [⟨tg, it, ifs, 0⟩] := by
  rcases gs with _ | ⟨⟨tg, it, ifs, as⟩, _ | ⟨g2, gs⟩⟩
  · have h : (none : Option CE) = some ce := h; cases h
  · rcases as with (_ | as) | as
    · exact ⟨tg, it, ifs, rfl⟩
    · have h : (none : Option CE) = some ce := h; cases h
    · have h : (none : Option CE) = some ce := h; cases h
  · rcases as with (_ | as) | as <;> (have h : (none : Option CE) = some ce := h; cases h)
theorem co_lcKind {n : Nat} (h : coE g (n + 1) e = some ce) (hl : isLC e = true) : ∃ elt tg it ifs s p, e = .ListComp elt [⟨tg, it, ifs, 0⟩] s p := by
  cases e with
  | ListComp elt gs s p => obtain ⟨tg, it, ifs, rfl⟩ := co_lcShape h; exact ⟨elt, tg, it, ifs, s, p, rfl⟩
  | SetComp => have h : (none : Option CE) = some ce := h; cases h
  | DictComp => have h : (none : Option CE) = some ce := h; cases h
  | _ => cases hl
theorem co_asgN {n i : Nat} {xn : Str} {px : Pos} {cs : CS} (k : Kn c cl g X)
    (h : (match g.stor xn, coE g 60 e with
        | some i, some c => if isLC e = true then (if lcSw g (.Name xn px) e = true then some (CS.set i c) else none) else some (.set i c)
        | _, _ => none) = some cs) : SndS X c cl (.Assign [.Name xn px] e pos) cs := by
  split at h
  · rename_i i ce e1 e2
    split at h
    · rename_i hl
      split at h
      · rename_i hs
        cases h
        obtain ⟨elt, tg, it, ifs, s, p, rfl⟩ := co_lcKind e2 hl
        exact snds_setLc k (co_snd 59) e1 hs e2
      · cases h
    · rename_i hl
      cases h
      exact snds_set k e1 (by simpa using hl) ((co_snd 60).E k e2)
  · cases h
theorem co_asgT {ts : List Expr} {kk : Nat} {pt : Pos} {cs : CS} (k : Kn c cl g X) (hl : isLC e = false) (hn : noSwap g ts e = true)
    (h : (match patOf g 8 (.Tuple ts kk pt), coE g 60 e with | some p, some c => some (CS.setP p c) | _, _ => none) = some cs) : SndS X c cl (.Assign [.Tuple ts kk pt] e pos) cs := by
  split at h
  · rename_i p ce e1 e2
    cases h
    exact snds_setP k ((patOf_snd k 8).1 _ p e1).2 hl (swst_no k hn) ((co_snd 60).E k e2)
  · cases h
theorem noSwap_other {ts : List Expr} (h : ∀ vs k p, e ≠ .Tuple vs k p) : noSwap g ts e = true := by
  cases e <;> first | rfl | exact absurd rfl (h _ _ _)
theorem coS_tup_eq {n : Nat} {ts : List Expr} {k : Nat} {pt : Pos} {e : Expr} : coS g (n + 1) (.Assign [.Tuple ts k pt] e pos) = (match e with
      | .Call (.Attribute (.Name y _) m ap) [] [] cp => if m = ("pop" : Str) ∧ (ap.endLine == cp.line) = true then (match patOf g 8 (.Tuple ts k pt), g.slot y with | some p, some i => some (.pop p i) | _, _ => none) else none
      | .Tuple vs k2 p2 => if (g.own.isNone && (ts.length == 2 || ts.length == 3) && vs.length == ts.length && !(vs.any isStar)) = true then
          match parNames g ts ((ts.head?.map (·.pos.line)).getD 0), coA g 60 vs with
          | some is, some as => if (decide (is.Nodup) && vs.any (fun v => !foldedForSure 8 v) && !(vs.all (constantsAlone 8))) = true then some (.par is as) else none
          | _, _ => if noSwap g ts (.Tuple vs k2 p2) = true then (match patOf g 8 (.Tuple ts k pt), coE g 60 (.Tuple vs k2 p2) with | some p, some c => some (.setP p c) | _, _ => none) else none
        else if noSwap g ts (.Tuple vs k2 p2) = true then (match patOf g 8 (.Tuple ts k pt), coE g 60 (.Tuple vs k2 p2) with | some p, some c => some (.setP p c) | _, _ => none) else none
      | e => if isLC e = true then none else match patOf g 8 (.Tuple ts k pt), coE g 60 e with | some p, some c => some (.setP p c) | _, _ => none) := by
  cases e with
  | Call f as ks p => cases f with
    | Attribute o m ap => cases o with
      | Name y py => cases as <;> cases ks <;> rfl
      | _ => rfl
    | _ => rfl
  | _ => rfl
theorem or3 {a b c : Bool} (h : ¬ (a || !b || !c) = true) : a = false ∧ b = true := by cases a <;> cases b <;> simp_all
theorem swst_call {ts : List Expr} {kk : Nat} {pt : Pos} {f : Expr} {as : List Expr} {ks : List Keyword} {p : Pos} {env : PySem.Env} : swappedStores [.Tuple ts kk pt] (.Call f as ks p) env = pure none := rfl
theorem co_S (hp : PassesOwn (model X.prog X.w) X.A X.env X.xe) (k : Kn c cl g X) : ∀ n, (∀ s cs, coS g n s = some cs → SndS X c cl s cs) ∧ (∀ ss cb, coB g n ss = some cb → SndB X c cl ss cb)
  | 0 => ⟨fun s cs h => (by have h : (none : Option CS) = some cs := h; cases h), fun ss cb h => (by have h : (none : Option CB) = some cb := h; cases h)⟩
  | n + 1 => by
    obtain ⟨ih1, ih2⟩ := co_S hp k n
    have mp : ∀ {α β : Type} {o : Option α} {f : α → β} {y : β}, o.map f = some y → ∃ x, o = some x ∧ f x = y := fun h => Option.map_eq_some_iff.mp h
    refine ⟨fun s cs h => ?_, fun ss cb h => ?_⟩
    · have h0 := h
      unfold coS at h
      split at h
      · -- x = e
        split at h
        · split at h
          · rename_i hc
            split at h
            · rename_i j i e1 e2
              cases h
              obtain ⟨rfl, hl⟩ := hc
              obtain ⟨q1, q2, q3⟩ := stor_ok k e1
              refine snds_pop k e2 hl (fun d τ τ' ha F m S σ H v gg ev hv Q q => ?_) swst_name rfl
              simp only [Pat.asg, Option.some.injEq] at ha
              subst ha
              exact sg_of (pg_name k.nd q1 q2 q3) (q _ (ev.setVal hv) (fun H0 ho => ho.setVal) fun ws hw => wipe_set (hw j (by simp [Pat.slots])))
            · cases h
          · cases h
        · exact co_asgN (n := n) (i := 0) k h
      · -- (..) = e
        rw [coS_tup_eq] at h0
        split at h0
        · split at h0
          · rename_i hc
            split at h0
            · rename_i p i e1 e2
              cases h0
              obtain ⟨rfl, hl⟩ := hc
              exact snds_pop k e2 hl ((patOf_snd k 8).1 _ p e1).2 swst_call rfl
            · cases h0
          · cases h0
        · split at h0
          · rename_i hc
            simp only [Bool.and_eq_true, Bool.not_eq_true'] at hc
            split at h0
            · rename_i is as e1 e2
              split at h0
              · rename_i hd
                simp only [Bool.and_eq_true, Bool.not_eq_true', decide_eq_true_eq] at hd
                cases h0
                obtain ⟨q1, q2⟩ := (co_snd 60).A k e2
                exact snds_par k hc.1.1.2 hc.1.2 hc.2 e1 hd.1.1 hd.1.2 hd.2 (snda_of q2 q1)
              · cases h0
            · split at h0
              · rename_i hn
                exact co_asgT k rfl hn h0
              · cases h0
          · split at h0
            · rename_i hn
              exact co_asgT k rfl hn h0
            · cases h0
        · rename_i hne
          split at h0
          · cases h0
          · rename_i hl
            exact co_asgT k (by simpa using hl) (noSwap_other fun vs k p e => hne vs k p e) h0
      · -- x[a] = e
        split at h
        · cases h
        rename_i hl
        split at h
        · rename_i j ca ce e1 e2 e3
          have hr : cs = .put j ca ce := by
            split at h
            · cases h
            · cases h
            · cases h; rfl
          subst hr
          exact snds_put k e1 (by simpa using hl) (coE_slice e2) ((co_snd 60).E k e2) ((co_snd 60).E k e3)
        · cases h
      · -- o.f = e
        split at h
        · cases h
        rename_i hl
        have hl := or3 hl
        split at h
        · rename_i ca ce e1 e2
          cases h
          exact snds_fset k (of_decide_eq_true hl.2) hl.1 ((co_snd 60).E k e1) ((co_snd 60).E k e2)
        · cases h
      · -- x += e
        split at h
        · rename_i i p ce e1 e2 e3
          cases h
          exact snds_aug k e1 e2 ((co_snd 60).E k e3)
        · cases h
      · cases h
        exact snds_doc
      · -- x.append(a)
        split at h
        · cases h
        rename_i hl
        have hl' := by simpa using hl
        split at h
        · rename_i hm
          subst hm
          split at h
          · rename_i i ca e1 e2
            cases h
            exact snds_app k e1 (by simpa using hl) (coE_star e2) ((co_snd 60).E k e2)
          · cases h
        · split at h
          · rename_i hm
            subst hm
            split at h
            · rename_i i ca e1 e2
              cases h
              exact snds_ext k e1 (by simpa using hl) (coE_star e2) ((co_snd 60).E k e2)
            · cases h
          · cases h
      · split at h
        · cases h
        rename_i hl
        obtain ⟨ce, h1, rfl⟩ := mp h
        exact snds_drop (by simpa using hl) ((co_snd 60).E k h1)
      · split at h
        · rename_i ct ba bb e1 e2 e3
          cases h
          exact snds_if ((co_snd 60).T k e1).1 (ih2 _ _ e2) (ih2 _ _ e3)
        · cases h
      · split at h
        · rename_i ct ba e1 e2
          cases h
          exact snds_while hp ((co_snd 60).T k e1).1 (ih2 _ _ e2)
        · cases h
      · split at h
        · rename_i p ci cb e1 e2 e3
          cases h
          exact snds_for k hp ((co_snd 60).I k e2) (coI_set e2) ((patOf_snd k 8).1 _ p e1).2 (ih2 _ _ e3)
        · cases h
      · obtain ⟨ce, h1, rfl⟩ := mp h
        exact snds_ret ((co_snd 60).E k h1)
      · cases h; exact snds_retN
      · cases h; exact snds_pass
      · cases h; exact snds_brk
      · cases h; exact snds_cont
      · cases h; exact snds_never
      · cases h
    · cases ss with
      | nil =>
        have h : some CB.nil = some cb := h
        cases h
        exact sndb_nil
      | cons s ss =>
        have h : (match coS g n s, coB g n ss with | some c, some cs => some (CB.cons (fzN g s) c cs) | _, _ => none) = some cb := h
        split at h
        · rename_i cs cb e1 e2
          cases h
          exact sndb_cons (ih1 _ _ e1) (ih2 _ _ e2)
        · cases h
end
end Co
end

section
set_option maxHeartbeats 0
set_option Elab.async false
set_option linter.all false
set_option maxRecDepth 100000
/-! Co13: all defs of a law at once. -/
namespace Co
open PySem L2

structure DefD where
  x : Str
  qual : Str
  st : Stmt
  N : List Str
  np : Nat
  body : CB
/-- a law's text, as data -/
structure Lw where
  defs : List DefD
  globs : List D
  inits : List (Option Nat)
  eqs : List (Option Nat)
  fns : List (Str × Nat)
  gl : List (Str × Nat)
  cls : List (Str × Nat)
  free : List Str
  gcd : Bool
  atrs : List Str
def Lw.gm (L : Lw) (N : List Str) (sc : Scope) : Gm := ⟨N, sc, none, L.fns, L.gl, L.cls, L.free, L.gcd, L.atrs⟩
def Lw.prg (L : Lw) : Prg := ⟨L.defs.map fun d => ⟨d.np, d.N.length, d.body⟩, L.globs, L.inits, L.eqs⟩
/-- the compiler's word of one def -/
structure DefOk (L : Lw) (d : DefD) : Prop where
  co : coB (L.gm d.N (defScope d.st)) 60 (defBody d.st) = some d.body
  sc : FnScope d.N (d.N.take d.np) (defScope d.st)
  np : d.np ≤ d.N.length
/-- the law's text as the top has made it -/
structure Lw.At (L : Lw) (K : PySem.W.Frag) (mg : Str → Option Value) (fa cl : List Addr) : Prop where
  ok : ∀ d ∈ L.defs, DefOk L d
  fn : Paired (fun (d : DefD) (f : Addr) => ∃ fd, L2.Fun K d.x d.qual d.st f fd ∧ Binds K fd (d.N.take d.np) []) L.defs fa
  fns : ∀ p ∈ L.fns, ∃ f, fa[p.2]? = some f ∧ mg p.1 = some (.ref f)
  gl : ∀ p ∈ L.gl, ∃ d u v, L.globs[p.2]? = some d ∧ mg p.1 = some u ∧ RelV v u ∧ ∀ F m, Is K F m d v
  cls : ∀ p ∈ L.cls, ∃ C, cl[p.2]? = some C ∧ mg p.1 = some (.ref C) ∧ MkOk K C ∧ ∀ io, L.inits[p.2]? = some io → (match io with
    | none => PySem.W.findIn K (.ref C) "__init__" = some (some (.builtin "object.__init__"))
    | some j => ∃ f, fa[j]? = some f ∧ PySem.W.findIn K (.ref C) "__init__" = some (some (.ref f)) ∧ PySem.W.isFn K (.ref f) = true)
  atr : ∀ (i : Nat) (C : Addr) (f : Str), cl[i]? = some C → f ∈ L.atrs → NoAttr K C f
  clsOk : ClsOk K cl
  eqn : ∀ (i : Nat) (C : Addr) (io : Option Nat), cl[i]? = some C → L.eqs[i]? = some io → (match io with
    | none => PySem.W.findIn K (.ref C) "__eq__" = some (some (.builtin "object.__eq__"))
    | some j => ∃ f, fa[j]? = some f ∧ PySem.W.findIn K (.ref C) "__eq__" = some (some (.ref f)) ∧ PySem.W.isFn K (.ref f) = true)
  gcd : L.gcd = true → mg "gcd" = some (.builtin "math.gcd")
  free : ∀ x ∈ L.free, mg x = none

theorem Paired.at {α β : Type} {R : α → β → Prop} {as : List α} {bs : List β} (h : Paired R as bs) : ∀ (i : Nat) (a : α), as[i]? = some a → ∃ b, bs[i]? = some b ∧ R a b := by
  induction h with
  | nil => intro i a e; simp at e
  | cons h1 h2 ih =>
    intro i a e
    cases i with
    | zero => simp at e; subst e; exact ⟨_, by simp, h1⟩
    | succ i => simp at e; obtain ⟨b, q1, q2⟩ := ih i a e; exact ⟨b, by simpa using q1, q2⟩
theorem callN_len {P : Prg} {n i : Nat} {ds : List D} {S : Store} {r : D × Store} {fd : Fd} (h : callN P n i ds S = some r) (hf : P.fns[i]? = some fd) : ds.length = fd.np := by
  cases n with
  | zero => simp [callN] at h
  | succ n =>
    simp only [callN, hf] at h
    split at h
    · assumption
    · cases h
section
variable {L : Lw} {P : Program} {w : World} {K : PySem.W.Frag} {mg : Str → Option Value} {base : Heap} {fa cl : List Addr}
/-- all defs to the depth n -/
def Lv (L : Lw) (P : Program) (w : World) (K : PySem.W.Frag) (mg : Str → Option Value) (base : Heap) (fa cl : List Addr) (n : Nat) : Prop :=
  ∀ (i : Nat) (d : DefD) (f : Addr) (fd : FuncData), L.defs[i]? = some d → fa[i]? = some f → L2.Fun K d.x d.qual d.st f fd → FnOk P w K mg base CX0 (2 * n) f fd (d.N.take d.np) (spC K cl (callN L.prg n) i d.np)
theorem kn_of (A : L.At K mg fa cl) {n : Nat} (lv : Lv L P w K mg base fa cl n) {d : DefD} (ok : DefOk L d) {f : Addr} {cdv : Value} {A' : Around} {outer : List PySem.Env} {s : Shared} {H : Hp} {E : XK}
    (hr : Room (2 * n + 1) (A'.deeper (PyProof.Rows.envOfC d.qual (defScope d.st) s.heap.objs.size f cdv))) :
    Kn ⟨callN L.prg n, L.globs, L.inits, L.eqs⟩ cl (L.gm d.N (defScope d.st)) (cxOf CX0 P w K mg base d.N d.qual (defScope d.st) f cdv A' outer s H E).nox where
  N := rfl
  nd := ok.sc.nd
  sc := rfl
  kd := ok.sc.kind
  calm := rfl
  fnc := fun _ _ => rfl
  free := fun x h => A.free x h
  glob := fun x i h => A.gl (x, i) (PySem.mem_of_lookup h)
  fn := fun x i h => by
    obtain ⟨f, h1, h2⟩ := A.fns (x, i) (PySem.mem_of_lookup h)
    have hi : i < fa.length := (List.getElem?_eq_some_iff.mp h1).1
    have hi2 : i < L.defs.length := by rw [Paired.length A.fn]; exact hi
    have hd : L.defs[i]? = some L.defs[i] := by simp [hi2]
    obtain ⟨f', q1, fd, q2, q3⟩ := Paired.at A.fn i _ hd
    have e : f' = f := by rw [q1] at h1; exact Option.some.inj h1
    subst e
    have hnp : (L.defs[i].N.take L.defs[i].np).length = L.defs[i].np := by
      rw [List.length_take]
      have := (A.ok L.defs[i] (List.getElem_mem hi2)).np
      omega
    refine ⟨f', fd, _, 2 * n, h2, q2.kp, hr.mono (by omega), q3, ?_, fun ds S r hc => ?_⟩
    · rw [hnp]
      exact lv i _ f' fd hd q1 q2
    · rw [hnp]
      exact callN_len hc (fd := ⟨L.defs[i].np, L.defs[i].N.length, L.defs[i].body⟩) (by simp [Lw.prg, hi2])
  cls := fun x i h => by
    obtain ⟨C, h1, h2, _⟩ := A.cls (x, i) (PySem.mem_of_lookup h)
    exact ⟨C, h1, h2⟩
  mkc := fun x i io h hio => by
    obtain ⟨C, h1, h2, h3, h4⟩ := A.cls (x, i) (PySem.mem_of_lookup h)
    refine ⟨C, h1, h2, h3, ?_⟩
    have h5 := h4 io hio
    cases io with
    | none => exact h5
    | some j =>
      obtain ⟨f, k1, k2, k3⟩ := h5
      have hi : j < fa.length := (List.getElem?_eq_some_iff.mp k1).1
      have hi2 : j < L.defs.length := by rw [Paired.length A.fn]; exact hi
      have hd : L.defs[j]? = some L.defs[j] := by simp [hi2]
      obtain ⟨f', q1, fd, q2, q3⟩ := Paired.at A.fn j _ hd
      have e : f' = f := by rw [q1] at k1; exact Option.some.inj k1
      subst e
      have hnp : (L.defs[j].N.take L.defs[j].np).length = L.defs[j].np := by
        rw [List.length_take]
        have := (A.ok L.defs[j] (List.getElem_mem hi2)).np
        omega
      refine ⟨f', fd, _, 2 * n, k2, k3, hr, q3, ?_, fun ds S r hc => ?_⟩
      · rw [hnp]
        exact lv j _ f' fd hd q1 q2
      · rw [hnp]
        exact callN_len hc (fd := ⟨L.defs[j].np, L.defs[j].N.length, L.defs[j].body⟩) (by simp [Lw.prg, hi2])
  atr := A.atr
  clsOk := A.clsOk
  eqn := fun i C io hC hio => by
    have h5 := A.eqn i C io hC hio
    cases io with
    | none => exact h5
    | some j =>
      obtain ⟨f, k1, k2, k3⟩ := h5
      have hi : j < fa.length := (List.getElem?_eq_some_iff.mp k1).1
      have hi2 : j < L.defs.length := by rw [Paired.length A.fn]; exact hi
      have hd : L.defs[j]? = some L.defs[j] := by simp [hi2]
      obtain ⟨f', q1, fd, q2, q3⟩ := Paired.at A.fn j _ hd
      have e : f' = f := by rw [q1] at k1; exact Option.some.inj k1
      subst e
      have hnp : (L.defs[j].N.take L.defs[j].np).length = L.defs[j].np := by
        rw [List.length_take]
        have := (A.ok L.defs[j] (List.getElem_mem hi2)).np
        omega
      refine ⟨f', fd, _, 2 * n, k2, k3, hr, q3, ?_, fun ds S r hc => ?_⟩
      · rw [hnp]
        exact lv j _ f' fd hd q1 q2
      · rw [hnp]
        exact callN_len hc (fd := ⟨L.defs[j].np, L.defs[j].N.length, L.defs[j].body⟩) (by simp [Lw.prg, hi2])
  gcd := A.gcd
  hu := hr.mono (by omega)
theorem env_start {F H : Hp} {m : List Addr} {ds : List D} {vs : List V} {N : List Str} {np : Nat} (hl : ds.length = np) (hn : np ≤ N.length) (hi : IsA K F m ds vs) : EnvOk K F m (ds.map Slot.val ++ List.replicate (N.length - np) Slot.non) (L2.start N vs) H ∧ ∀ H0, Own H0 (ds.map Slot.val ++ List.replicate (N.length - np) Slot.non) (L2.start N vs) := by
  have hlen := hi.len
  have own : ∀ i, isOwn (ds.map Slot.val ++ List.replicate (N.length - np) Slot.non)[i]? = false := fun i => by
    by_cases h : i < ds.length
    · rw [List.getElem?_append_left (by simpa using h)]
      simp [h, isOwn]
    · rw [List.getElem?_append_right (by simpa using h), List.getElem?_replicate]
      split <;> rfl
  refine ⟨⟨by unfold L2.start; simp [hl, ← hlen], fun i s e => ?_, fun i j p _ h _ => by rw [own i] at h; cases h⟩, fun H0 i p h => by rw [own i] at h; cases h⟩
  by_cases h : i < ds.length
  · rw [List.getElem?_append_left (by simpa using h)] at e
    rw [List.getElem?_map] at e
    have hd : ds[i]? = some ds[i] := by simp [h]
    rw [hd] at e
    cases e
    obtain ⟨v, h1, h2⟩ := hi.get hd
    refine ⟨v, ?_, h2⟩
    unfold L2.start
    have hv : i < (vs.map some).length := by rw [List.length_map, ← hlen]; exact h
    rw [List.getElem?_append_left hv, List.getElem?_map, h1]
    rfl
  · rw [List.getElem?_append_right (by simpa using h), List.getElem?_replicate] at e
    split at e
    · cases e; exact True.intro
    · cases e
theorem all_defs (A : L.At K mg fa cl) : ∀ n, Lv L P w K mg base fa cl n
  | 0 => fun i d f fd _ _ _ => ⟨fun vs H Q E h => by obtain ⟨ds, S, d', S', F, m, _, h2, _⟩ := h; simp [callN] at h2, fun A outer s H args us vs Q E _ _ _ _ h => by obtain ⟨ds, S, d', S', F, m, _, h2, _⟩ := h; simp [callN] at h2⟩
  | n + 1 => fun i d f fd hd hf F => by
    have ih := all_defs A n
    have ok := A.ok d (List.mem_of_getElem? hd)
    have hnp : (d.N.take d.np).length = d.np := by rw [List.length_take]; have := ok.np; omega
    have hfn : L.prg.fns[i]? = some ⟨d.np, d.N.length, d.body⟩ := by simp [Lw.prg, hd]
    refine F.ok (k := 2 * n + 1) ok.sc (fun vs H Q E h => ?_) (fun cdv A' outer s H vs Q E hr h => ?_)
    · obtain ⟨ds, S, d', S', F, m, h1, _, _, h4, _⟩ := h
      rw [hnp, ← h1, h4.len]
    · obtain ⟨ds, S, d', S', F, m, h1, h2, h3, h4, h5⟩ := h
      have k := kn_of A ih ok (outer := outer) (H := H) (E := E) hr
      refine ⟨_, pss_sss, ?_⟩
      simp only [callN, hfn, if_pos h1] at h2
      cases eo : exB ⟨callN L.prg n, L.globs, L.inits, L.eqs⟩ d.body (ds.map Slot.val ++ List.replicate (d.N.length - d.np) Slot.non) S with
      | none => unfold Lw.prg at eo; rw [show L.prg.globs = L.globs from rfl, show L.prg.inits = L.inits from rfl, show L.prg.eqs = L.eqs from rfl] at h2; rw [show callN L.prg n = callN ⟨L.defs.map fun d => ⟨d.np, d.N.length, d.body⟩, L.globs, L.inits, L.eqs⟩ n from rfl, eo] at h2; cases h2
      | some o =>
        have h2 : (match (some o : Option Out) with | some (.nx _ S') => some (D.non, S') | some (.ret d S') => some (d, S') | _ => none) = some (d', S') := by rw [← eo]; exact h2
        obtain ⟨ev, ow⟩ := env_start (H := H) h1 ok.np h4
        refine (co_S PassesOwn.never k 60).2 (defBody d.st) d.body ok.co _ S o eo F m H F m _ H ⟨Stp.refl, h3, ev, ow H⟩ _ ?_
        cases o with
        | nx τ' S2 =>
          cases h2
          exact fun F' m' σ' H' _ _ ok' => h5 F' m' H' .non ok'.st ok'.g (by simp [Is])
        | ret d2 S2 =>
          cases h2
          exact fun F' m' H' v _ _ k1 k2 k3 => h5 F' m' H' v k1 k2 k3
        | brk _ _ => cases h2
        | ct _ _ => cases h2
end
end Co
end

section
set_option maxHeartbeats 0
set_option Elab.async false
set_option linter.all false
set_option maxRecDepth 100000
/-! Co14: the classes' facts from words of the written part; the law's own promise. -/
namespace Co
open PySem L2
structure ClsF (K : PySem.W.Frag) (C : Addr) : Prop where
  c : Cls K C
  cla : PySem.W.findIn K (.ref C) "__class__" = some (some (.builtin "object.__class__"))
  mro : PySem.W.mroIn K C (.type "object") = some true
  ty : PySem.W.typeIn K (.ref C) = some (.type "type")
  ci : (PySem.W.clsIn K C).isSome = true
  sb : ∀ n ∈ (["int", "bool", "str", "tuple", "list"] : List String), PySem.W.subIn K (.ref C) (.type n) = some false
  nen : PySem.W.findIn K (.ref C) "__ne__" = some (some (.builtin "object.__ne__"))
theorem kitRef {K : PySem.W.Frag} {t : Value} {C : Addr} {b : Bool} (hne : (t == Value.ref C) = false) (ci : (PySem.W.clsIn K C).isSome = true) (ty : PySem.W.typeIn K (.ref C) = some (.type "type")) (sb : PySem.W.subIn K t (.ref C) = some b) : PySem.W.kitOne K t (.ref C) = some b := by
  unfold PySem.W.kitOne
  rw [hne, if_neg Bool.false_ne_true]
  unfold PySem.W.kitCls
  simp only
  rw [ci, ty]
  simpa using sb
theorem sub_bi {K : PySem.W.Frag} {C : Addr} {n : String} (h : n ∈ (["int", "bool", "str", "tuple", "list", "NoneType", "dict"] : List String)) : PySem.W.subIn K (.type n) (.ref C) = some false := by
  have key : ∀ {ms : List Value}, fastBuiltinMro n = some ms → ms.contains (.ref C) = false → PySem.W.subIn K (.type n) (.ref C) = some false := by
    intro ms e q
    show (fastBuiltinMro n).map (·.contains (.ref C)) = some false
    rw [e]
    show some (ms.contains (.ref C)) = some false
    rw [q]
  simp only [List.mem_cons, List.not_mem_nil, or_false] at h
  rcases h with rfl | rfl | rfl | rfl | rfl | rfl | rfl
  · exact key (ms := [.type "int", .type "object"]) (by decide +kernel) rfl
  · exact key (ms := [.type "bool", .type "int", .type "object"]) (by decide +kernel) rfl
  · exact key (ms := [.type "str", .type "object"]) (by decide +kernel) rfl
  · exact key (ms := [.type "tuple", .type "object"]) (by decide +kernel) rfl
  · exact key (ms := [.type "list", .type "object"]) (by decide +kernel) rfl
  · exact key (ms := [.type "NoneType", .type "object"]) (by decide +kernel) rfl
  · exact key (ms := [.type "dict", .type "object"]) (by decide +kernel) rfl
theorem clsOk_of {K : PySem.W.Frag} {cl : List Addr} (h : ∀ C ∈ cl, ClsF K C) (nd : cl.Nodup) (clg : PySem.W.specialIn K (.builtin "object.__class__") "__get__" = some (some (.builtin "getset_descriptor.__get__"))) (clt : PySem.W.takesIn K (.builtin "object.__class__") = some true)
    (pp : ∀ C ∈ cl, ∀ C' ∈ cl, C ≠ C' → PySem.W.subIn K (.ref C) (.ref C') = some false) : ClsOk K cl where
  cls := fun c C e => (h C (List.mem_of_getElem? e)).c
  cla := fun c C e => (h C (List.mem_of_getElem? e)).cla
  clg := clg
  clt := clt
  mro := fun c C e => (h C (List.mem_of_getElem? e)).mro
  oo := fun c C c' C' e e' => by
    by_cases hc : c = c'
    · subst hc
      rw [e] at e'; cases e'
      unfold PySem.W.kitOne
      simp
    · have hC : C ≠ C' := fun z => by
        subst z
        obtain ⟨p1, e1⟩ := List.getElem?_eq_some_iff.mp e
        obtain ⟨p2, e2⟩ := List.getElem?_eq_some_iff.mp e'
        exact hc ((List.getElem_inj nd).mp (e1.trans e2.symm))
      rw [decide_eq_false hc]
      have f := h C' (List.mem_of_getElem? e')
      exact kitRef (by simp [hC]) f.ci f.ty (pp C (List.mem_of_getElem? e) C' (List.mem_of_getElem? e') hC)
  ob := fun c C n e hn => by
    have f := h C (List.mem_of_getElem? e)
    have hm : PySem.W.kitMeta n = true := by
      simp only [List.mem_cons, List.not_mem_nil, or_false] at hn
      rcases hn with rfl | rfl | rfl | rfl | rfl <;> decide +kernel
    unfold PySem.W.kitOne
    rw [if_neg (by simp)]
    unfold PySem.W.kitCls
    simp only
    rw [if_pos hm]
    exact f.sb n hn
  bo := fun c C n e hn => by
    have f := h C (List.mem_of_getElem? e)
    exact kitRef (by simp) f.ci f.ty (sub_bi hn)
  inj := nd
  nen := fun c C e => (h C (List.mem_of_getElem? e)).nen

/-- the law's promise: a script in, True out -/
def spLaw (K : PySem.W.Frag) : Sp := fun vs H Q _ => ∃ (a : Addr) (ns : List Int), vs = [.ref a] ∧ SqL K H a (ns.map V.int) ∧ ns.length ≤ 63 ∧ ∀ H', Q (.bl true) H'
theorem law_ok {L : Lw} {P : Program} {w : World} {K : PySem.W.Frag} {mg : Str → Option Value} {base : Heap} {fa cl : List Addr} (A : L.At K mg fa cl) {n i : Nat} {d : DefD} {f : Addr} {fd : FuncData} (hd : L.defs[i]? = some d) (hf : fa[i]? = some f) (F : L2.Fun K d.x d.qual d.st f fd) (hnp : d.np = 1)
    (math : ∀ ns : List Int, ns.length ≤ 63 → ∃ S', callN L.prg n i [.scr (ns.map D.int)] [] = some (.bl true, S')) : FnOk P w K mg base CX0 (2 * n) f fd (d.N.take d.np) (spLaw K) := by
  refine (all_defs A n i d f fd hd hf F).imp fun vs H Q E h => ?_
  obtain ⟨a, ns, rfl, hS, hl, q⟩ := h
  obtain ⟨S', e⟩ := math ns hl
  refine ⟨[.scr (ns.map D.int)], [], .bl true, S', H, [], by simp [hnp], e, ⟨Same.refl _, rfl, .nil, fun i a o h => by simp at h⟩, IsA.one ?_, fun F' m' H' v _ _ hv => ?_⟩
  · simp only [Is]
    exact ⟨a, _, rfl, hS, IsA.ofInts ns⟩
  · rw [is_bl.mp hv]
    exact q H'
end Co
end

section
set_option maxHeartbeats 0
set_option Elab.async false
set_option linter.all false
set_option maxRecDepth 100000
/-! the law's text as data, printed by gen.py -/
namespace K56
open PySem L2 Co
def top (i : Nat) : Stmt := PySem.Challenge.pw_roundfractions_k56_judge_shared_and_unsh.main.body.getD i (.Pass ⟨0, 0, 0, 0⟩)
def gFns : List (Str × Nat) := [(("is_integer" : Str), 0), (("is_ratio" : Str), 1), (("pair" : Str), 2), (("in_lowest" : Str), 3), (("added" : Str), 4), (("opposite" : Str), 5), (("multiplied" : Str), 6), (("divided" : Str), 7), (("as_tuples" : Str), 8), (("is_list" : Str), 9), (("same_told" : Str), 10), (("is_poly" : Str), 11), (("need_poly" : Str), 12), (("tidy" : Str), 13), (("added_by" : Str), 14), (("scaled_by" : Str), 15), (("less_poly" : Str), 16), (("times_by" : Str), 17), (("after_by" : Str), 18), (("iterate_by" : Str), 19), (("need_moved" : Str), 20), (("centre_by" : Str), 21), (("power_by" : Str), 22), (("power_of" : Str), 27), (("turned_about" : Str), 28), (("is_odd_about" : Str), 29), (("shared_by" : Str), 30), (("shared_or_not" : Str), 31), (("shared_holds" : Str), 32), (("_law_pen" : Str), 33), (("_law_draw" : Str), 34), (("_law_pick" : Str), 35), (("_law_is" : Str), 36), (("_law_says" : Str), 37), (("_law_divisor" : Str), 38), (("_law_low" : Str), 39), (("_law_pair" : Str), 40), (("_law_plus" : Str), 41), (("_law_times" : Str), 42), (("_law_poly_tidy" : Str), 43), (("_law_poly_sum" : Str), 44), (("_law_poly_times" : Str), 45), (("_law_poly_after" : Str), 46), (("_law_poly_scaled" : Str), 47), (("_law_poly_more" : Str), 48), (("_law_c_small" : Str), 49), (("_law_known" : Str), 50), (("law" : Str), 51)]
def gGlobs : List (Str × Nat) := [(("MOST_ITEMS" : Str), 0), (("MOST_MOVED" : Str), 1), (("MOST_DEGREE" : Str), 2)]
def gClss : List (Str × Nat) := [(("Shared" : Str), 0), (("Unshared" : Str), 1)]
def gFree : List Str := ["len", "abs", "int", "list", "tuple", "all", "max", "isinstance", "range", "enumerate", "zip", "bool", "str"]
def gAtrs : List Str := ["m", "n", "why", "place"]
/-- is_integer(value) -/
abbrev s0 : Stmt := top 6
def n0 : List Str := ["value"]
def b0 : CB := (.cons [] (.ret (.andV (.isi (.var 0) [.int]) (.notV (.isi (.var 0) [.bool])))) .nil)
def d0 : DefD := ⟨"is_integer", "is_integer", s0, n0, 1, b0⟩
/-- is_ratio(value) -/
abbrev s1 : Stmt := top 7
def n1 : List Str := ["value"]
def b1 : CB := (.cons [] (.ifs (.not (.tr (.isi (.var 0) [.tuple]))) (.cons [0] (.ret (.call 0 (.cons (.var 0) .nil))) .nil) .nil) (.cons [] (.ifs (.or (.tr (.cmp .ne (.bi .len (.var 0)) (.const (.int (2))))) (.or (.not (.tr (.call 0 (.cons (.idx (.var 0) (.const (.int (0)))) .nil)))) (.not (.tr (.call 0 (.cons (.idx (.var 0) (.const (.int (1)))) .nil)))))) (.cons [] (.ret (.const (.bl false))) .nil) .nil) (.cons [] (.ret (.andV (.cmp .gt (.idx (.var 0) (.const (.int (1)))) (.const (.int (1)))) (.cmp .eq (.bi2 .gcd (.idx (.var 0) (.const (.int (0)))) (.idx (.var 0) (.const (.int (1))))) (.const (.int (1)))))) .nil)))
def d1 : DefD := ⟨"is_ratio", "is_ratio", s1, n1, 1, b1⟩
/-- pair(number) -/
abbrev s2 : Stmt := top 8
def n2 : List Str := ["number"]
def b2 : CB := (.cons [0, 0] (.ret (.ite (.tr (.isi (.var 0) [.int])) (.tup (.cons (.var 0) (.cons (.const (.int (1))) .nil))) (.var 0))) .nil)
def d2 : DefD := ⟨"pair", "pair", s2, n2, 1, b2⟩
/-- in_lowest(top, bottom) -/
abbrev s3 : Stmt := top 9
def n3 : List Str := ["top", "bottom", "by"]
def b3 : CB := (.cons [] (.set 2 (.ite (.tr (.cmp .gt (.var 1) (.const (.int (0))))) (.bi2 .gcd (.var 0) (.var 1)) (.neg (.bi2 .gcd (.var 0) (.var 1))))) (.cons [] (.ret (.ite (.tr (.cmp .eq (.var 1) (.var 2))) (.bin .fdiv (.var 0) (.var 2)) (.tup (.cons (.bin .fdiv (.var 0) (.var 2)) (.cons (.bin .fdiv (.var 1) (.var 2)) .nil))))) .nil))
def d3 : DefD := ⟨"in_lowest", "in_lowest", s3, n3, 2, b3⟩
/-- added(one, other) -/
abbrev s4 : Stmt := top 10
def n4 : List Str := ["one", "other", "top", "bottom", "high", "low"]
def b4 : CB := (.cons [] (.ifs (.and (.tr (.isi (.var 0) [.int])) (.tr (.isi (.var 1) [.int]))) (.cons [] (.ret (.bin .add (.var 0) (.var 1))) .nil) .nil) (.cons [0, 1] (.setP (.tcons (.tcons (.nm 2) (.tcons (.nm 3) .tnil)) (.tcons (.tcons (.nm 4) (.tcons (.nm 5) .tnil)) .tnil)) (.tup (.cons (.call 2 (.cons (.var 0) .nil)) (.cons (.call 2 (.cons (.var 1) .nil)) .nil)))) (.cons [] (.ret (.call 3 (.cons (.bin .add (.bin .mul (.var 2) (.var 5)) (.bin .mul (.var 4) (.var 3))) (.cons (.bin .mul (.var 3) (.var 5)) .nil)))) .nil)))
def d4 : DefD := ⟨"added", "added", s4, n4, 2, b4⟩
/-- opposite(number) -/
abbrev s5 : Stmt := top 11
def n5 : List Str := ["number"]
def b5 : CB := (.cons [] (.ret (.ite (.tr (.isi (.var 0) [.int])) (.neg (.var 0)) (.tup (.cons (.neg (.idx (.var 0) (.const (.int (0))))) (.cons (.idx (.var 0) (.const (.int (1)))) .nil))))) .nil)
def d5 : DefD := ⟨"opposite", "opposite", s5, n5, 1, b5⟩
/-- multiplied(one, other) -/
abbrev s6 : Stmt := top 12
def n6 : List Str := ["one", "other", "top", "bottom", "high", "low"]
def b6 : CB := (.cons [] (.ifs (.and (.tr (.isi (.var 0) [.int])) (.tr (.isi (.var 1) [.int]))) (.cons [] (.ret (.bin .mul (.var 0) (.var 1))) .nil) .nil) (.cons [0, 1] (.setP (.tcons (.tcons (.nm 2) (.tcons (.nm 3) .tnil)) (.tcons (.tcons (.nm 4) (.tcons (.nm 5) .tnil)) .tnil)) (.tup (.cons (.call 2 (.cons (.var 0) .nil)) (.cons (.call 2 (.cons (.var 1) .nil)) .nil)))) (.cons [] (.ret (.call 3 (.cons (.bin .mul (.var 2) (.var 4)) (.cons (.bin .mul (.var 3) (.var 5)) .nil)))) .nil)))
def d6 : DefD := ⟨"multiplied", "multiplied", s6, n6, 2, b6⟩
/-- divided(one, other) -/
abbrev s7 : Stmt := top 13
def n7 : List Str := ["one", "other", "top", "bottom", "high", "low"]
def b7 : CB := (.cons [0, 1] (.setP (.tcons (.tcons (.nm 2) (.tcons (.nm 3) .tnil)) (.tcons (.tcons (.nm 4) (.tcons (.nm 5) .tnil)) .tnil)) (.tup (.cons (.call 2 (.cons (.var 0) .nil)) (.cons (.call 2 (.cons (.var 1) .nil)) .nil)))) (.cons [] (.ret (.call 3 (.cons (.bin .mul (.var 2) (.var 5)) (.cons (.bin .mul (.var 3) (.var 4)) .nil)))) .nil))
def d7 : DefD := ⟨"divided", "divided", s7, n7, 2, b7⟩
/-- as_tuples(value) -/
abbrev s8 : Stmt := top 15
def n8 : List Str := ["value", "one"]
def b8 : CB := (.cons [] (.ifs (.tr (.isi (.var 0) [.list, .tuple])) (.cons [] (.ret (.bi .tuple (.lc (.nm 1) [1] (.seq (.var 0)) .yes (.call 8 (.cons (.var 1) .nil))))) .nil) .nil) (.cons [0] (.ret (.var 0)) .nil))
def d8 : DefD := ⟨"as_tuples", "as_tuples", s8, n8, 1, b8⟩
/-- is_list(value) -/
abbrev s9 : Stmt := top 16
def n9 : List Str := ["value"]
def b9 : CB := (.cons [] (.ret (.isi (.var 0) [.list, .tuple])) .nil)
def d9 : DefD := ⟨"is_list", "is_list", s9, n9, 1, b9⟩
/-- same_told(due, value) -/
abbrev s10 : Stmt := top 17
def n10 : List Str := ["due", "value", "one", "other"]
def b10 : CB := (.cons [] (.ifs (.tr (.isi (.var 0) [.tuple])) (.cons [] (.ifs (.or (.not (.tr (.isi (.var 1) [.tuple]))) (.tr (.cmp .ne (.bi .len (.var 1)) (.bi .len (.var 0))))) (.cons [] (.ret (.const (.bl false))) .nil) .nil) (.cons [] (.ret (.bi .all (.lc (.tcons (.nm 2) (.tcons (.nm 3) .tnil)) [2, 3] (.zip (.var 0) (.var 1)) .yes (.call 10 (.cons (.var 2) (.cons (.var 3) .nil)))))) .nil)) .nil) (.cons [] (.ifs (.or (.tr (.isi (.var 0) [.bool])) (.tr (.isi (.var 1) [.bool]))) (.cons [] (.ret (.andV (.isi (.var 0) [.bool]) (.andV (.isi (.var 1) [.bool]) (.cmp .eq (.var 0) (.var 1))))) .nil) .nil) (.cons [0] (.ifs (.tr (.call 0 (.cons (.var 0) .nil))) (.cons [1] (.ret (.andV (.call 0 (.cons (.var 1) .nil)) (.cmp .eq (.var 1) (.var 0)))) .nil) .nil) (.cons [] (.ret (.cmp .eq (.var 1) (.var 0))) .nil))))
def d10 : DefD := ⟨"same_told", "same_told", s10, n10, 2, b10⟩
/-- is_poly(value) -/
abbrev s11 : Stmt := top 20
def n11 : List Str := ["value", "one"]
def b11 : CB := (.cons [] (.ifs (.or (.not (.tr (.isi (.var 0) [.tuple]))) (.or (.tr (.cmp .gt (.bi .len (.var 0)) (.glob 0))) (.not (.tr (.bi .all (.lc (.nm 1) [1] (.seq (.var 0)) .yes (.call 1 (.cons (.var 1) .nil)))))))) (.cons [] (.ret (.const (.bl false))) .nil) .nil) (.cons [] (.ret (.orV (.cmp .eq (.var 0) (.tup .nil)) (.cmp .ne (.idx (.var 0) (.neg (.const (.int (1))))) (.const (.int (0)))))) .nil))
def d11 : DefD := ⟨"is_poly", "is_poly", s11, n11, 1, b11⟩
/-- need_poly(poly, what) -/
abbrev s12 : Stmt := top 21
def n12 : List Str := ["poly", "what", "told"]
def b12 : CB := (.cons [0, 0] (.set 2 (.ite (.tr (.call 9 (.cons (.var 0) .nil))) (.bi .tuple (.var 0)) (.var 0))) (.cons [2] (.ifs (.not (.tr (.call 11 (.cons (.var 2) .nil)))) (.cons [] .never .nil) .nil) (.cons [2] (.ret (.var 2)) .nil)))
def d12 : DefD := ⟨"need_poly", "need_poly", s12, n12, 2, b12⟩
/-- tidy(row) -/
abbrev s13 : Stmt := top 22
def n13 : List Str := ["row", "many"]
def b13 : CB := (.cons [] (.set 1 (.bi .len (.var 0))) (.cons [] (.whl (.and (.tr (.cmp .gt (.var 1) (.const (.int (0))))) (.tr (.cmp .eq (.idx (.var 0) (.bin .sub (.var 1) (.const (.int (1))))) (.const (.int (0)))))) (.cons [] (.set 1 (.bin .sub (.var 1) (.const (.int (1))))) .nil)) (.cons [] (.ret (.bi .tuple (.slH (.var 0) (.var 1)))) .nil)))
def d13 : DefD := ⟨"tidy", "tidy", s13, n13, 1, b13⟩
/-- added_by(one, other) -/
abbrev s14 : Stmt := top 23
def n14 : List Str := ["one", "other", "many", "first", "second", "x", "y"]
def b14 : CB := (.cons [] (.set 2 (.bi2 .max (.bi .len (.var 0)) (.bi .len (.var 1)))) (.cons [] (.par [3, 4] (.cons (.bin .add (.bi .tuple (.var 0)) (.bin .mul (.tup (.cons (.const (.int (0))) .nil)) (.bin .sub (.var 2) (.bi .len (.var 0))))) (.cons (.bin .add (.bi .tuple (.var 1)) (.bin .mul (.tup (.cons (.const (.int (0))) .nil)) (.bin .sub (.var 2) (.bi .len (.var 1))))) .nil))) (.cons [] (.ret (.call 13 (.cons (.lc (.tcons (.nm 5) (.tcons (.nm 6) .tnil)) [5, 6] (.zip (.var 3) (.var 4)) .yes (.call 4 (.cons (.var 5) (.cons (.var 6) .nil)))) .nil))) .nil)))
def d14 : DefD := ⟨"added_by", "added_by", s14, n14, 2, b14⟩
/-- scaled_by(poly, by) -/
abbrev s15 : Stmt := top 24
def n15 : List Str := ["poly", "by", "one"]
def b15 : CB := (.cons [1] (.ret (.call 13 (.cons (.lc (.nm 2) [2] (.seq (.var 0)) .yes (.call 6 (.cons (.var 2) (.cons (.var 1) .nil)))) .nil))) .nil)
def d15 : DefD := ⟨"scaled_by", "scaled_by", s15, n15, 2, b15⟩
/-- less_poly(one, other) -/
abbrev s16 : Stmt := top 25
def n16 : List Str := ["one", "other"]
def b16 : CB := (.cons [0, 1] (.ret (.call 14 (.cons (.var 0) (.cons (.call 15 (.cons (.var 1) (.cons (.neg (.const (.int (1)))) .nil))) .nil)))) .nil)
def d16 : DefD := ⟨"less_poly", "less_poly", s16, n16, 2, b16⟩
/-- times_by(one, other) -/
abbrev s17 : Stmt := top 26
def n17 : List Str := ["one", "other", "found", "i", "x", "k", "y"]
def b17 : CB := (.cons [] (.set 2 (.bin .mul (.lst (.cons (.const (.int (0))) .nil)) (.bin .add (.bi .len (.var 0)) (.bi .len (.var 1))))) (.cons [0] (.for (.tcons (.nm 3) (.tcons (.nm 4) .tnil)) (.enum (.var 0)) (.cons [1] (.for (.tcons (.nm 5) (.tcons (.nm 6) .tnil)) (.enum (.var 1)) (.cons [4, 6] (.put 2 (.bin .add (.var 3) (.var 5)) (.call 4 (.cons (.idx (.var 2) (.bin .add (.var 3) (.var 5))) (.cons (.call 6 (.cons (.var 4) (.cons (.var 6) .nil))) .nil)))) .nil)) .nil)) (.cons [2] (.ret (.call 13 (.cons (.var 2) .nil))) .nil)))
def d17 : DefD := ⟨"times_by", "times_by", s17, n17, 2, b17⟩
/-- after_by(one, other) -/
abbrev s18 : Stmt := top 27
def n18 : List Str := ["one", "other", "total", "x"]
def b18 : CB := (.cons [] (.set 2 (.tup .nil)) (.cons [] (.for (.nm 3) (.seq (.rev (.var 0))) (.cons [2, 1, 3] (.set 2 (.call 14 (.cons (.call 17 (.cons (.var 2) (.cons (.var 1) .nil))) (.cons (.call 13 (.cons (.tup (.cons (.var 3) .nil)) .nil)) .nil)))) .nil)) (.cons [2] (.ret (.var 2)) .nil)))
def d18 : DefD := ⟨"after_by", "after_by", s18, n18, 2, b18⟩
/-- iterate_by(lead, n) -/
abbrev s19 : Stmt := top 28
def n19 : List Str := ["lead", "n", "found", "lap"]
def b19 : CB := (.cons [] (.set 2 (.tup (.cons (.const (.int (0))) (.cons (.const (.int (1))) .nil)))) (.cons [1] (.for (.nm 3) (.rng1 (.var 1)) (.cons [0, 2] (.set 2 (.call 18 (.cons (.var 0) (.cons (.var 2) .nil)))) .nil)) (.cons [2] (.ret (.var 2)) .nil)))
def d19 : DefD := ⟨"iterate_by", "iterate_by", s19, n19, 2, b19⟩
/-- need_moved(poly, what) -/
abbrev s20 : Stmt := top 31
def n20 : List Str := ["poly", "what", "told"]
def b20 : CB := (.cons [0, 1] (.set 2 (.call 12 (.cons (.var 0) (.cons (.var 1) .nil)))) (.cons [] (.ifs (.not (.tr (.chain .le .le (.const (.int (3))) (.bi .len (.var 2)) (.glob 1)))) (.cons [] .never .nil) .nil) (.cons [2] (.ret (.var 2)) .nil)))
def d20 : DefD := ⟨"need_moved", "need_moved", s20, n20, 2, b20⟩
/-- centre_by(poly) -/
abbrev s21 : Stmt := top 32
def n21 : List Str := ["poly", "many"]
def b21 : CB := (.cons [] (.set 1 (.bin .sub (.bi .len (.var 0)) (.const (.int (1))))) (.cons [1] (.ret (.call 5 (.cons (.call 7 (.cons (.idx (.var 0) (.neg (.const (.int (2))))) (.cons (.call 6 (.cons (.var 1) (.cons (.idx (.var 0) (.neg (.const (.int (1))))) .nil))) .nil))) .nil))) .nil))
def d21 : DefD := ⟨"centre_by", "centre_by", s21, n21, 1, b21⟩
/-- power_by(number, k) -/
abbrev s22 : Stmt := top 33
def n22 : List Str := ["number", "k", "found", "lap"]
def b22 : CB := (.cons [] (.set 2 (.const (.int (1)))) (.cons [1] (.for (.nm 3) (.rng1 (.var 1)) (.cons [2, 0] (.set 2 (.call 6 (.cons (.var 2) (.cons (.var 0) .nil)))) .nil)) (.cons [2] (.ret (.var 2)) .nil)))
def d22 : DefD := ⟨"power_by", "power_by", s22, n22, 2, b22⟩
/-- Shared.__init__(self, m, n) -/
abbrev s23 : Stmt := inClass (top 36) 0
def n23 : List Str := ["self", "m", "n"]
def b23 : CB := (.cons [1] (.fset (.var 0) "m" (.call 8 (.cons (.var 1) .nil))) (.cons [2] (.fset (.var 0) "n" (.call 8 (.cons (.var 2) .nil))) .nil))
def d23 : DefD := ⟨"__init__", "Shared.__init__", s23, n23, 3, b23⟩
/-- Shared.__eq__(self, other) -/
abbrev s24 : Stmt := inClass (top 36) 1
def n24 : List Str := ["self", "other"]
def b24 : CB := (.cons [] (.ret (.andV (.isi (.var 1) [.own 0]) (.cmp .eq (.tup (.cons (.attr (.var 0) "m") (.cons (.attr (.var 0) "n") .nil))) (.tup (.cons (.attr (.var 1) "m") (.cons (.attr (.var 1) "n") .nil)))))) .nil)
def d24 : DefD := ⟨"__eq__", "Shared.__eq__", s24, n24, 2, b24⟩
/-- Unshared.__init__(self, why, place) -/
abbrev s25 : Stmt := inClass (top 37) 0
def n25 : List Str := ["self", "why", "place"]
def b25 : CB := (.cons [1] (.fset (.var 0) "why" (.call 8 (.cons (.var 1) .nil))) (.cons [2] (.fset (.var 0) "place" (.call 8 (.cons (.var 2) .nil))) .nil))
def d25 : DefD := ⟨"__init__", "Unshared.__init__", s25, n25, 3, b25⟩
/-- Unshared.__eq__(self, other) -/
abbrev s26 : Stmt := inClass (top 37) 1
def n26 : List Str := ["self", "other"]
def b26 : CB := (.cons [] (.ret (.andV (.isi (.var 1) [.own 1]) (.cmp .eq (.tup (.cons (.attr (.var 0) "why") (.cons (.attr (.var 0) "place") .nil))) (.tup (.cons (.attr (.var 1) "why") (.cons (.attr (.var 1) "place") .nil)))))) .nil)
def d26 : DefD := ⟨"__eq__", "Unshared.__eq__", s26, n26, 2, b26⟩
/-- power_of(d) -/
abbrev s27 : Stmt := top 38
def n27 : List Str := ["d", "t", "power", "k"]
def b27 : CB := (.cons [] (.for (.nm 1) (.rng2 (.const (.int (2))) (.bin .add (.var 0) (.const (.int (1))))) (.cons [1] (.par [2, 3] (.cons (.var 1) (.cons (.const (.int (1))) .nil))) (.cons [] (.whl (.tr (.cmp .lt (.var 2) (.var 0))) (.cons [] (.par [2, 3] (.cons (.bin .mul (.var 2) (.var 1)) (.cons (.bin .add (.var 3) (.const (.int (1)))) .nil))) .nil)) (.cons [] (.ifs (.tr (.cmp .eq (.var 2) (.var 0))) (.cons [1, 3] (.ret (.tup (.cons (.var 1) (.cons (.var 3) .nil)))) .nil) .nil) .nil)))) (.cons [0] (.ret (.tup (.cons (.var 0) (.cons (.const (.int (1))) .nil)))) .nil))
def d27 : DefD := ⟨"power_of", "power_of", s27, n27, 1, b27⟩
/-- turned_about(poly, z) -/
abbrev s28 : Stmt := top 39
def n28 : List Str := ["poly", "z"]
def b28 : CB := (.cons [1, 0] (.ret (.call 16 (.cons (.call 13 (.cons (.tup (.cons (.call 6 (.cons (.const (.int (2))) (.cons (.var 1) .nil))) .nil)) .nil)) (.cons (.var 0) .nil)))) .nil)
def d28 : DefD := ⟨"turned_about", "turned_about", s28, n28, 2, b28⟩
/-- is_odd_about(poly, z) -/
abbrev s29 : Stmt := top 40
def n29 : List Str := ["poly", "z"]
def b29 : CB := (.cons [0, 1, 0, 1] (.ret (.cmp .eq (.call 18 (.cons (.var 0) (.cons (.tup (.cons (.call 6 (.cons (.const (.int (2))) (.cons (.var 1) .nil))) (.cons (.neg (.const (.int (1)))) .nil))) .nil))) (.call 28 (.cons (.var 0) (.cons (.var 1) .nil))))) .nil)
def d29 : DefD := ⟨"is_odd_about", "is_odd_about", s29, n29, 2, b29⟩
/-- shared_by(one, other) -/
abbrev s30 : Stmt := top 41
def n30 : List Str := ["one", "other", "t", "first", "s", "second", "by", "m", "n", "degree", "left", "right", "z", "place"]
def b30 : CB := (.cons [] (.setP (.tcons (.tcons (.nm 2) (.tcons (.nm 3) .tnil)) (.tcons (.tcons (.nm 4) (.tcons (.nm 5) .tnil)) .tnil)) (.tup (.cons (.call 27 (.cons (.bin .sub (.bi .len (.var 0)) (.const (.int (1)))) .nil)) (.cons (.call 27 (.cons (.bin .sub (.bi .len (.var 1)) (.const (.int (1)))) .nil)) .nil)))) (.cons [] (.ifs (.tr (.cmp .ne (.var 2) (.var 4))) (.cons [] (.ret (.mk 1 (.cons (.const (.str "degrees")) (.cons (.const (.int (0))) .nil)))) .nil) .nil) (.cons [] (.set 6 (.bi2 .gcd (.var 3) (.var 5))) (.cons [] (.par [7, 8] (.cons (.bin .fdiv (.var 5) (.var 6)) (.cons (.bin .fdiv (.var 3) (.var 6)) .nil))) (.cons [7] (.set 9 (.call 22 (.cons (.bin .sub (.bi .len (.var 0)) (.const (.int (1)))) (.cons (.var 7) .nil)))) (.cons [] (.ifs (.tr (.cmp .gt (.var 9) (.glob 2))) (.cons [] .never .nil) .nil) (.cons [0, 7, 1, 8] (.setP (.tcons (.nm 10) (.tcons (.nm 11) .tnil)) (.tup (.cons (.call 19 (.cons (.var 0) (.cons (.var 7) .nil))) (.cons (.call 19 (.cons (.var 1) (.cons (.var 8) .nil))) .nil)))) (.cons [] (.ifs (.tr (.cmp .eq (.var 10) (.var 11))) (.cons [7, 8] (.ret (.mk 0 (.cons (.var 7) (.cons (.var 8) .nil)))) .nil) .nil) (.cons [10] (.set 12 (.call 21 (.cons (.var 10) .nil))) (.cons [10, 12, 10, 12] (.ifs (.and (.tr (.cmp .eq (.bin .mod (.var 9) (.const (.int (2)))) (.const (.int (1))))) (.and (.tr (.cmp .eq (.var 11) (.call 28 (.cons (.var 10) (.cons (.var 12) .nil))))) (.tr (.call 29 (.cons (.var 10) (.cons (.var 12) .nil)))))) (.cons [] (.ret (.mk 0 (.cons (.bin .mul (.const (.int (2))) (.var 7)) (.cons (.bin .mul (.const (.int (2))) (.var 8)) .nil)))) .nil) .nil) (.cons [] (.ret (.mk 1 (.cons (.const (.str "numbers")) (.cons (.bi .max (.lc (.nm 13) [13] (.rng1 (.bin .add (.var 9) (.const (.int (1))))) (.tr (.cmp .ne (.idx (.var 10) (.var 13)) (.idx (.var 11) (.var 13)))) (.var 13))) .nil)))) .nil)))))))))))
def d30 : DefD := ⟨"shared_by", "shared_by", s30, n30, 2, b30⟩
/-- shared_or_not(one, other) -/
abbrev s31 : Stmt := top 42
def n31 : List Str := ["one", "other", "first"]
def b31 : CB := (.cons [0] (.set 2 (.call 20 (.cons (.var 0) (.cons (.const (.str "one")) .nil)))) (.cons [2, 1] (.ret (.call 30 (.cons (.var 2) (.cons (.call 20 (.cons (.var 1) (.cons (.const (.str "other")) .nil))) .nil)))) .nil))
def d31 : DefD := ⟨"shared_or_not", "shared_or_not", s31, n31, 2, b31⟩
/-- shared_holds(one, other, value) -/
abbrev s32 : Stmt := top 43
def n32 : List Str := ["one", "other", "value", "due"]
def b32 : CB := (.cons [0, 1] (.set 3 (.call 31 (.cons (.var 0) (.cons (.var 1) .nil)))) (.cons [] (.ifs (.tr (.isi (.var 3) [.own 0])) (.cons [] (.ret (.andV (.isi (.var 2) [.own 0]) (.call 10 (.cons (.tup (.cons (.attr (.var 3) "m") (.cons (.attr (.var 3) "n") .nil))) (.cons (.tup (.cons (.attr (.var 2) "m") (.cons (.attr (.var 2) "n") .nil))) .nil))))) .nil) .nil) (.cons [] (.ret (.andV (.isi (.var 2) [.own 1]) (.call 10 (.cons (.tup (.cons (.attr (.var 3) "why") (.cons (.attr (.var 3) "place") .nil))) (.cons (.tup (.cons (.attr (.var 2) "why") (.cons (.attr (.var 2) "place") .nil))) .nil))))) .nil)))
def d32 : DefD := ⟨"shared_holds", "shared_holds", s32, n32, 3, b32⟩
/-- _law_pen(script) -/
abbrev s33 : Stmt := top 45
def n33 : List Str := ["script", "fold", "cell"]
def b33 : CB := (.cons [] (.set 1 (.const (.int (0)))) (.cons [0] (.for (.nm 2) (.seq (.var 0)) (.cons [] (.set 1 (.bin .mod (.bi .int (.bin .add (.bin .mul (.var 1) (.const (.int (47)))) (.var 2))) (.const (.int (1000000007))))) .nil)) (.cons [1] (.ret (.dct [.inr "cells", .inr "at", .inr "digits", .inr "count", .inr "fold"] (.cons (.bi .list (.var 0)) (.cons (.const (.int (0))) (.cons (.const (.int (0))) (.cons (.const (.int (0))) (.cons (.var 1) .nil))))))) .nil)))
def d33 : DefD := ⟨"_law_pen", "_law_pen", s33, n33, 1, b33⟩
/-- _law_draw(pen, many) -/
abbrev s34 : Stmt := top 46
def n34 : List Str := ["pen", "many", "cell", "digit", "blend"]
def b34 : CB := (.cons [] (.put 0 (.const (.str "count")) (.bin .add (.idx (.var 0) (.const (.str "count"))) (.const (.int (1))))) (.cons [] (.ifs (.and (.tr (.cmp .eq (.idx (.var 0) (.const (.str "digits"))) (.const (.int (0))))) (.tr (.cmp .lt (.idx (.var 0) (.const (.str "at"))) (.bi .len (.idx (.var 0) (.const (.str "cells"))))))) (.cons [] (.set 2 (.idx (.idx (.var 0) (.const (.str "cells"))) (.idx (.var 0) (.const (.str "at"))))) (.cons [] (.put 0 (.const (.str "at")) (.bin .add (.idx (.var 0) (.const (.str "at"))) (.const (.int (1))))) (.cons [] (.ifs (.tr (.cmp .ge (.var 2) (.bin .pow (.const (.int (10))) (.const (.int (18)))))) (.cons [] (.put 0 (.const (.str "digits")) (.bin .sub (.var 2) (.bin .pow (.const (.int (10))) (.const (.int (18)))))) .nil) (.cons [] (.put 0 (.const (.str "fold")) (.bin .mod (.bi .int (.bin .add (.bin .mul (.idx (.var 0) (.const (.str "fold"))) (.const (.int (69069)))) (.var 2))) (.const (.int (2147483587))))) .nil)) .nil))) .nil) (.cons [] (.ifs (.tr (.cmp .gt (.idx (.var 0) (.const (.str "digits"))) (.const (.int (0))))) (.cons [] (.set 3 (.bin .mod (.bi .int (.idx (.var 0) (.const (.str "digits")))) (.var 1))) (.cons [] (.put 0 (.const (.str "digits")) (.bin .fdiv (.idx (.var 0) (.const (.str "digits"))) (.var 1))) (.cons [3] (.ret (.var 3)) .nil))) .nil) (.cons [] (.set 4 (.bin .mod (.bi .int (.bin .add (.bin .add (.bin .mul (.idx (.var 0) (.const (.str "fold"))) (.const (.int (48271)))) (.bin .mul (.idx (.var 0) (.const (.str "count"))) (.const (.int (7919))))) (.const (.int (13))))) (.const (.int (2147483647))))) (.cons [] (.set 4 (.bin .mod (.bi .int (.bin .add (.bin .add (.bin .mul (.var 4) (.var 4)) (.bin .mul (.const (.int (31))) (.var 4))) (.idx (.var 0) (.const (.str "count"))))) (.const (.int (2147483629))))) (.cons [] (.put 0 (.const (.str "fold")) (.bin .mod (.bi .int (.bin .add (.bin .mul (.var 4) (.const (.int (16807)))) (.const (.int (7))))) (.const (.int (2147483647))))) (.cons [] (.ret (.bin .mod (.bi .int (.bin .fdiv (.var 4) (.const (.int (64))))) (.var 1))) .nil)))))))
def d34 : DefD := ⟨"_law_draw", "_law_draw", s34, n34, 2, b34⟩
/-- _law_pick(pen, some) -/
abbrev s35 : Stmt := top 47
def n35 : List Str := ["pen", "some"]
def b35 : CB := (.cons [0] (.ret (.idx (.var 1) (.call 34 (.cons (.var 0) (.cons (.bi .len (.var 1)) .nil))))) .nil)
def d35 : DefD := ⟨"_law_pick", "_law_pick", s35, n35, 2, b35⟩
/-- _law_is(told, due) -/
abbrev s36 : Stmt := top 48
def n36 : List Str := ["told", "due", "at"]
def b36 : CB := (.cons [] (.ifs (.tr (.isi (.var 1) [.tuple])) (.cons [] (.ifs (.or (.not (.tr (.isi (.var 0) [.tuple]))) (.tr (.cmp .ne (.bi .len (.var 0)) (.bi .len (.var 1))))) (.cons [] (.ret (.const (.bl false))) .nil) .nil) (.cons [] (.ret (.cmp .eq (.lc (.nm 2) [2] (.rng1 (.bi .len (.var 1))) (.not (.tr (.call 36 (.cons (.idx (.var 0) (.var 2)) (.cons (.idx (.var 1) (.var 2)) .nil))))) (.var 2)) (.lst .nil))) .nil)) .nil) (.cons [] (.ifs (.tr (.cmp .is (.var 1) (.const .non))) (.cons [] (.ret (.cmp .is (.var 0) (.const .non))) .nil) .nil) (.cons [] (.ifs (.tr (.cmp .is (.var 1) (.const (.bl true)))) (.cons [] (.ret (.cmp .is (.var 0) (.const (.bl true)))) .nil) .nil) (.cons [] (.ifs (.tr (.cmp .is (.var 1) (.const (.bl false)))) (.cons [] (.ret (.cmp .is (.var 0) (.const (.bl false)))) .nil) .nil) (.cons [] (.ifs (.tr (.isi (.var 1) [.str])) (.cons [] (.ret (.andV (.isi (.var 0) [.str]) (.cmp .eq (.var 0) (.var 1)))) .nil) .nil) (.cons [] (.ret (.andV (.isi (.var 0) [.int]) (.andV (.notV (.isi (.var 0) [.bool])) (.cmp .eq (.var 0) (.var 1))))) .nil))))))
def d36 : DefD := ⟨"_law_is", "_law_is", s36, n36, 2, b36⟩
/-- _law_says(told, due) -/
abbrev s37 : Stmt := top 49
def n37 : List Str := ["told", "due"]
def b37 : CB := (.cons [] (.ret (.ite (.tr (.var 1)) (.cmp .is (.var 0) (.const (.bl true))) (.cmp .is (.var 0) (.const (.bl false))))) .nil)
def d37 : DefD := ⟨"_law_says", "_law_says", s37, n37, 2, b37⟩
/-- _law_divisor(one, other) -/
abbrev s38 : Stmt := top 50
def n38 : List Str := ["one", "other"]
def b38 : CB := (.cons [] (.par [0, 1] (.cons (.bi .abs (.var 0)) (.cons (.bi .abs (.var 1)) .nil))) (.cons [] (.whl (.tr (.cmp .ne (.var 1) (.const (.int (0))))) (.cons [1] (.par [0, 1] (.cons (.var 1) (.cons (.bin .mod (.bi .int (.var 0)) (.var 1)) .nil))) .nil)) (.cons [0] (.ret (.var 0)) .nil)))
def d38 : DefD := ⟨"_law_divisor", "_law_divisor", s38, n38, 2, b38⟩
/-- _law_low(top, bottom) -/
abbrev s39 : Stmt := top 51
def n39 : List Str := ["top", "bottom", "by"]
def b39 : CB := (.cons [0, 1] (.set 2 (.call 38 (.cons (.var 0) (.cons (.var 1) .nil)))) (.cons [] (.ifs (.tr (.cmp .lt (.var 1) (.const (.int (0))))) (.cons [] (.set 2 (.neg (.var 2))) .nil) .nil) (.cons [] (.ret (.ite (.tr (.cmp .eq (.var 1) (.var 2))) (.bin .fdiv (.var 0) (.var 2)) (.tup (.cons (.bin .fdiv (.var 0) (.var 2)) (.cons (.bin .fdiv (.var 1) (.var 2)) .nil))))) .nil)))
def d39 : DefD := ⟨"_law_low", "_law_low", s39, n39, 2, b39⟩
/-- _law_pair(number) -/
abbrev s40 : Stmt := top 52
def n40 : List Str := ["number"]
def b40 : CB := (.cons [0, 0] (.ret (.ite (.tr (.isi (.var 0) [.int])) (.tup (.cons (.var 0) (.cons (.const (.int (1))) .nil))) (.var 0))) .nil)
def d40 : DefD := ⟨"_law_pair", "_law_pair", s40, n40, 1, b40⟩
/-- _law_plus(one, other) -/
abbrev s41 : Stmt := top 53
def n41 : List Str := ["one", "other", "first", "second"]
def b41 : CB := (.cons [0, 1] (.par [2, 3] (.cons (.call 40 (.cons (.var 0) .nil)) (.cons (.call 40 (.cons (.var 1) .nil)) .nil))) (.cons [] (.ret (.call 39 (.cons (.bin .add (.bin .mul (.idx (.var 2) (.const (.int (0)))) (.idx (.var 3) (.const (.int (1))))) (.bin .mul (.idx (.var 3) (.const (.int (0)))) (.idx (.var 2) (.const (.int (1)))))) (.cons (.bin .mul (.idx (.var 2) (.const (.int (1)))) (.idx (.var 3) (.const (.int (1))))) .nil)))) .nil))
def d41 : DefD := ⟨"_law_plus", "_law_plus", s41, n41, 2, b41⟩
/-- _law_times(one, other) -/
abbrev s42 : Stmt := top 54
def n42 : List Str := ["one", "other", "first", "second"]
def b42 : CB := (.cons [0, 1] (.par [2, 3] (.cons (.call 40 (.cons (.var 0) .nil)) (.cons (.call 40 (.cons (.var 1) .nil)) .nil))) (.cons [] (.ret (.call 39 (.cons (.bin .mul (.idx (.var 2) (.const (.int (0)))) (.idx (.var 3) (.const (.int (0))))) (.cons (.bin .mul (.idx (.var 2) (.const (.int (1)))) (.idx (.var 3) (.const (.int (1))))) .nil)))) .nil))
def d42 : DefD := ⟨"_law_times", "_law_times", s42, n42, 2, b42⟩
/-- _law_poly_tidy(row) -/
abbrev s43 : Stmt := top 55
def n43 : List Str := ["row", "many", "lap"]
def b43 : CB := (.cons [] (.set 1 (.bi .len (.var 0))) (.cons [] (.for (.nm 2) (.rng1 (.bi .len (.var 0))) (.cons [] (.ifs (.and (.tr (.cmp .gt (.var 1) (.const (.int (0))))) (.tr (.cmp .eq (.idx (.var 0) (.bin .sub (.var 1) (.const (.int (1))))) (.const (.int (0)))))) (.cons [] (.set 1 (.bin .sub (.var 1) (.const (.int (1))))) .nil) .nil) .nil)) (.cons [] (.ret (.bi .tuple (.slH (.var 0) (.var 1)))) .nil)))
def d43 : DefD := ⟨"_law_poly_tidy", "_law_poly_tidy", s43, n43, 1, b43⟩
/-- _law_poly_sum(one, other) -/
abbrev s44 : Stmt := top 56
def n44 : List Str := ["one", "other", "many", "x", "y"]
def b44 : CB := (.cons [] (.set 2 (.bi2 .max (.bi .len (.var 0)) (.bi .len (.var 1)))) (.cons [] (.ret (.call 43 (.cons (.lc (.tcons (.nm 3) (.tcons (.nm 4) .tnil)) [3, 4] (.zip (.bin .add (.bi .tuple (.var 0)) (.bin .mul (.tup (.cons (.const (.int (0))) .nil)) (.bin .sub (.var 2) (.bi .len (.var 0))))) (.bin .add (.bi .tuple (.var 1)) (.bin .mul (.tup (.cons (.const (.int (0))) .nil)) (.bin .sub (.var 2) (.bi .len (.var 1)))))) .yes (.call 41 (.cons (.var 3) (.cons (.var 4) .nil)))) .nil))) .nil))
def d44 : DefD := ⟨"_law_poly_sum", "_law_poly_sum", s44, n44, 2, b44⟩
/-- _law_poly_times(one, other) -/
abbrev s45 : Stmt := top 57
def n45 : List Str := ["one", "other", "found", "i", "x", "k", "y"]
def b45 : CB := (.cons [] (.set 2 (.bin .mul (.lst (.cons (.const (.int (0))) .nil)) (.bin .add (.bi .len (.var 0)) (.bi .len (.var 1))))) (.cons [0] (.for (.tcons (.nm 3) (.tcons (.nm 4) .tnil)) (.enum (.var 0)) (.cons [1] (.for (.tcons (.nm 5) (.tcons (.nm 6) .tnil)) (.enum (.var 1)) (.cons [4, 6] (.put 2 (.bin .add (.var 3) (.var 5)) (.call 41 (.cons (.idx (.var 2) (.bin .add (.var 3) (.var 5))) (.cons (.call 42 (.cons (.var 4) (.cons (.var 6) .nil))) .nil)))) .nil)) .nil)) (.cons [2] (.ret (.call 43 (.cons (.var 2) .nil))) .nil)))
def d45 : DefD := ⟨"_law_poly_times", "_law_poly_times", s45, n45, 2, b45⟩
/-- _law_poly_after(one, other) -/
abbrev s46 : Stmt := top 58
def n46 : List Str := ["one", "other", "total", "x"]
def b46 : CB := (.cons [] (.set 2 (.tup .nil)) (.cons [] (.for (.nm 3) (.seq (.rev (.var 0))) (.cons [2, 1, 3] (.set 2 (.call 44 (.cons (.call 45 (.cons (.var 2) (.cons (.var 1) .nil))) (.cons (.call 43 (.cons (.tup (.cons (.var 3) .nil)) .nil)) .nil)))) .nil)) (.cons [2] (.ret (.var 2)) .nil)))
def d46 : DefD := ⟨"_law_poly_after", "_law_poly_after", s46, n46, 2, b46⟩
/-- _law_poly_scaled(poly, by) -/
abbrev s47 : Stmt := top 59
def n47 : List Str := ["poly", "by", "one"]
def b47 : CB := (.cons [1] (.ret (.call 43 (.cons (.lc (.nm 2) [2] (.seq (.var 0)) .yes (.call 42 (.cons (.var 2) (.cons (.var 1) .nil)))) .nil))) .nil)
def d47 : DefD := ⟨"_law_poly_scaled", "_law_poly_scaled", s47, n47, 2, b47⟩
/-- _law_poly_more(poly, n) -/
abbrev s48 : Stmt := top 60
def n48 : List Str := ["poly", "n", "found", "lap"]
def b48 : CB := (.cons [] (.set 2 (.tup (.cons (.const (.int (0))) (.cons (.const (.int (1))) .nil)))) (.cons [1] (.for (.nm 3) (.rng1 (.var 1)) (.cons [0, 2] (.set 2 (.call 46 (.cons (.var 0) (.cons (.var 2) .nil)))) .nil)) (.cons [2] (.ret (.var 2)) .nil)))
def d48 : DefD := ⟨"_law_poly_more", "_law_poly_more", s48, n48, 2, b48⟩
/-- _law_c_small(pen, d) -/
abbrev s49 : Stmt := top 61
def n49 : List Str := ["pen", "d", "at"]
def b49 : CB := (.cons [0, 0] (.ret (.bin .add (.bi .tuple (.lc (.nm 2) [2] (.rng1 (.var 1)) .yes (.bin .sub (.call 34 (.cons (.var 0) (.cons (.const (.int (5))) .nil))) (.const (.int (2)))))) (.tup (.cons (.call 35 (.cons (.var 0) (.cons (.lst (.cons (.const (.int (1))) (.cons (.const (.int (1))) (.cons (.neg (.const (.int (1)))) (.cons (.const (.int (2))) .nil))))) .nil))) .nil)))) .nil)
def d49 : DefD := ⟨"_law_c_small", "_law_c_small", s49, n49, 2, b49⟩
/-- _law_known(pen) -/
abbrev s50 : Stmt := top 62
def n50 : List Str := ["pen", "root", "odd", "some", "at", "other"]
def b50 : CB := (.cons [0] (.set 1 (.call 49 (.cons (.var 0) (.cons (.const (.int (2))) .nil)))) (.cons [0, 0] (.set 2 (.tup (.cons (.const (.int (0))) (.cons (.call 35 (.cons (.var 0) (.cons (.lst (.cons (.const (.int (1))) (.cons (.neg (.const (.int (2)))) (.cons (.const (.int (3))) .nil)))) .nil))) (.cons (.const (.int (0))) (.cons (.call 35 (.cons (.var 0) (.cons (.lst (.cons (.const (.int (1))) (.cons (.neg (.const (.int (1)))) (.cons (.const (.int (2))) .nil)))) .nil))) .nil)))))) (.cons [1, 1, 1, 1, 1, 1] (.set 3 (.lst (.cons (.tup (.cons (.var 1) (.cons (.call 48 (.cons (.var 1) (.cons (.const (.int (2))) .nil))) (.cons (.tup (.cons (.const (.str "shared")) (.cons (.const (.int (2))) (.cons (.const (.int (1))) .nil)))) .nil)))) (.cons (.tup (.cons (.call 48 (.cons (.var 1) (.cons (.const (.int (2))) .nil))) (.cons (.var 1) (.cons (.tup (.cons (.const (.str "shared")) (.cons (.const (.int (1))) (.cons (.const (.int (2))) .nil)))) .nil)))) (.cons (.tup (.cons (.var 1) (.cons (.var 1) (.cons (.tup (.cons (.const (.str "shared")) (.cons (.const (.int (1))) (.cons (.const (.int (1))) .nil)))) .nil)))) .nil))))) (.cons [2, 2, 2, 2] (.ext 3 (.lst (.cons (.tup (.cons (.var 2) (.cons (.call 47 (.cons (.var 2) (.cons (.neg (.const (.int (1)))) .nil))) (.cons (.tup (.cons (.const (.str "shared")) (.cons (.const (.int (2))) (.cons (.const (.int (2))) .nil)))) .nil)))) (.cons (.tup (.cons (.var 2) (.cons (.call 47 (.cons (.call 48 (.cons (.var 2) (.cons (.const (.int (2))) .nil))) (.cons (.neg (.const (.int (1)))) .nil))) (.cons (.tup (.cons (.const (.str "shared")) (.cons (.const (.int (4))) (.cons (.const (.int (2))) .nil)))) .nil)))) .nil)))) (.cons [0] (.set 4 (.call 34 (.cons (.var 0) (.cons (.const (.int (2))) .nil)))) (.cons [] (.set 5 (.bin .add (.bin .add (.slH (.var 1) (.var 4)) (.tup (.cons (.call 41 (.cons (.idx (.var 1) (.var 4)) (.cons (.const (.int (1))) .nil))) .nil))) (.slL (.var 1) (.bin .add (.var 4) (.const (.int (1))))))) (.cons [1, 5, 4] (.app 3 (.tup (.cons (.var 1) (.cons (.var 5) (.cons (.tup (.cons (.const (.str "unshared")) (.cons (.const (.str "numbers")) (.cons (.var 4) .nil)))) .nil))))) (.cons [1, 2] (.app 3 (.tup (.cons (.var 1) (.cons (.var 2) (.cons (.tup (.cons (.const (.str "unshared")) (.cons (.const (.str "degrees")) (.cons (.const (.int (0))) .nil)))) .nil))))) (.cons [0, 3] (.ret (.call 35 (.cons (.var 0) (.cons (.var 3) .nil)))) .nil)))))))))
def d50 : DefD := ⟨"_law_known", "_law_known", s50, n50, 1, b50⟩
/-- law(script) -/
abbrev s51 : Stmt := top 63
def n51 : List Str := ["script", "pen", "lap", "one", "other", "due", "m", "n", "why", "place"]
def b51 : CB := (.cons [0] (.set 1 (.call 33 (.cons (.var 0) .nil))) (.cons [] (.for (.nm 2) (.rng1 (.const (.int (4)))) (.cons [1] (.setP (.tcons (.nm 3) (.tcons (.nm 4) (.tcons (.nm 5) .tnil))) (.call 50 (.cons (.var 1) .nil))) (.cons [] (.for (.tcons (.nm 6) (.tcons (.nm 7) .tnil)) (.seq (.tup (.cons (.tup (.cons (.const (.int (1))) (.cons (.const (.int (1))) .nil))) (.cons (.tup (.cons (.const (.int (2))) (.cons (.const (.int (1))) .nil))) (.cons (.tup (.cons (.const (.int (1))) (.cons (.const (.int (2))) .nil))) (.cons (.tup (.cons (.const (.int (2))) (.cons (.const (.int (2))) .nil))) (.cons (.tup (.cons (.const (.int (4))) (.cons (.const (.int (2))) .nil))) (.cons (.tup (.cons (.const (.int (2))) (.cons (.const (.int (4))) .nil))) (.cons (.tup (.cons (.const (.int (3))) (.cons (.const (.int (3))) .nil))) (.cons (.tup (.cons (.const .non) (.cons (.const (.int (1))) .nil))) (.cons (.tup (.cons (.const (.bl true)) (.cons (.const (.int (1))) .nil))) (.cons (.tup (.cons (.const (.int (1))) (.cons (.const (.str "1")) .nil))) (.cons (.tup (.cons (.const (.int (0))) (.cons (.const (.int (0))) .nil))) (.cons (.tup (.cons (.tup (.cons (.const (.int (1))) .nil)) (.cons (.const (.int (1))) .nil))) .nil)))))))))))))) (.cons [3, 4, 6, 7, 6, 7] (.ifs (.not (.tr (.call 37 (.cons (.call 32 (.cons (.var 3) (.cons (.var 4) (.cons (.mk 0 (.cons (.var 6) (.cons (.var 7) .nil))) .nil)))) (.cons (.andV (.cmp .eq (.idx (.var 5) (.const (.int (0)))) (.const (.str "shared"))) (.call 36 (.cons (.tup (.cons (.var 6) (.cons (.var 7) .nil))) (.cons (.slL (.var 5) (.const (.int (1)))) .nil)))) .nil))))) (.cons [] (.ret (.const (.bl false))) .nil) .nil) .nil)) (.cons [] (.for (.tcons (.nm 8) (.tcons (.nm 9) .tnil)) (.seq (.tup (.cons (.tup (.cons (.const (.str "degrees")) (.cons (.const (.int (0))) .nil))) (.cons (.tup (.cons (.const (.str "numbers")) (.cons (.const (.int (0))) .nil))) (.cons (.tup (.cons (.const (.str "numbers")) (.cons (.const (.int (1))) .nil))) (.cons (.tup (.cons (.const (.str "numbers")) (.cons (.const (.int (2))) .nil))) (.cons (.tup (.cons (.const (.str "degrees")) (.cons (.const (.int (1))) .nil))) (.cons (.tup (.cons (.const (.str "numbers")) (.cons (.const (.bl true)) .nil))) (.cons (.tup (.cons (.const (.str "numbers")) (.cons (.const .non) .nil))) (.cons (.tup (.cons (.const .non) (.cons (.const (.int (0))) .nil))) (.cons (.tup (.cons (.const (.str "Degrees")) (.cons (.const (.int (0))) .nil))) .nil))))))))))) (.cons [3, 4, 8, 9, 8, 9] (.ifs (.not (.tr (.call 37 (.cons (.call 32 (.cons (.var 3) (.cons (.var 4) (.cons (.mk 1 (.cons (.var 8) (.cons (.var 9) .nil))) .nil)))) (.cons (.andV (.cmp .eq (.idx (.var 5) (.const (.int (0)))) (.const (.str "unshared"))) (.call 36 (.cons (.tup (.cons (.var 8) (.cons (.var 9) .nil))) (.cons (.slL (.var 5) (.const (.int (1)))) .nil)))) .nil))))) (.cons [] (.ret (.const (.bl false))) .nil) .nil) .nil)) (.cons [3, 4, 1, 5] (.ifs (.tr (.cmp .isnot (.call 32 (.cons (.var 3) (.cons (.var 4) (.cons (.call 35 (.cons (.var 1) (.cons (.lst (.cons (.const .non) (.cons (.var 5) (.cons (.const (.bl true)) (.cons (.slL (.var 5) (.const (.int (1)))) .nil))))) .nil))) .nil)))) (.const (.bl false)))) (.cons [] (.ret (.const (.bl false))) .nil) .nil) .nil))))) (.cons [] (.ifs (.or (.tr (.cmpO .ne (.mk 0 (.cons (.lst (.cons (.const (.int (1))) .nil)) (.cons (.const (.int (2))) .nil))) (.mk 0 (.cons (.tup (.cons (.const (.int (1))) .nil)) (.cons (.const (.int (2))) .nil))))) (.or (.tr (.cmpO .eq (.mk 0 (.cons (.const (.int (1))) (.cons (.const (.int (2))) .nil))) (.mk 0 (.cons (.const (.int (2))) (.cons (.const (.int (1))) .nil))))) (.or (.tr (.cmpO .ne (.mk 1 (.cons (.const (.str "a")) (.cons (.const (.int (1))) .nil))) (.mk 1 (.cons (.const (.str "a")) (.cons (.const (.int (1))) .nil))))) (.tr (.cmpO .eq (.mk 1 (.cons (.const (.str "a")) (.cons (.const (.int (1))) .nil))) (.mk 1 (.cons (.const (.str "b")) (.cons (.const (.int (1))) .nil)))))))) (.cons [] (.ret (.const (.bl false))) .nil) .nil) (.cons [] (.ret (.andV (.cmp .is (.cmpO .eq (.mk 0 (.cons (.const (.int (1))) (.cons (.const (.int (2))) .nil))) (.tup (.cons (.const (.int (1))) (.cons (.const (.int (2))) .nil)))) (.const (.bl false))) (.cmp .is (.cmpO .eq (.mk 1 (.cons (.const (.int (1))) (.cons (.const (.int (2))) .nil))) (.mk 0 (.cons (.const (.int (1))) (.cons (.const (.int (2))) .nil)))) (.const (.bl false))))) .nil))))
def d51 : DefD := ⟨"law", "law", s51, n51, 1, b51⟩
def L : Lw := ⟨[d0, d1, d2, d3, d4, d5, d6, d7, d8, d9, d10, d11, d12, d13, d14, d15, d16, d17, d18, d19, d20, d21, d22, d23, d24, d25, d26, d27, d28, d29, d30, d31, d32, d33, d34, d35, d36, d37, d38, d39, d40, d41, d42, d43, d44, d45, d46, d47, d48, d49, d50, d51], [(.int (65)), (.int (37)), (.int (64))], [some 23, some 25], [some 24, some 26], gFns, gGlobs, gClss, gFree, true, gAtrs⟩
theorem ok0 : DefOk L d0 := ⟨by kernel_rfl, ⟨rfl, rfl, rfl, by decide +kernel, rfl, by decide +kernel, by decide +kernel⟩, by decide +kernel⟩
theorem ok1 : DefOk L d1 := ⟨by kernel_rfl, ⟨rfl, rfl, rfl, by decide +kernel, rfl, by decide +kernel, by decide +kernel⟩, by decide +kernel⟩
theorem ok2 : DefOk L d2 := ⟨by kernel_rfl, ⟨rfl, rfl, rfl, by decide +kernel, rfl, by decide +kernel, by decide +kernel⟩, by decide +kernel⟩
theorem ok3 : DefOk L d3 := ⟨by kernel_rfl, ⟨rfl, rfl, rfl, by decide +kernel, rfl, by decide +kernel, by decide +kernel⟩, by decide +kernel⟩
theorem ok4 : DefOk L d4 := ⟨by kernel_rfl, ⟨rfl, rfl, rfl, by decide +kernel, rfl, by decide +kernel, by decide +kernel⟩, by decide +kernel⟩
theorem ok5 : DefOk L d5 := ⟨by kernel_rfl, ⟨rfl, rfl, rfl, by decide +kernel, rfl, by decide +kernel, by decide +kernel⟩, by decide +kernel⟩
theorem ok6 : DefOk L d6 := ⟨by kernel_rfl, ⟨rfl, rfl, rfl, by decide +kernel, rfl, by decide +kernel, by decide +kernel⟩, by decide +kernel⟩
theorem ok7 : DefOk L d7 := ⟨by kernel_rfl, ⟨rfl, rfl, rfl, by decide +kernel, rfl, by decide +kernel, by decide +kernel⟩, by decide +kernel⟩
theorem ok8 : DefOk L d8 := ⟨by kernel_rfl, ⟨rfl, rfl, rfl, by decide +kernel, rfl, by decide +kernel, by decide +kernel⟩, by decide +kernel⟩
theorem ok9 : DefOk L d9 := ⟨by kernel_rfl, ⟨rfl, rfl, rfl, by decide +kernel, rfl, by decide +kernel, by decide +kernel⟩, by decide +kernel⟩
theorem ok10 : DefOk L d10 := ⟨by kernel_rfl, ⟨rfl, rfl, rfl, by decide +kernel, rfl, by decide +kernel, by decide +kernel⟩, by decide +kernel⟩
theorem ok11 : DefOk L d11 := ⟨by kernel_rfl, ⟨rfl, rfl, rfl, by decide +kernel, rfl, by decide +kernel, by decide +kernel⟩, by decide +kernel⟩
theorem ok12 : DefOk L d12 := ⟨by kernel_rfl, ⟨rfl, rfl, rfl, by decide +kernel, rfl, by decide +kernel, by decide +kernel⟩, by decide +kernel⟩
theorem ok13 : DefOk L d13 := ⟨by kernel_rfl, ⟨rfl, rfl, rfl, by decide +kernel, rfl, by decide +kernel, by decide +kernel⟩, by decide +kernel⟩
theorem ok14 : DefOk L d14 := ⟨by kernel_rfl, ⟨rfl, rfl, rfl, by decide +kernel, rfl, by decide +kernel, by decide +kernel⟩, by decide +kernel⟩
theorem ok15 : DefOk L d15 := ⟨by kernel_rfl, ⟨rfl, rfl, rfl, by decide +kernel, rfl, by decide +kernel, by decide +kernel⟩, by decide +kernel⟩
theorem ok16 : DefOk L d16 := ⟨by kernel_rfl, ⟨rfl, rfl, rfl, by decide +kernel, rfl, by decide +kernel, by decide +kernel⟩, by decide +kernel⟩
theorem ok17 : DefOk L d17 := ⟨by kernel_rfl, ⟨rfl, rfl, rfl, by decide +kernel, rfl, by decide +kernel, by decide +kernel⟩, by decide +kernel⟩
theorem ok18 : DefOk L d18 := ⟨by kernel_rfl, ⟨rfl, rfl, rfl, by decide +kernel, rfl, by decide +kernel, by decide +kernel⟩, by decide +kernel⟩
theorem ok19 : DefOk L d19 := ⟨by kernel_rfl, ⟨rfl, rfl, rfl, by decide +kernel, rfl, by decide +kernel, by decide +kernel⟩, by decide +kernel⟩
theorem ok20 : DefOk L d20 := ⟨by kernel_rfl, ⟨rfl, rfl, rfl, by decide +kernel, rfl, by decide +kernel, by decide +kernel⟩, by decide +kernel⟩
theorem ok21 : DefOk L d21 := ⟨by kernel_rfl, ⟨rfl, rfl, rfl, by decide +kernel, rfl, by decide +kernel, by decide +kernel⟩, by decide +kernel⟩
theorem ok22 : DefOk L d22 := ⟨by kernel_rfl, ⟨rfl, rfl, rfl, by decide +kernel, rfl, by decide +kernel, by decide +kernel⟩, by decide +kernel⟩
theorem ok23 : DefOk L d23 := ⟨by kernel_rfl, ⟨rfl, rfl, rfl, by decide +kernel, rfl, by decide +kernel, by decide +kernel⟩, by decide +kernel⟩
theorem ok24 : DefOk L d24 := ⟨by kernel_rfl, ⟨rfl, rfl, rfl, by decide +kernel, rfl, by decide +kernel, by decide +kernel⟩, by decide +kernel⟩
theorem ok25 : DefOk L d25 := ⟨by kernel_rfl, ⟨rfl, rfl, rfl, by decide +kernel, rfl, by decide +kernel, by decide +kernel⟩, by decide +kernel⟩
theorem ok26 : DefOk L d26 := ⟨by kernel_rfl, ⟨rfl, rfl, rfl, by decide +kernel, rfl, by decide +kernel, by decide +kernel⟩, by decide +kernel⟩
theorem ok27 : DefOk L d27 := ⟨by kernel_rfl, ⟨rfl, rfl, rfl, by decide +kernel, rfl, by decide +kernel, by decide +kernel⟩, by decide +kernel⟩
theorem ok28 : DefOk L d28 := ⟨by kernel_rfl, ⟨rfl, rfl, rfl, by decide +kernel, rfl, by decide +kernel, by decide +kernel⟩, by decide +kernel⟩
theorem ok29 : DefOk L d29 := ⟨by kernel_rfl, ⟨rfl, rfl, rfl, by decide +kernel, rfl, by decide +kernel, by decide +kernel⟩, by decide +kernel⟩
theorem ok30 : DefOk L d30 := ⟨by kernel_rfl, ⟨rfl, rfl, rfl, by decide +kernel, rfl, by decide +kernel, by decide +kernel⟩, by decide +kernel⟩
theorem ok31 : DefOk L d31 := ⟨by kernel_rfl, ⟨rfl, rfl, rfl, by decide +kernel, rfl, by decide +kernel, by decide +kernel⟩, by decide +kernel⟩
theorem ok32 : DefOk L d32 := ⟨by kernel_rfl, ⟨rfl, rfl, rfl, by decide +kernel, rfl, by decide +kernel, by decide +kernel⟩, by decide +kernel⟩
theorem ok33 : DefOk L d33 := ⟨by kernel_rfl, ⟨rfl, rfl, rfl, by decide +kernel, rfl, by decide +kernel, by decide +kernel⟩, by decide +kernel⟩
theorem ok34 : DefOk L d34 := ⟨by kernel_rfl, ⟨rfl, rfl, rfl, by decide +kernel, rfl, by decide +kernel, by decide +kernel⟩, by decide +kernel⟩
theorem ok35 : DefOk L d35 := ⟨by kernel_rfl, ⟨rfl, rfl, rfl, by decide +kernel, rfl, by decide +kernel, by decide +kernel⟩, by decide +kernel⟩
theorem ok36 : DefOk L d36 := ⟨by kernel_rfl, ⟨rfl, rfl, rfl, by decide +kernel, rfl, by decide +kernel, by decide +kernel⟩, by decide +kernel⟩
theorem ok37 : DefOk L d37 := ⟨by kernel_rfl, ⟨rfl, rfl, rfl, by decide +kernel, rfl, by decide +kernel, by decide +kernel⟩, by decide +kernel⟩
theorem ok38 : DefOk L d38 := ⟨by kernel_rfl, ⟨rfl, rfl, rfl, by decide +kernel, rfl, by decide +kernel, by decide +kernel⟩, by decide +kernel⟩
theorem ok39 : DefOk L d39 := ⟨by kernel_rfl, ⟨rfl, rfl, rfl, by decide +kernel, rfl, by decide +kernel, by decide +kernel⟩, by decide +kernel⟩
theorem ok40 : DefOk L d40 := ⟨by kernel_rfl, ⟨rfl, rfl, rfl, by decide +kernel, rfl, by decide +kernel, by decide +kernel⟩, by decide +kernel⟩
theorem ok41 : DefOk L d41 := ⟨by kernel_rfl, ⟨rfl, rfl, rfl, by decide +kernel, rfl, by decide +kernel, by decide +kernel⟩, by decide +kernel⟩
theorem ok42 : DefOk L d42 := ⟨by kernel_rfl, ⟨rfl, rfl, rfl, by decide +kernel, rfl, by decide +kernel, by decide +kernel⟩, by decide +kernel⟩
theorem ok43 : DefOk L d43 := ⟨by kernel_rfl, ⟨rfl, rfl, rfl, by decide +kernel, rfl, by decide +kernel, by decide +kernel⟩, by decide +kernel⟩
theorem ok44 : DefOk L d44 := ⟨by kernel_rfl, ⟨rfl, rfl, rfl, by decide +kernel, rfl, by decide +kernel, by decide +kernel⟩, by decide +kernel⟩
theorem ok45 : DefOk L d45 := ⟨by kernel_rfl, ⟨rfl, rfl, rfl, by decide +kernel, rfl, by decide +kernel, by decide +kernel⟩, by decide +kernel⟩
theorem ok46 : DefOk L d46 := ⟨by kernel_rfl, ⟨rfl, rfl, rfl, by decide +kernel, rfl, by decide +kernel, by decide +kernel⟩, by decide +kernel⟩
theorem ok47 : DefOk L d47 := ⟨by kernel_rfl, ⟨rfl, rfl, rfl, by decide +kernel, rfl, by decide +kernel, by decide +kernel⟩, by decide +kernel⟩
theorem ok48 : DefOk L d48 := ⟨by kernel_rfl, ⟨rfl, rfl, rfl, by decide +kernel, rfl, by decide +kernel, by decide +kernel⟩, by decide +kernel⟩
theorem ok49 : DefOk L d49 := ⟨by kernel_rfl, ⟨rfl, rfl, rfl, by decide +kernel, rfl, by decide +kernel, by decide +kernel⟩, by decide +kernel⟩
theorem ok50 : DefOk L d50 := ⟨by kernel_rfl, ⟨rfl, rfl, rfl, by decide +kernel, rfl, by decide +kernel, by decide +kernel⟩, by decide +kernel⟩
theorem ok51 : DefOk L d51 := ⟨by kernel_rfl, ⟨rfl, rfl, rfl, by decide +kernel, rfl, by decide +kernel, by decide +kernel⟩, by decide +kernel⟩
end K56
end

section
set_option maxHeartbeats 0
set_option Elab.async false
set_option linter.all false
set_option maxRecDepth 100000
/-! Cf1: objects moved up by k; what the operators say of it. -/
namespace Co
open PySem L2
mutual
def D.up (k : Nat) : D → D
  | .non => .non | .bl b => .bl b | .int i => .int i | .str x => .str x
  | .tup xs => .tup (D.ups k xs) | .lst xs => .lst (D.ups k xs) | .scr xs => .scr (D.ups k xs) | .obj i => .obj (i + k)
def D.ups (k : Nat) : List D → List D
  | [] => [] | d :: ds => D.up k d :: D.ups k ds
end
theorem ups_map (k : Nat) : ∀ ds : List D, D.ups k ds = ds.map (D.up k)
  | [] => rfl
  | d :: ds => by rw [D.ups, ups_map k ds]; rfl
def Rv.up (k : Nat) : Rv → Rv
  | .fz d => .fz (d.up k) | .fr ds => .fr (ds.map (D.up k)) | .rd ds => .rd (ds.map (D.up k))
def Slot.up (k : Nat) : Slot → Slot
  | .non => .non | .val d => .val (d.up k) | .own ds => .own (ds.map (D.up k))
def kvUp {κ : Type} (k : Nat) (kv : κ × D) : κ × D := (kv.1, kv.2.up k)
def Ob.up (k : Nat) : Ob → Ob
  | .dk kvs => .dk (kvs.map (kvUp k)) | .ins c fs => .ins c (fs.map (kvUp k))
def lift (S0 T : Store) : Store := S0 ++ T.map (Ob.up S0.length)
def Out.up (S0 : Store) : Out → Out
  | .nx σ T => .nx (σ.map (Slot.up S0.length)) (lift S0 T) | .ret d T => .ret (d.up S0.length) (lift S0 T)
  | .brk σ T => .brk (σ.map (Slot.up S0.length)) (lift S0 T) | .ct σ T => .ct (σ.map (Slot.up S0.length)) (lift S0 T)
section
variable {S0 T : Store} {k : Nat}
theorem lift_get {n : Nat} : (lift S0 T)[n + S0.length]? = T[n]?.map (Ob.up S0.length) := by
  unfold lift
  rw [List.getElem?_append_right (by omega), Nat.add_sub_cancel, List.getElem?_map]
theorem lift_len : (lift S0 T).length = T.length + S0.length := by unfold lift; simp; omega
theorem lift_app {o : Ob} : lift S0 (T ++ [o]) = lift S0 T ++ [o.up S0.length] := by unfold lift; simp
theorem lift_set {n : Nat} {o : Ob} : lift S0 (T.set n o) = (lift S0 T).set (n + S0.length) (o.up S0.length) := by
  unfold lift
  rw [List.set_append_right (h := by omega), Nat.add_sub_cancel, List.map_set]
mutual
theorem py_up : ∀ d : D, D.py (d.up k) = D.py d
  | .non => rfl | .bl _ => rfl | .int _ => rfl | .str _ => rfl | .obj _ => rfl
  | .tup xs => by rw [D.up, D.py, D.py, pys_up xs]
  | .lst xs => by rw [D.up, D.py, D.py, pys_up xs]
  | .scr xs => by rw [D.up, D.py, D.py, pys_up xs]
theorem pys_up : ∀ ds : List D, D.pys (D.ups k ds) = D.pys ds
  | [] => rfl
  | d :: ds => by rw [D.ups, D.pys, D.pys, py_up d, pys_up ds]
end
theorem eqD_up (a b : D) : eqD (a.up k) (b.up k) = eqD a b := by unfold eqD; rw [py_up, py_up]
theorem flat_up (d : D) : flatD (d.up k) = flatD d := by cases d <;> rfl
theorem eqFl_up (a b : D) : eqFl (a.up k) (b.up k) = eqFl a b := by cases a <;> cases b <;> rfl
theorem isNon_up (a : D) : Co.isNon (a.up k) = Co.isNon a := by cases a <;> rfl
theorem isBl_up (a : D) (b : Bool) : Co.isBl (a.up k) b = Co.isBl a b := by cases a <;> rfl
theorem keyD_up (a : D) : keyD (a.up k) = keyD a := by cases a <;> rfl
theorem memD_up (d : D) (ds : List D) : memD (d.up k) (ds.map (D.up k)) = memD d ds := by
  unfold memD
  have h1 : (ds.map (D.up k)).all flatD = ds.all flatD := by rw [List.all_map]; congr 1; funext e; exact flat_up e
  have h2 : (ds.map (D.up k)).any (fun e => eqFl e (d.up k)) = ds.any fun e => eqFl e d := by rw [List.any_map]; congr 1; funext e; exact eqFl_up e d
  rw [flat_up, h1, h2]
theorem seq_up (x : Rv) : (x.up k).seq = x.seq.map (List.map (D.up k)) := by
  cases x with
  | fz d => cases d <;> simp [Rv.up, Rv.seq, D.up, ups_map]
  | fr ds => rfl
  | rd ds => rfl
theorem tseq_up (x : Rv) : (x.up k).tseq = x.tseq.map (List.map (D.up k)) := by
  cases x with
  | fz d => cases d <;> simp [Rv.up, Rv.tseq, D.up, ups_map]
  | fr ds => rfl
  | rd ds => rfl
theorem lseq_up (x : Rv) : (x.up k).lseq = x.lseq.map (List.map (D.up k)) := by
  cases x with
  | fz d => cases d <;> simp [Rv.up, Rv.lseq, D.up, ups_map]
  | fr ds => rfl
  | rd ds => rfl
theorem seqB_up (x : Rv) (b : Bool) : (x.up k).seqB b = (x.seqB b).map (List.map (D.up k)) := by
  cases x with
  | fz d => cases d <;> simp [Rv.up, Rv.seqB, Rv.seq, D.up, ups_map]
  | fr ds => rfl
  | rd ds => cases b <;> rfl
theorem isT_up (x : Rv) : (x.up k).isT = x.isT := by
  cases x with
  | fz d => cases d <;> rfl
  | fr ds => rfl
  | rd ds => rfl
theorem d_up (x : Rv) : (x.up k).d = x.d.map (D.up k) := by
  cases x with
  | fz d => rfl
  | fr ds => simp [Rv.up, Rv.d, D.up, ups_map]
  | rd ds => rfl
theorem tree_up (x : Rv) : (x.up k).tree = x.tree.up k := by
  cases x with
  | fz d => rfl
  | fr ds => simp [Rv.up, Rv.tree, D.up, ups_map]
  | rd ds => simp [Rv.up, Rv.tree, D.up, ups_map]
theorem flatten_up (n : Nat) (xs : List D) : ((List.replicate n xs).flatten).map (D.up k) = (List.replicate n (xs.map (D.up k))).flatten := by
  induction n with
  | zero => rfl
  | succ n ih => simp only [List.replicate_succ, List.flatten_cons, List.map_append, ih]
theorem binR_up (op : Bop) (x y : Rv) : binR op (x.up k) (y.up k) = (binR op x y).map (Rv.up k) := by
  cases x with
  | fz d => cases y with
    | fz e => cases d <;> cases e <;> cases op <;> simp [binR, Rv.up, D.up, Rv.tseq, ups_map, List.length_map, Option.map_map, Function.comp_def] <;> first | done | (split <;> simp [Rv.up, D.up, ups_map, flatten_up])
    | fr es => cases d <;> cases op <;> simp [binR, Rv.up, D.up, Rv.tseq, ups_map] <;> first | done | (split <;> simp [Rv.up, D.up, ups_map])
    | rd es => cases d <;> cases op <;> simp [binR, Rv.up, D.up, Rv.tseq, ups_map] <;> first | done | (split <;> simp [Rv.up, D.up, ups_map])
  | fr ds => cases y with
    | fz e => cases e <;> cases op <;> simp [binR, Rv.up, D.up, Rv.tseq, ups_map] <;> first | done | (split <;> simp [Rv.up, D.up, ups_map, flatten_up])
    | fr es => cases op <;> simp [binR, Rv.up, D.up, Rv.tseq, ups_map] <;> first | done | (split <;> simp [Rv.up, D.up, ups_map])
    | rd es => cases op <;> simp [binR, Rv.up, D.up, Rv.tseq, ups_map] <;> first | done | (split <;> simp [Rv.up, D.up, ups_map])
  | rd ds => cases y with
    | fz e => cases e <;> cases op <;> simp [binR, Rv.up, D.up, Rv.tseq, ups_map] <;> first | done | (split <;> simp [Rv.up, D.up, ups_map, flatten_up])
    | fr es => cases op <;> simp [binR, Rv.up, D.up, Rv.tseq, ups_map] <;> first | done | (split <;> simp [Rv.up, D.up, ups_map])
    | rd es => cases op <;> simp [binR, Rv.up, D.up, Rv.tseq, ups_map] <;> first | done | (split <;> simp [Rv.up, D.up, ups_map])
theorem cmpR_up (op : Cop) (x y : Rv) : cmpR op (x.up k) (y.up k) = cmpR op x y := by
  cases op with
  | eq => simp only [cmpR, tree_up, eqD_up]
  | ne => simp only [cmpR, tree_up, eqD_up]
  | lt => cases x <;> cases y <;> first | rfl | (rename_i d e; cases d <;> cases e <;> rfl) | (rename_i d e; cases d <;> rfl) | (rename_i d e; cases e <;> rfl)
  | le => cases x <;> cases y <;> first | rfl | (rename_i d e; cases d <;> cases e <;> rfl) | (rename_i d e; cases d <;> rfl) | (rename_i d e; cases e <;> rfl)
  | gt => cases x <;> cases y <;> first | rfl | (rename_i d e; cases d <;> cases e <;> rfl) | (rename_i d e; cases d <;> rfl) | (rename_i d e; cases e <;> rfl)
  | ge => cases x <;> cases y <;> first | rfl | (rename_i d e; cases d <;> cases e <;> rfl) | (rename_i d e; cases d <;> rfl) | (rename_i d e; cases e <;> rfl)
  | is => cases x <;> cases y <;> first | rfl | (rename_i d e; cases d <;> cases e <;> rfl) | (rename_i d e; cases d <;> rfl) | (rename_i d e; cases e <;> rfl)
  | isnot => cases x <;> cases y <;> first | rfl | (rename_i d e; cases d <;> cases e <;> rfl) | (rename_i d e; cases d <;> rfl) | (rename_i d e; cases e <;> rfl)
  | mem =>
    simp only [cmpR, seq_up]
    cases x with
    | fz d => cases h : y.seq with
      | none => simp [Rv.up]
      | some ds => simp only [Rv.up, Option.map_some]; exact memD_up d ds
    | fr ds => rfl
    | rd ds => rfl
  | nomem =>
    simp only [cmpR, seq_up]
    cases x with
    | fz d => cases h : y.seq with
      | none => simp [Rv.up]
      | some ds => simp only [Rv.up, Option.map_some]; rw [memD_up d ds]
    | fr ds => rfl
    | rd ds => rfl
theorem neIns_up (E : List (Option Nat)) (op : Cop) (x y : Rv) : neIns E (lift S0 T) op (x.up S0.length) (y.up S0.length) = neIns E T op x y := by
  cases op <;> first | rfl | skip
  cases x with
  | fz d => cases y with
    | fz e =>
      cases d <;> cases e <;> first | rfl | skip
      rename_i i j
      simp only [Rv.up, D.up, neIns, lift_get]
      cases T[i]? with
      | none => rfl
      | some o => cases T[j]? with
        | none => cases o <;> rfl
        | some o' => cases o <;> cases o' <;> simp [Ob.up]
    | fr es => cases d <;> rfl
    | rd es => cases d <;> rfl
  | fr ds => cases y <;> rfl
  | rd ds => cases y <;> rfl
theorem cmpS_up (E : List (Option Nat)) (op : Cop) (x y : Rv) : cmpS E (lift S0 T) op (x.up S0.length) (y.up S0.length) = cmpS E T op x y := by
  unfold cmpS; rw [neIns_up, cmpR_up]
theorem ownEq_up (E : List (Option Nat)) (x : Rv) : ownEq E (lift S0 T) (x.up S0.length) = ownEq E T x := by
  cases x with
  | fz d =>
    cases d <;> first | rfl | skip
    rename_i i
    simp only [Rv.up, D.up, ownEq, lift_get]
    cases T[i]? with
    | none => rfl
    | some o => cases o <;> rfl
  | fr ds => rfl
  | rd ds => rfl
theorem truR_up (x : Rv) : truR (x.up k) = truR x := by
  cases x with
  | fz d => cases d <;> simp [truR, Rv.up, D.up, Rv.seq, ups_map]
  | fr ds => simp [truR, Rv.up, Rv.seq]
  | rd ds => simp [truR, Rv.up, Rv.seq]
theorem isTy_up (x : Rv) (t : Ty) : isTy (lift S0 T) (x.up S0.length) t = isTy T x t := by
  cases x with
  | fz d =>
    cases d <;> first | rfl | skip
    rename_i i
    simp only [Rv.up, D.up, isTy, lift_get]
    cases T[i]? with
    | none => rfl
    | some o => cases o <;> rfl
  | fr ds => rfl
  | rd ds => rfl
theorem isTys_up (x : Rv) : ∀ ts : List Ty, isTys (lift S0 T) (x.up S0.length) ts = isTys T x ts
  | [] => rfl
  | t :: ts => by rw [isTys, isTys, isTy_up, isTys_up x ts]
theorem intsOf_up : ∀ ds : List D, intsOf (ds.map (D.up k)) = intsOf ds
  | [] => rfl
  | d :: ds => by
    cases d <;> first | rfl | skip
    simp only [List.map_cons, D.up, intsOf, intsOf_up ds]
theorem boolsOf_up : ∀ ds : List D, boolsOf (ds.map (D.up k)) = boolsOf ds
  | [] => rfl
  | d :: ds => by
    cases d <;> first | rfl | skip
    simp only [List.map_cons, D.up, boolsOf, boolsOf_up ds]
theorem atI_up (ds : List D) (i : Int) : atI (ds.map (D.up k)) i = (atI ds i).map (D.up k) := by
  unfold atI
  rw [List.length_map]
  cases ixN ds.length i with
  | none => rfl
  | some j => simp
theorem look_up (kvs : List (Key × D)) (key : Key) : lookD (kvs.map (kvUp k)) key = (lookD kvs key).map (D.up k) := by
  unfold lookD
  rw [List.find?_map, Option.map_map, Option.map_map]
  rfl
theorem put_up (kvs : List (Key × D)) (key : Key) (d : D) : putD (kvs.map (kvUp k)) key (d.up k) = (putD kvs key d).map (kvUp k) := by
  unfold putD
  have h1 : ((kvs.map (kvUp k)).any fun kv => decide (kv.1 = key)) = kvs.any fun kv => decide (kv.1 = key) := by rw [List.any_map]; rfl
  rw [h1]
  split
  · rw [List.map_map, List.map_map]
    refine List.map_congr_left fun kv _ => ?_
    by_cases h : kv.1 = key <;> simp [Function.comp, kvUp, h]
  · simp [kvUp]
theorem lookup_up (f : Str) : ∀ fs : List (Str × D), (fs.map (kvUp k)).lookup f = (fs.lookup f).map (D.up k)
  | [] => rfl
  | (g, d) :: fs => by
    show List.lookup f ((g, d.up k) :: fs.map (kvUp k)) = _
    rw [List.lookup_cons, List.lookup_cons]
    cases f == g with
    | true => rfl
    | false => exact lookup_up f fs
theorem setF_up (f : Str) (d : D) : ∀ fs : List (Str × D), setF f (d.up k) (fs.map (kvUp k)) = (setF f d fs).map (kvUp k)
  | [] => rfl
  | (g, e) :: fs => by
    show setF f (d.up k) ((g, e.up k) :: fs.map (kvUp k)) = _
    rw [setF, setF]
    split
    · rfl
    · rw [setF_up f d fs]; rfl
theorem idxR_up (x y : Rv) : idxR (lift S0 T) (x.up S0.length) (y.up S0.length) = (idxR T x y).map (D.up S0.length) := by
  cases x with
  | fz d =>
    cases d with
    | obj n =>
      cases y with
      | fz e =>
        simp only [Rv.up, D.up, idxR, lift_get]
        cases T[n]? with
        | none => rfl
        | some o =>
          cases o with
          | dk kvs =>
            simp only [Option.map_some, Ob.up, keyD_up]
            cases keyD e with
            | none => rfl
            | some key => exact look_up kvs key
          | ins c fs => rfl
      | fr es => rfl
      | rd es => rfl
    | str s =>
      cases y with
      | fz e =>
        cases e <;> first | rfl | skip
        simp only [Rv.up, D.up, idxR]
        split
        · rw [Option.map_map]; rfl
        · rfl
      | fr es => rfl
      | rd es => rfl
    | tup xs =>
      cases y with
      | fz e => cases e <;> first | rfl | (simp only [Rv.up, D.up, idxR, Rv.seq, ups_map]; exact atI_up _ _)
      | fr es => rfl
      | rd es => rfl
    | lst xs =>
      cases y with
      | fz e => cases e <;> first | rfl | (simp only [Rv.up, D.up, idxR, Rv.seq, ups_map]; exact atI_up _ _)
      | fr es => rfl
      | rd es => rfl
    | scr xs =>
      cases y with
      | fz e => cases e <;> first | rfl | (simp only [Rv.up, D.up, idxR, Rv.seq, ups_map]; exact atI_up _ _)
      | fr es => rfl
      | rd es => rfl
    | _ => cases y with
      | fz e => cases e <;> rfl
      | fr es => rfl
      | rd es => rfl
  | fr ds => cases y with
    | fz e => cases e <;> first | rfl | exact atI_up _ _
    | fr es => rfl
    | rd es => rfl
  | rd ds => cases y with
    | fz e => cases e <;> first | rfl | exact atI_up _ _
    | fr es => rfl
    | rd es => rfl
theorem cut_up (xs : List D) (lo hi : Option Int) : cutD (xs.map (D.up k)) lo hi = (cutD xs lo hi).map (D.up k) := by
  unfold cutD
  rw [List.length_map, List.map_take, List.map_drop]
theorem slR_up (x : Rv) (lo hi : Option Int) : slR (x.up k) lo hi = (slR x lo hi).map (Rv.up k) := by
  cases x with
  | fz d =>
    cases d <;> simp only [Rv.up, D.up, slR, Rv.lseq, ups_map, cut_up, Option.map_some, Option.map_none]
    split <;> rfl
  | fr ds => simp only [Rv.up, slR, Rv.lseq, cut_up, Option.map_some]
  | rd ds => simp only [Rv.up, slR, Rv.lseq, cut_up, Option.map_some]
theorem revR_up (x : Rv) : revR (x.up k) = (revR x).map (Rv.up k) := by
  cases x with
  | fz d => cases d <;> simp [Rv.up, D.up, revR, Rv.lseq, ups_map]
  | fr ds => simp [Rv.up, revR, Rv.lseq]
  | rd ds => simp [Rv.up, revR, Rv.lseq]
theorem ints_rv (ns : List Int) : (ns.map D.int).map (D.up k) = ns.map D.int := by rw [List.map_map]; rfl
theorem biR_up (f : Bi) (x : Rv) : biR f (lift S0 T) (x.up S0.length) = (biR f T x).map (Rv.up S0.length) := by
  cases f with
  | len =>
    cases x with
    | fz d =>
      cases d with
      | obj n =>
        simp only [Rv.up, D.up, biR, lift_get]
        cases T[n]? with
        | none => rfl
        | some o => cases o <;> simp [Ob.up, Rv.up, D.up]
      | str s => simp only [Rv.up, D.up, biR]; split <;> rfl
      | _ => simp [Rv.up, D.up, biR, Rv.seq, ups_map]
    | fr ds => simp [Rv.up, D.up, biR, Rv.seq]
    | rd ds => simp [Rv.up, D.up, biR, Rv.seq]
  | abs => cases x <;> first | rfl | (rename_i d; cases d <;> rfl)
  | int => cases x <;> first | rfl | (rename_i d; cases d <;> rfl)
  | list => simp only [biR, seq_up]; cases x.seq <;> rfl
  | tuple => simp only [biR, seq_up]; cases x.seq <;> simp [Rv.up, D.up, ups_map]
  | all =>
    simp only [biR, lseq_up]
    cases x.lseq with
    | none => rfl
    | some ds => simp only [Option.map_some, boolsOf_up, Option.map_map]; cases boolsOf ds <;> rfl
  | any =>
    simp only [biR, lseq_up]
    cases x.lseq with
    | none => rfl
    | some ds => simp only [Option.map_some, boolsOf_up, Option.map_map]; cases boolsOf ds <;> rfl
  | sum =>
    simp only [biR, lseq_up]
    cases x.lseq with
    | none => rfl
    | some ds => simp only [Option.map_some, intsOf_up, Option.map_map]; cases intsOf ds <;> rfl
  | max =>
    simp only [biR, lseq_up]
    cases x.lseq with
    | none => rfl
    | some ds =>
      simp only [Option.map_some, intsOf_up]
      cases intsOf ds with
      | none => rfl
      | some is => simp only [Option.bind_some, Option.map_map]; cases maxL is <;> rfl
  | min =>
    simp only [biR, lseq_up]
    cases x.lseq with
    | none => rfl
    | some ds =>
      simp only [Option.map_some, intsOf_up]
      cases intsOf ds with
      | none => rfl
      | some is => simp only [Option.bind_some, Option.map_map]; cases minL is <;> rfl
  | sorted =>
    simp only [biR, lseq_up]
    cases x.lseq with
    | none => rfl
    | some ds =>
      simp only [Option.map_some, intsOf_up]
      cases intsOf ds with
      | none => rfl
      | some is => simp only [Option.map_some, Rv.up, ints_rv]
theorem bi2R_up (f : Bi2) (x y : Rv) : bi2R f (x.up k) (y.up k) = (bi2R f x y).map (D.up k) := by
  cases f <;> cases x <;> cases y <;> first | rfl | (rename_i d e; cases d <;> cases e <;> rfl) | (rename_i d e; cases d <;> rfl) | (rename_i d e; cases e <;> rfl)
end
end Co
end

section
set_option maxHeartbeats 0
set_option Elab.async false
set_option linter.all false
set_option maxRecDepth 100000
/-! Cf2: an evaluator that the kernel can run (a while loop's turns are told ahead), and what it says of all stores. -/
namespace Co
open PySem L2
mutual
def fxS (fu : Nat) (c : Ctx) : CS → Env → Store → Option Out
  | .set i e, σ, S => match evE c e σ S with
    | some (x, S1) => match asgR i x σ with | some σ' => some (.nx σ' S1) | none => none
    | none => none
  | .setP p e, σ, S => match evE c e σ S with
    | some (x, S1) => match x.d with
      | some d => match p.asg d σ with | some σ' => some (.nx σ' S1) | none => none
      | none => none
    | none => none
  | .par is as, σ, S => match evA c as σ S with
    | some (ds, S1) => match parGo is ds σ with | some σ' => some (.nx σ' S1) | none => none
    | none => none
  | .put i a e, σ, S => match evE c e σ S with
    | some (x, S1) => match x.d with
      | some d => match evE c a σ S1 with
        | some (.fz k, S2) => match σ[i]? with
          | some (.own ds) => match k with
            | .int k => match ixN ds.length k with
              | some j => some (.nx (σ.set i (.own (ds.set j d))) S2)
              | none => none
            | _ => none
          | some (.val (.obj n)) => match S2[n]?, keyD k with
            | some (.dk kvs), some key => if kvs.length < sizeLine then some (.nx σ (S2.set n (.dk (putD kvs key d)))) else none
            | _, _ => none
          | _ => none
        | _ => none
      | none => none
    | none => none
  | .fset o f e, σ, S => match evE c e σ S with
    | some (x, S1) => match x.d with
      | some d => match evE c o σ S1 with
        | some (.fz (.obj n), S2) => match S2[n]? with
          | some (.ins k fs) => if fs.length < 1000 then some (.nx σ (S2.set n (.ins k (setF f d fs)))) else none
          | _ => none
        | _ => none
      | none => none
    | none => none
  | .aug i op e, σ, S => match σ[i]? with
    | some (.val (.int a)) => match evE c e σ S with
      | some (.fz (.int b), S1) => match op with
        | .add => some (.nx (σ.set i (.val (.int (a + b)))) S1)
        | .sub => some (.nx (σ.set i (.val (.int (a - b)))) S1)
        | _ => none
      | _ => none
    | _ => none
  | .drop e, σ, S => match evE c e σ S with
    | some (_, S1) => some (.nx σ S1)
    | none => none
  | .app i e, σ, S => match evE c e σ S with
    | some (x, S1) => match x.d, ownAt σ i with
      | some d, some ds => if ds.length < sizeLine then some (.nx (σ.set i (.own (ds ++ [d]))) S1) else none
      | _, _ => none
    | none => none
  | .ext i e, σ, S => match evE c e σ S with
    | some (x, S1) => match x.tseq, ownAt σ i with
      | some xs, some ds => if ds.length + xs.length ≤ sizeLine then some (.nx (σ.set i (.own (ds ++ xs))) S1) else none
      | _, _ => none
    | none => none
  | .pop p i, σ, S => match ownAt σ i with
    | some ds => match ds.getLast? with
      | some d => match p.asg d (σ.set i (.own ds.dropLast)) with | some σ' => some (.nx σ' S) | none => none
      | none => none
    | none => none
  | .ifs t a b, σ, S => match evT c t σ S with
    | some (true, S1) => fxB fu c a σ S1
    | some (false, S1) => fxB fu c b σ S1
    | none => none
  | .whl t b, σ, S => whF (evT c t) (fxB fu c b) fu σ S
  | .for p it b, σ, S => match evI c true it σ S with
    | some (ds, S1) => forGo (fun d σ S => match p.asg d σ with | some σ' => fxB fu c b σ' S | none => none) ds σ S1
    | none => none
  | .ret e, σ, S => match evE c e σ S with
    | some (x, S1) => match x.d with | some d => some (.ret d S1) | none => none
    | none => none
  | .retN, _, S => some (.ret .non S)
  | .pass, σ, S => some (.nx σ S)
  | .brk, σ, S => some (.brk σ S)
  | .cont, σ, S => some (.ct σ S)
  | .never, _, _ => none
def fxB (fu : Nat) (c : Ctx) : CB → Env → Store → Option Out
  | .nil, σ, S => some (.nx σ S)
  | .cons fz s r, σ, S => match fxS fu c s (frz fz σ) S with
    | some (.nx σ' S') => fxB fu c r σ' S'
    | some o => some o
    | none => none
end
def callF (fu : Nat) (P : Prg) : Nat → Nat → List D → Store → Option (D × Store)
  | 0, _, _, _ => none
  | n + 1, f, ds, S => match P.fns[f]? with
    | some F => if ds.length = F.np then
        match fxB fu ⟨callF fu P n, P.globs, P.inits, P.eqs⟩ F.body (ds.map .val ++ List.replicate (F.ns - F.np) .non) S with
        | some (.nx _ S') => some (.non, S')
        | some (.ret d S') => some (d, S')
        | _ => none
      else none
    | none => none

abbrev eUp (k : Nat) (σ : Env) : Env := σ.map (Slot.up k)
/-- c' does what c does, upon each store -/
structure Lifts (S0 : Store) (c c' : Ctx) : Prop where
  call : ∀ i ds T d T', c.call i ds T = some (d, T') → c'.call i (ds.map (D.up S0.length)) (lift S0 T) = some (d.up S0.length, lift S0 T')
  globs : c'.globs = c.globs
  gup : ∀ d ∈ c.globs, d.up S0.length = d
  inits : c'.inits = c.inits
  eqs : c'.eqs = c.eqs
section
variable {S0 : Store} {c c' : Ctx} {k : Nat}
theorem env_get (σ : Env) (i : Nat) : (eUp k σ)[i]? = σ[i]?.map (Slot.up k) := by rw [List.getElem?_map]
theorem env_set (σ : Env) (i : Nat) (s : Slot) : (eUp k σ).set i (s.up k) = eUp k (σ.set i s) := by
  show (σ.map (Slot.up k)).set i (s.up k) = (σ.set i s).map (Slot.up k)
  rw [List.map_set]
theorem asg_up : ∀ (p : Pat) (d : D) (σ : Env), p.asg (d.up k) (eUp k σ) = (p.asg d σ).map (eUp k)
  | .nm i, d, σ => by
    show some ((eUp k σ).set i (.val (d.up k))) = some (eUp k (σ.set i (.val d)))
    rw [← env_set]; rfl
  | .tnil, d, σ => by
    cases d with
    | tup xs => cases xs <;> rfl
    | _ => rfl
  | .tcons p r, d, σ => by
    cases d with
    | tup xs =>
      cases xs with
      | nil => rfl
      | cons d ds =>
        show (match p.asg (d.up k) (eUp k σ) with | some σ' => r.asg (.tup (D.ups k ds)) σ' | none => none) = Option.map (eUp k) (match p.asg d σ with | some σ' => r.asg (.tup ds) σ' | none => none)
        rw [asg_up p d σ]
        cases p.asg d σ with
        | none => rfl
        | some σ' => exact asg_up r (.tup ds) σ'
    | _ => rfl
theorem wipe_up (σ : Env) : ∀ vs : List Nat, wipeE (eUp k σ) vs = eUp k (wipeE σ vs)
  | [] => rfl
  | v :: vs => by
    show (wipeE (eUp k σ) vs).set v .non = eUp k ((wipeE σ vs).set v .non)
    rw [wipe_up σ vs, ← env_set]; rfl
theorem frz_up : ∀ (is : List Nat) (σ : Env), frz is (eUp k σ) = eUp k (frz is σ)
  | [], σ => rfl
  | i :: is, σ => by
    unfold frz
    rw [env_get]
    cases h : σ[i]? with
    | none => exact frz_up is σ
    | some s =>
      cases s with
      | non => exact frz_up is σ
      | val d => exact frz_up is σ
      | own ds =>
        simp only [Option.map_some, Slot.up]
        rw [← frz_up is (σ.set i (.val (.lst ds))), ← env_set]
        congr 2
        simp [Slot.up, D.up, ups_map]
theorem asgR_up (i : Nat) (x : Rv) (σ : Env) : asgR i (x.up k) (eUp k σ) = (asgR i x σ).map (eUp k) := by
  cases x with
  | fz d => show some ((eUp k σ).set i (.val (d.up k))) = some (eUp k (σ.set i (.val d))); rw [← env_set]; rfl
  | fr ds => show some ((eUp k σ).set i (.own (ds.map (D.up k)))) = some (eUp k (σ.set i (.own ds))); rw [← env_set]; rfl
  | rd ds => rfl
theorem par_up : ∀ (is : List Nat) (ds : List D) (σ : Env), parGo is (ds.map (D.up k)) (eUp k σ) = (parGo is ds σ).map (eUp k)
  | [], [], σ => rfl
  | [], _ :: _, σ => rfl
  | _ :: _, [], σ => rfl
  | i :: is, d :: ds, σ => by
    show parGo is (ds.map (D.up k)) ((eUp k σ).set i (.val (d.up k))) = _
    have : (eUp k σ).set i (.val (d.up k)) = eUp k (σ.set i (.val d)) := by rw [← env_set]; rfl
    rw [this]
    exact par_up is ds _
theorem ownAt_up (σ : Env) (i : Nat) : ownAt (eUp k σ) i = (ownAt σ i).map (List.map (D.up k)) := by
  unfold ownAt
  rw [env_get]
  cases σ[i]? with
  | none => rfl
  | some s => cases s <;> rfl
theorem lcGo_up {f f' : D → Store → Option (Option D × Store)} (h : ∀ d T o T', f d T = some (o, T') → f' (d.up S0.length) (lift S0 T) = some (o.map (D.up S0.length), lift S0 T')) :
    ∀ (ds acc : List D) (T : Store) (r : List D) (T' : Store), lcGo f ds acc T = some (r, T') → lcGo f' (ds.map (D.up S0.length)) (acc.map (D.up S0.length)) (lift S0 T) = some (r.map (D.up S0.length), lift S0 T')
  | [], acc, T, r, T', e => by
    simp only [lcGo, Option.some.injEq, Prod.mk.injEq] at e
    obtain ⟨rfl, rfl⟩ := e
    rfl
  | d :: ds, acc, T, r, T', e => by
    rw [lcGo] at e
    rw [List.map_cons, lcGo]
    cases h1 : f d T with
    | none => rw [h1] at e; cases e
    | some p =>
      obtain ⟨o, T1⟩ := p
      rw [h1] at e
      rw [h d T o T1 h1]
      cases o with
      | none => exact lcGo_up h ds acc T1 r T' e
      | some x =>
        simp only [Option.map_some] at e ⊢
        split at e
        · rename_i hz
          rw [List.length_map, if_pos hz]
          have := lcGo_up h ds (acc ++ [x]) T1 r T' e
          simpa using this
        · cases e
theorem forGo_up {f f' : D → Env → Store → Option Out} (h : ∀ d σ T o, f d σ T = some o → f' (d.up S0.length) (eUp S0.length σ) (lift S0 T) = some (o.up S0)) :
    ∀ (ds : List D) (σ : Env) (T : Store) (o : Out), forGo f ds σ T = some o → forGo f' (ds.map (D.up S0.length)) (eUp S0.length σ) (lift S0 T) = some (o.up S0)
  | [], σ, T, o, e => by
    simp only [forGo, Option.some.injEq] at e
    subst e
    rfl
  | d :: ds, σ, T, o, e => by
    rw [forGo] at e
    rw [List.map_cons, forGo]
    cases h1 : f d σ T with
    | none => rw [h1] at e; cases e
    | some p =>
      rw [h1] at e
      rw [h d σ T p h1]
      cases p with
      | nx σ' T1 => exact forGo_up h ds σ' T1 o e
      | ct σ' T1 => exact forGo_up h ds σ' T1 o e
      | brk σ' T1 => cases e; rfl
      | ret x T1 => cases e; rfl
theorem whF_up {t t' : Env → Store → Option (Bool × Store)} {b b' : Env → Store → Option Out} (ht : ∀ σ T z T', t σ T = some (z, T') → t' (eUp S0.length σ) (lift S0 T) = some (z, lift S0 T'))
    (hb : ∀ σ T o, b σ T = some o → b' (eUp S0.length σ) (lift S0 T) = some (o.up S0)) : ∀ (n : Nat) (σ : Env) (T : Store) (o : Out), whF t b n σ T = some o → whF t' b' n (eUp S0.length σ) (lift S0 T) = some (o.up S0)
  | 0, σ, T, o, e => by simp [whF] at e
  | n + 1, σ, T, o, e => by
    rw [whF] at e ⊢
    cases h1 : t σ T with
    | none => rw [h1] at e; cases e
    | some p =>
      obtain ⟨z, T1⟩ := p
      rw [h1] at e
      rw [ht σ T z T1 h1]
      cases z with
      | false => cases e; rfl
      | true =>
        simp only at e ⊢
        cases h2 : b σ T1 with
        | none => rw [h2] at e; cases e
        | some q =>
          rw [h2] at e
          rw [hb σ T1 q h2]
          cases q with
          | nx σ' T2 => exact whF_up ht hb n σ' T2 o e
          | ct σ' T2 => exact whF_up ht hb n σ' T2 o e
          | brk σ' T2 => cases e; rfl
          | ret x T2 => cases e; rfl
theorem whF_more {t : Env → Store → Option (Bool × Store)} {b : Env → Store → Option Out} : ∀ {n : Nat} {σ : Env} {S : Store} {r : Out}, whF t b n σ S = some r → whF t b (n + 1) σ S = some r
  | 0, _, _, _, h => by simp [whF] at h
  | n + 1, σ, S, r, h => by
    rw [whF] at h ⊢
    cases et : t σ S with
    | none => rw [et] at h; exact h
    | some p =>
      obtain ⟨z, S1⟩ := p
      rw [et] at h
      cases z with
      | false => exact h
      | true =>
        simp only at h ⊢
        cases eb : b σ S1 with
        | none => rw [eb] at h; exact h
        | some o =>
          rw [eb] at h
          cases o with
          | nx σ' S' => exact whF_more h
          | ct σ' S' => exact whF_more h
          | brk σ' S' => exact h
          | ret d S' => exact h
theorem whF_mono {t : Env → Store → Option (Bool × Store)} {b : Env → Store → Option Out} {n m : Nat} {σ : Env} {S : Store} {r : Out} (h : whF t b n σ S = some r) (hm : n ≤ m) : whF t b m σ S = some r := by
  induction hm with
  | refl => exact h
  | step _ ih => exact whF_more ih
theorem whD_fuel {t : Env → Store → Option (Bool × Store)} {b : Env → Store → Option Out} {n : Nat} {σ : Env} {S : Store} {r : Out} (h : whF t b n σ S = some r) : whD t b σ S = some r := by
  have q : ∃ n r, whF t b n σ S = some r := ⟨n, r, h⟩
  unfold whD
  rw [dif_pos q]
  have k1 := whF_mono (Classical.choose_spec (Classical.choose_spec q)) (Nat.le_max_left _ n)
  have k2 := whF_mono h (Nat.le_max_right (Classical.choose q) n)
  rw [k1] at k2
  exact k2
end
end Co
end

section
set_option maxHeartbeats 0
set_option Elab.async false
set_option linter.all false
set_option maxRecDepth 100000
/-! Cf3: expressions upon each store. -/
namespace Co
open PySem L2
section
variable {S0 : Store} {c c' : Ctx}
mutual
def CE.up (k : Nat) : CE → CE
  | .const d => .const (d.up k) | .var i => .var i | .glob i => .glob i
  | .bin op a b => .bin op (a.up k) (b.up k) | .neg a => .neg (a.up k) | .cmp op a b => .cmp op (a.up k) (b.up k) | .cmpO op a b => .cmpO op (a.up k) (b.up k)
  | .chain op op' a b d => .chain op op' (a.up k) (b.up k) (d.up k)
  | .andV a b => .andV (a.up k) (b.up k) | .orV a b => .orV (a.up k) (b.up k) | .notV a => .notV (a.up k) | .ite t a b => .ite (t.up k) (a.up k) (b.up k)
  | .tup as => .tup (as.up k) | .lst as => .lst (as.up k) | .idx a b => .idx (a.up k) (b.up k) | .sl2 a l h => .sl2 (a.up k) (l.up k) (h.up k) | .slL a l => .slL (a.up k) (l.up k) | .slH a h => .slH (a.up k) (h.up k)
  | .rev a => .rev (a.up k) | .bi f a => .bi f (a.up k) | .bi2 f a b => .bi2 f (a.up k) (b.up k) | .isi a ts => .isi (a.up k) ts | .call f as => .call f (as.up k) | .mk c as => .mk c (as.up k) | .attr a f => .attr (a.up k) f
  | .lc p vs it t e => .lc p vs (it.up k) (t.up k) (e.up k) | .dct ks as => .dct ks (as.up k)
def CT.up (k : Nat) : CT → CT
  | .tr e => .tr (e.up k) | .and t u => .and (t.up k) (u.up k) | .or t u => .or (t.up k) (u.up k) | .not t => .not (t.up k) | .yes => .yes
def CA.up (k : Nat) : CA → CA
  | .nil => .nil | .cons e as => .cons (e.up k) (as.up k)
def CI.up (k : Nat) : CI → CI
  | .seq e => .seq (e.up k) | .rng1 a => .rng1 (a.up k) | .rng2 a b => .rng2 (a.up k) (b.up k) | .enum e => .enum (e.up k) | .zip a b => .zip (a.up k) (b.up k)
end
mutual
def CS.up (k : Nat) : CS → CS
  | .set i e => .set i (e.up k) | .setP p e => .setP p (e.up k) | .par is as => .par is (as.up k) | .put i a e => .put i (a.up k) (e.up k) | .fset o f e => .fset (o.up k) f (e.up k)
  | .aug i op e => .aug i op (e.up k) | .drop e => .drop (e.up k) | .app i e => .app i (e.up k) | .ext i e => .ext i (e.up k) | .pop p i => .pop p i
  | .ifs t a b => .ifs (t.up k) (a.up k) (b.up k) | .whl t b => .whl (t.up k) (b.up k) | .for p it b => .for p (it.up k) (b.up k) | .ret e => .ret (e.up k)
  | .retN => .retN | .pass => .pass | .brk => .brk | .cont => .cont | .never => .never
def CB.up (k : Nat) : CB → CB
  | .nil => .nil | .cons fz s r => .cons fz (s.up k) (r.up k)
end
theorem rvi_up {k : Nat} {i : Int} : (Rv.fz (.int i)).up k = .fz (.int i) := rfl
def lcU (c : Ctx) (p : Pat) (vs : List Nat) (t : CT) (e : CE) (σ : Env) : D → Store → Option (Option D × Store) := fun d S => match p.asg d (wipeE σ vs) with
  | some σ' => match evT c t σ' S with
    | some (true, S2) => match evE c e σ' S2 with
      | some (r, S3) => match r.d with | some x => some (some x, S3) | none => none
      | none => none
    | some (false, S2) => some (none, S2)
    | none => none
  | none => none
theorem zip_up {k : Nat} : ∀ xs ys : List D, List.zipWith (fun u v => D.tup [u, v]) (xs.map (D.up k)) (ys.map (D.up k)) = (List.zipWith (fun u v => D.tup [u, v]) xs ys).map (D.up k)
  | [], _ => rfl
  | _ :: _, [] => rfl
  | x :: xs, y :: ys => by
    show D.tup [x.up k, y.up k] :: List.zipWith (fun u v => D.tup [u, v]) (xs.map (D.up k)) (ys.map (D.up k)) = (D.tup [x, y]).up k :: (List.zipWith (fun u v => D.tup [u, v]) xs ys).map (D.up k)
    rw [zip_up xs ys]
    rfl
theorem ints_up {k : Nat} {α : Type} (f : α → Int) (l : List α) : (l.map fun a => D.int (f a)).map (D.up k) = l.map fun a => D.int (f a) := by rw [List.map_map]; rfl
theorem enum_up {k : Nat} (ds : List D) : ((ds.map (D.up k)).mapIdx fun (i : Nat) d => D.tup [.int (i : Int), d]) = (ds.mapIdx fun (i : Nat) d => D.tup [.int (i : Int), d]).map (D.up k) := by
  apply List.ext_getElem?
  intro i
  simp only [List.getElem?_mapIdx, List.getElem?_map, Option.map_map]
  cases ds[i]? <;> rfl
theorem dct_up {k : Nat} : ∀ (ks : List Key) (ds : List D), ks.zip (ds.map (D.up k)) = (ks.zip ds).map (kvUp k)
  | [], _ => rfl
  | _ :: _, [] => rfl
  | key :: ks, d :: ds => by
    show (key, d.up k) :: ks.zip (ds.map (D.up k)) = kvUp k (key, d) :: (ks.zip ds).map (kvUp k)
    rw [dct_up ks ds]
    rfl
theorem dup_none {x : Rv} {d : D} {k : Nat} (h : x.d = some d) : (x.up k).d = some (d.up k) := by rw [d_up, h]; rfl
mutual
theorem evE_up (L : Lifts S0 c c') : ∀ (e : CE) (σ : Env) (T : Store) (r : Rv) (T' : Store), evE c e σ T = some (r, T') → evE c' (e.up S0.length) (eUp S0.length σ) (lift S0 T) = some (r.up S0.length, lift S0 T')
  | .const d, σ, T, r, T', h => by
    rw [evE] at h
    rw [CE.up, evE]
    cases h
    rfl
  | .var i, σ, T, r, T', h => by
    rw [evE] at h
    rw [CE.up, evE]
    rw [env_get]
    split at h
    · rename_i d e; cases h; rw [e]; rfl
    · rename_i d e; cases h; rw [e]; rfl
    · cases h
  | .glob i, σ, T, r, T', h => by
    rw [evE] at h
    rw [CE.up, evE]
    rw [L.globs]
    split at h
    · rename_i d e; cases h; rw [Rv.up, L.gup d (List.mem_of_getElem? e)]
    · cases h
  | .bin op a b, σ, T, r, T', h => by
    rw [evE] at h
    rw [CE.up, evE]
    split at h
    rotate_left
    · cases h
    rename_i x T1 e1
    split at h
    rotate_left
    · cases h
    rename_i y T2 e2
    split at h
    rotate_left
    · cases h
    rename_i z e3
    cases h
    rw [evE_up L a _ _ _ _ e1]
    simp only
    rw [evE_up L b _ _ _ _ e2]
    simp only
    rw [binR_up, e3]
    rfl
  | .neg a, σ, T, r, T', h => by
    rw [evE] at h
    rw [CE.up, evE]
    split at h
    · rename_i i T1 e1
      cases h
      rw [evE_up L a _ _ _ _ e1]
      rfl
    · cases h
  | .cmp op a b, σ, T, r, T', h => by
    rw [evE] at h
    rw [CE.up, evE]
    split at h
    rotate_left
    · cases h
    rename_i x T1 e1
    split at h
    rotate_left
    · cases h
    rename_i y T2 e2
    split at h
    rotate_left
    · cases h
    rename_i z e3
    cases h
    rw [evE_up L a _ _ _ _ e1]
    simp only
    rw [evE_up L b _ _ _ _ e2]
    simp only
    rw [L.eqs, cmpS_up, e3]
    rfl
  | .cmpO op a b, σ, T, r, T', h => by
    rw [evE] at h
    rw [CE.up, evE]
    split at h
    rotate_left
    · cases h
    rename_i x T1 e1
    split at h
    rotate_left
    · cases h
    rename_i y T2 e2
    rw [evE_up L a _ _ _ _ e1]
    simp only
    rw [evE_up L b _ _ _ _ e2]
    simp only
    rw [L.eqs, ownEq_up]
    split at h
    · rename_i kk j e3
      split at h
      · rename_i dx dy bb e4
        have e4' := isTy_up (S0 := S0) (T := T2) (.fz dy) (.own kk)
        rw [e4] at e4'
        rw [e4']
        simp only [Rv.up]
        split at h
        · rename_i z T3 e5
          have e5' := L.call _ _ _ _ _ e5
          simp only [List.map_cons, List.map_nil, D.up] at e5'
          rw [e5']
          cases op <;> cases h <;> rfl
        · cases h
      · cases h
    · rename_i e3
      rw [cmpS_up]
      split at h
      · rename_i z e4
        cases h
        rfl
      · cases h
  | .chain op op' a b d, σ, T, r, T', h => by
    rw [evE] at h
    rw [CE.up, evE]
    split at h
    rotate_left
    · cases h
    rename_i x T1 e1
    split at h
    rotate_left
    · cases h
    rename_i y T2 e2
    rw [evE_up L a _ _ _ _ e1]
    simp only
    rw [evE_up L b _ _ _ _ e2]
    simp only
    rw [cmpR_up]
    split at h
    · rename_i e3
      split at h
      rotate_left
      · cases h
      rename_i z T3 e4
      rw [evE_up L d _ _ _ _ e4]
      simp only
      rw [cmpR_up]
      split at h
      · rename_i q e5
        cases h
        rfl
      · cases h
    · rename_i e3
      cases h
      rfl
    · cases h
  | .andV a b, σ, T, r, T', h => by
    rw [evE] at h
    rw [CE.up, evE]
    split at h
    · rename_i T1 e1
      rw [evE_up L a _ _ _ _ e1]
      exact evE_up L b _ _ _ _ h
    · rename_i T1 e1
      cases h
      rw [evE_up L a _ _ _ _ e1]
      rfl
    · cases h
  | .orV a b, σ, T, r, T', h => by
    rw [evE] at h
    rw [CE.up, evE]
    split at h
    · rename_i T1 e1
      rw [evE_up L a _ _ _ _ e1]
      exact evE_up L b _ _ _ _ h
    · rename_i T1 e1
      cases h
      rw [evE_up L a _ _ _ _ e1]
      rfl
    · cases h
  | .notV a, σ, T, r, T', h => by
    rw [evE] at h
    rw [CE.up, evE]
    split at h
    · rename_i b T1 e1
      cases h
      rw [evE_up L a _ _ _ _ e1]
      rfl
    · cases h
  | .ite t a b, σ, T, r, T', h => by
    rw [evE] at h
    rw [CE.up, evE]
    split at h
    · rename_i T1 e1
      rw [evT_up L t _ _ _ _ e1]
      exact evE_up L a _ _ _ _ h
    · rename_i T1 e1
      rw [evT_up L t _ _ _ _ e1]
      exact evE_up L b _ _ _ _ h
    · cases h
  | .tup as, σ, T, r, T', h => by
    rw [evE] at h
    rw [CE.up, evE]
    split at h
    · rename_i ds T1 e1
      rw [evA_up L as _ _ _ _ e1]
      simp only [List.length_map]
      split at h <;> cases h
      rename_i hz
      rw [if_pos hz]
      simp [Rv.up, D.up, ups_map]
    · cases h
  | .lst as, σ, T, r, T', h => by
    rw [evE] at h
    rw [CE.up, evE]
    split at h
    · rename_i ds T1 e1
      rw [evA_up L as _ _ _ _ e1]
      simp only [List.length_map]
      split at h <;> cases h
      rename_i hz
      rw [if_pos hz]
      rfl
    · cases h
  | .idx a b, σ, T, r, T', h => by
    rw [evE] at h
    rw [CE.up, evE]
    split at h
    rotate_left
    · cases h
    rename_i x T1 e1
    split at h
    rotate_left
    · cases h
    rename_i y T2 e2
    rw [evE_up L a _ _ _ _ e1]
    simp only
    rw [evE_up L b _ _ _ _ e2]
    simp only
    rw [idxR_up]
    split at h
    · rename_i d e3
      cases h
      rw [e3]
      rfl
    · cases h
  | .sl2 a lo hi, σ, T, r, T', h => by
    rw [evE] at h
    rw [CE.up, evE]
    split at h
    rotate_left
    · cases h
    rename_i x T1 e1
    split at h
    rotate_left
    · cases h
    rename_i l T2 e2
    split at h
    rotate_left
    · cases h
    rename_i u T3 e3
    rw [evE_up L a _ _ _ _ e1]
    simp only
    rw [evE_up L lo _ _ _ _ e2]
    simp only [rvi_up]
    rw [evE_up L hi _ _ _ _ e3]
    simp only [rvi_up]
    have q := slR_up (k := S0.length) x (some l) (some u)
    split at h
    · rename_i z e4
      cases h
      rw [e4] at q
      rw [q]
      rfl
    · cases h
  | .slL a lo, σ, T, r, T', h => by
    rw [evE] at h
    rw [CE.up, evE]
    split at h
    rotate_left
    · cases h
    rename_i x T1 e1
    split at h
    rotate_left
    · cases h
    rename_i l T2 e2
    rw [evE_up L a _ _ _ _ e1]
    simp only
    rw [evE_up L lo _ _ _ _ e2]
    simp only [rvi_up]
    have q := slR_up (k := S0.length) x (some l) none
    split at h
    · rename_i z e4
      cases h
      rw [e4] at q
      rw [q]
      rfl
    · cases h
  | .slH a hi, σ, T, r, T', h => by
    rw [evE] at h
    rw [CE.up, evE]
    split at h
    rotate_left
    · cases h
    rename_i x T1 e1
    split at h
    rotate_left
    · cases h
    rename_i l T2 e2
    rw [evE_up L a _ _ _ _ e1]
    simp only
    rw [evE_up L hi _ _ _ _ e2]
    simp only [rvi_up]
    have q := slR_up (k := S0.length) x none (some l)
    split at h
    · rename_i z e4
      cases h
      rw [e4] at q
      rw [q]
      rfl
    · cases h
  | .rev a, σ, T, r, T', h => by
    rw [evE] at h
    rw [CE.up, evE]
    split at h
    rotate_left
    · cases h
    rename_i x T1 e1
    rw [evE_up L a _ _ _ _ e1]
    simp only
    rw [revR_up]
    split at h
    · rename_i z e4
      cases h
      rw [e4]
      rfl
    · cases h
  | .bi f a, σ, T, r, T', h => by
    rw [evE] at h
    rw [CE.up, evE]
    split at h
    rotate_left
    · cases h
    rename_i x T1 e1
    rw [evE_up L a _ _ _ _ e1]
    simp only
    rw [biR_up]
    split at h
    · rename_i z e4
      cases h
      rw [e4]
      rfl
    · cases h
  | .bi2 f a b, σ, T, r, T', h => by
    rw [evE] at h
    rw [CE.up, evE]
    split at h
    rotate_left
    · cases h
    rename_i x T1 e1
    split at h
    rotate_left
    · cases h
    rename_i y T2 e2
    rw [evE_up L a _ _ _ _ e1]
    simp only
    rw [evE_up L b _ _ _ _ e2]
    simp only
    rw [bi2R_up]
    split at h
    · rename_i z e4
      cases h
      rw [e4]
      rfl
    · cases h
  | .isi a ts, σ, T, r, T', h => by
    rw [evE] at h
    rw [CE.up, evE]
    split at h
    rotate_left
    · cases h
    rename_i x T1 e1
    rw [evE_up L a _ _ _ _ e1]
    simp only
    rw [isTys_up]
    split at h
    · rename_i z e4
      cases h
      rfl
    · cases h
  | .call f as, σ, T, r, T', h => by
    rw [evE] at h
    rw [CE.up, evE]
    split at h
    rotate_left
    · cases h
    rename_i ds T1 e1
    rw [evA_up L as _ _ _ _ e1]
    simp only
    split at h
    · rename_i d T2 e4
      cases h
      rw [L.call _ _ _ _ _ e4]
      rfl
    · cases h
  | .mk k as, σ, T, r, T', h => by
    rw [evE] at h
    rw [CE.up, evE]
    split at h
    rotate_left
    · cases h
    rename_i ds T1 e1
    rw [evA_up L as _ _ _ _ e1]
    simp only
    rw [L.inits]
    split at h
    · rename_i e2
      split at h <;> cases h
      rename_i hd
      subst hd
      rw [List.map_nil, if_pos rfl, lift_len, lift_app]
      rfl
    · rename_i f e2
      split at h
      · rename_i T2 e3
        cases h
        have q := L.call _ _ _ _ _ e3
        rw [List.map_cons, lift_app] at q
        rw [lift_len]
        have q' : c'.call f (.obj (T1.length + S0.length) :: ds.map (D.up S0.length)) (lift S0 T1 ++ [.ins k []]) = some (.non, lift S0 T') := q
        rw [q']
        rfl
      · cases h
    · cases h
  | .attr a f, σ, T, r, T', h => by
    rw [evE] at h
    rw [CE.up, evE]
    split at h
    rotate_left
    · cases h
    rename_i n T1 e1
    rw [evE_up L a _ _ _ _ e1]
    simp only [Rv.up, D.up, lift_get]
    split at h
    rotate_left
    · cases h
    rename_i kc fs e2
    rw [e2]
    simp only [Option.map_some, Ob.up]
    rw [lookup_up]
    split at h
    · rename_i d e3
      cases h
      rw [e3]
      rfl
    · cases h
  | .lc p vs it t e, σ, T, r, T', h => by
    rw [evE] at h
    rw [CE.up, evE]
    split at h
    rotate_left
    · cases h
    rename_i ds T1 e1
    rw [evI_up L false it _ _ _ _ e1]
    simp only
    split at h
    · rename_i rs T2 e2
      cases h
      have e2 : lcGo (lcU c p vs t e σ) ds [] T1 = some (rs, T') := e2
      change (match lcGo (lcU c' p vs (t.up S0.length) (e.up S0.length) (eUp S0.length σ)) (ds.map (D.up S0.length)) [] (lift S0 T1) with | some (r, S2) => some (Rv.fr r, S2) | none => none) = _
      have q := lcGo_up (S0 := S0) (f' := lcU c' p vs (t.up S0.length) (e.up S0.length) (eUp S0.length σ)) (fun d T o T' hh => by
          unfold lcU at hh ⊢
          rw [wipe_up, asg_up]
          split at hh
          rotate_left
          · cases hh
          rename_i σ' ea
          rw [ea]
          simp only [Option.map_some]
          split at hh
          · rename_i T3 et
            rw [evT_up L t _ _ _ _ et]
            simp only
            split at hh
            rotate_left
            · cases hh
            rename_i rr T4 ee
            rw [evE_up L e _ _ _ _ ee]
            simp only
            split at hh
            · rename_i x ex
              cases hh
              rw [dup_none ex]
              rfl
            · cases hh
          · rename_i T3 et
            cases hh
            rw [evT_up L t _ _ _ _ et]
            rfl
          · cases hh) ds [] T1 rs T' e2
      rw [List.map_nil] at q
      rw [q]
      rfl
    · cases h
  | .dct ks as, σ, T, r, T', h => by
    rw [evE] at h
    rw [CE.up, evE]
    split at h
    rotate_left
    · cases h
    rename_i ds T1 e1
    rw [evA_up L as _ _ _ _ e1]
    simp only [List.length_map]
    split at h <;> cases h
    rename_i hc
    rw [if_pos hc, lift_len, lift_app, dct_up]
    rfl
theorem evT_up (L : Lifts S0 c c') : ∀ (t : CT) (σ : Env) (T : Store) (z : Bool) (T' : Store), evT c t σ T = some (z, T') → evT c' (t.up S0.length) (eUp S0.length σ) (lift S0 T) = some (z, lift S0 T')
  | .tr e, σ, T, z, T', h => by
    rw [evT] at h
    rw [CT.up, evT]
    split at h
    rotate_left
    · cases h
    rename_i x T1 e1
    rw [evE_up L e _ _ _ _ e1]
    simp only
    rw [truR_up]
    split at h
    · rename_i b e2
      cases h
      rfl
    · cases h
  | .and t u, σ, T, z, T', h => by
    rw [evT] at h
    rw [CT.up, evT]
    split at h
    · rename_i T1 e1
      rw [evT_up L t _ _ _ _ e1]
      exact evT_up L u _ _ _ _ h
    · rename_i T1 e1
      cases h
      rw [evT_up L t _ _ _ _ e1]
    · cases h
  | .or t u, σ, T, z, T', h => by
    rw [evT] at h
    rw [CT.up, evT]
    split at h
    · rename_i T1 e1
      rw [evT_up L t _ _ _ _ e1]
      exact evT_up L u _ _ _ _ h
    · rename_i T1 e1
      cases h
      rw [evT_up L t _ _ _ _ e1]
    · cases h
  | .not t, σ, T, z, T', h => by
    rw [evT] at h
    rw [CT.up, evT]
    split at h
    · rename_i b T1 e1
      cases h
      rw [evT_up L t _ _ _ _ e1]
    · cases h
  | .yes, σ, T, z, T', h => by
    rw [evT] at h
    rw [CT.up, evT]
    cases h
    rfl
theorem evA_up (L : Lifts S0 c c') : ∀ (as : CA) (σ : Env) (T : Store) (ds : List D) (T' : Store), evA c as σ T = some (ds, T') → evA c' (as.up S0.length) (eUp S0.length σ) (lift S0 T) = some (ds.map (D.up S0.length), lift S0 T')
  | .nil, σ, T, ds, T', h => by
    rw [evA] at h
    rw [CA.up, evA]
    cases h
    rfl
  | .cons e as, σ, T, ds, T', h => by
    rw [evA] at h
    rw [CA.up, evA]
    split at h
    rotate_left
    · cases h
    rename_i x T1 e1
    split at h
    rotate_left
    · cases h
    rename_i d e2
    split at h
    rotate_left
    · cases h
    rename_i ds' T2 e3
    cases h
    rw [evE_up L e _ _ _ _ e1]
    simp only
    rw [dup_none e2]
    simp only
    rw [evA_up L as _ _ _ _ e3]
    rfl
theorem evI_up (L : Lifts S0 c c') : ∀ (fx : Bool) (it : CI) (σ : Env) (T : Store) (ds : List D) (T' : Store), evI c fx it σ T = some (ds, T') → evI c' fx (it.up S0.length) (eUp S0.length σ) (lift S0 T) = some (ds.map (D.up S0.length), lift S0 T')
  | fx, .seq e, σ, T, ds, T', h => by
    rw [evI] at h
    rw [CI.up, evI]
    split at h
    rotate_left
    · cases h
    rename_i x T1 e1
    rw [evE_up L e _ _ _ _ e1]
    simp only
    rw [seqB_up]
    split at h
    · rename_i d e2
      cases h
      rw [e2]
      rfl
    · cases h
  | fx, .rng1 a, σ, T, ds, T', h => by
    rw [evI] at h
    rw [CI.up, evI]
    split at h
    rotate_left
    · cases h
    rename_i j T1 e1
    rw [evE_up L a _ _ _ _ e1]
    simp only [Rv.up, D.up]
    split at h <;> cases h
    rename_i hc
    rw [if_pos hc, ints_up]
  | fx, .rng2 a b, σ, T, ds, T', h => by
    rw [evI] at h
    rw [CI.up, evI]
    split at h
    rotate_left
    · cases h
    rename_i i T1 e1
    split at h
    rotate_left
    · cases h
    rename_i j T2 e2
    rw [evE_up L a _ _ _ _ e1]
    simp only [Rv.up, D.up]
    rw [evE_up L b _ _ _ _ e2]
    simp only [Rv.up, D.up]
    split at h <;> cases h
    rename_i hc
    rw [if_pos hc, ints_up]
  | fx, .enum e, σ, T, ds, T', h => by
    rw [evI] at h
    rw [CI.up, evI]
    split at h
    rotate_left
    · cases h
    rename_i x T1 e1
    rw [evE_up L e _ _ _ _ e1]
    simp only
    rw [seqB_up]
    split at h
    · rename_i d e2
      cases h
      rw [e2]
      simp only [Option.map_some, enum_up]
    · cases h
  | fx, .zip a b, σ, T, ds, T', h => by
    rw [evI] at h
    rw [CI.up, evI]
    split at h
    rotate_left
    · cases h
    rename_i x T1 e1
    split at h
    rotate_left
    · cases h
    rename_i y T2 e2
    rw [evE_up L a _ _ _ _ e1]
    simp only
    rw [evE_up L b _ _ _ _ e2]
    simp only
    rw [seqB_up, seqB_up, isT_up, isT_up]
    split at h
    rotate_left
    · cases h
    rename_i xs ys e3 e4
    rw [e3, e4]
    simp only [Option.map_some, List.length_map]
    split at h <;> cases h
    rename_i hc
    rw [if_pos hc, zip_up]
end
end
end Co
end

section
set_option maxHeartbeats 0
set_option Elab.async false
set_option linter.all false
set_option maxRecDepth 100000
/-! Cf4: statements and calls upon each store: what the kernel has run once holds of all stores. -/
namespace Co
open PySem L2
section
variable {S0 : Store} {c c' : Ctx} {fu : Nat}
theorem asg_some {k : Nat} {p : Pat} {d : D} {σ σ' : Env} (h : p.asg d σ = some σ') : p.asg (d.up k) (eUp k σ) = some (eUp k σ') := by rw [asg_up, h]; rfl
theorem set_up {k : Nat} (σ : Env) (i : Nat) (s : Slot) : List.map (Slot.up k) (σ.set i s) = (eUp k σ).set i (s.up k) := by rw [List.map_set]
mutual
theorem fxS_up (L : Lifts S0 c c') : ∀ (s : CS) (σ : Env) (T : Store) (o : Out), fxS fu c s σ T = some o → exS c' (s.up S0.length) (eUp S0.length σ) (lift S0 T) = some (o.up S0)
  | .set i e, σ, T, o, h => by
    rw [fxS] at h
    rw [CS.up, exS]
    split at h
    rotate_left
    · cases h
    rename_i x T1 e1
    rw [evE_up L e _ _ _ _ e1]
    simp only
    rw [asgR_up]
    split at h
    · rename_i σ' e2
      cases h
      rw [e2]
      rfl
    · cases h
  | .setP p e, σ, T, o, h => by
    rw [fxS] at h
    rw [CS.up, exS]
    split at h
    rotate_left
    · cases h
    rename_i x T1 e1
    rw [evE_up L e _ _ _ _ e1]
    simp only
    split at h
    rotate_left
    · cases h
    rename_i d e2
    rw [dup_none e2]
    simp only
    split at h
    · rename_i σ' e3
      cases h
      rw [asg_some e3]
      rfl
    · cases h
  | .par is as, σ, T, o, h => by
    rw [fxS] at h
    rw [CS.up, exS]
    split at h
    rotate_left
    · cases h
    rename_i ds T1 e1
    rw [evA_up L as _ _ _ _ e1]
    simp only
    rw [par_up]
    split at h
    · rename_i σ' e2
      cases h
      rw [e2]
      rfl
    · cases h
  | .put i a e, σ, T, o, h => by
    rw [fxS] at h
    rw [CS.up, exS]
    split at h
    rotate_left
    · cases h
    rename_i x T1 e1
    rw [evE_up L e _ _ _ _ e1]
    simp only
    split at h
    rotate_left
    · cases h
    rename_i d e2
    rw [dup_none e2]
    simp only
    split at h
    rotate_left
    · cases h
    rename_i kd T2 e3
    rw [evE_up L a _ _ _ _ e3]
    simp only [Rv.up]
    rw [env_get]
    split at h
    · rename_i ds e4
      rw [e4]
      simp only [Option.map_some, Slot.up]
      split at h
      rotate_left
      · cases h
      rename_i j
      simp only [D.up, List.length_map]
      split at h
      · rename_i jj e5
        cases h
        try rw [e5]
        simp only [Out.up]
        rw [set_up, Slot.up, List.map_set]
      · cases h
    · rename_i n e4
      rw [e4]
      simp only [Option.map_some, Slot.up, D.up]
      rw [lift_get, keyD_up]
      split at h
      rotate_left
      · cases h
      rename_i kvs key e5 e6
      rw [e5, e6]
      simp only [Option.map_some, Ob.up, List.length_map]
      split at h <;> cases h
      rename_i hz
      rw [if_pos hz, put_up]
      simp only [Out.up]
      rw [lift_set]
      rfl
    · cases h
  | .fset ob f e, σ, T, o, h => by
    rw [fxS] at h
    rw [CS.up, exS]
    split at h
    rotate_left
    · cases h
    rename_i x T1 e1
    rw [evE_up L e _ _ _ _ e1]
    simp only
    split at h
    rotate_left
    · cases h
    rename_i d e2
    rw [dup_none e2]
    simp only
    split at h
    rotate_left
    · cases h
    rename_i n T2 e3
    rw [evE_up L ob _ _ _ _ e3]
    simp only [Rv.up, D.up]
    rw [lift_get]
    split at h
    rotate_left
    · cases h
    rename_i kc fs e4
    rw [e4]
    simp only [Option.map_some, Ob.up, List.length_map]
    split at h <;> cases h
    rename_i hz
    rw [if_pos hz, setF_up]
    simp only [Out.up]
    rw [lift_set]
    rfl
  | .aug i op e, σ, T, o, h => by
    rw [fxS] at h
    rw [CS.up, exS, env_get]
    split at h
    rotate_left
    · cases h
    rename_i a e1
    rw [e1]
    simp only [Option.map_some, Slot.up, D.up]
    split at h
    rotate_left
    · cases h
    rename_i b T1 e2
    rw [evE_up L e _ _ _ _ e2]
    simp only [rvi_up]
    cases op <;> cases h <;> (simp only [Out.up]; rw [set_up]; rfl)
  | .drop e, σ, T, o, h => by
    rw [fxS] at h
    rw [CS.up, exS]
    split at h
    · rename_i x T1 e1
      cases h
      rw [evE_up L e _ _ _ _ e1]
      rfl
    · cases h
  | .app i e, σ, T, o, h => by
    rw [fxS] at h
    rw [CS.up, exS]
    split at h
    rotate_left
    · cases h
    rename_i x T1 e1
    rw [evE_up L e _ _ _ _ e1]
    simp only
    rw [ownAt_up]
    split at h
    rotate_left
    · cases h
    rename_i d ds e2 e3
    rw [dup_none e2, e3]
    simp only [Option.map_some, List.length_map]
    split at h <;> cases h
    rename_i hz
    rw [if_pos hz]
    simp only [Out.up]
    rw [set_up]
    simp [Slot.up]
  | .ext i e, σ, T, o, h => by
    rw [fxS] at h
    rw [CS.up, exS]
    split at h
    rotate_left
    · cases h
    rename_i x T1 e1
    rw [evE_up L e _ _ _ _ e1]
    simp only
    rw [ownAt_up, tseq_up]
    split at h
    rotate_left
    · cases h
    rename_i xs ds e2 e3
    rw [e2, e3]
    simp only [Option.map_some, List.length_map]
    split at h <;> cases h
    rename_i hz
    rw [if_pos hz]
    simp only [Out.up]
    rw [set_up]
    simp [Slot.up]
  | .pop p i, σ, T, o, h => by
    rw [fxS] at h
    rw [CS.up, exS, ownAt_up]
    split at h
    rotate_left
    · cases h
    rename_i ds e1
    rw [e1]
    simp only [Option.map_some]
    split at h
    rotate_left
    · cases h
    rename_i d e2
    rw [List.getLast?_map, e2]
    simp only [Option.map_some]
    have : (eUp S0.length σ).set i (.own (ds.map (D.up S0.length)).dropLast) = eUp S0.length (σ.set i (.own ds.dropLast)) := by
      rw [← env_set, Slot.up, List.map_dropLast]
    rw [this]
    split at h
    · rename_i σ' e3
      cases h
      rw [asg_some e3]
      rfl
    · cases h
  | .ifs t a b, σ, T, o, h => by
    rw [fxS] at h
    rw [CS.up, exS]
    split at h
    · rename_i T1 e1
      rw [evT_up L t _ _ _ _ e1]
      exact fxB_up L a _ _ _ h
    · rename_i T1 e1
      rw [evT_up L t _ _ _ _ e1]
      exact fxB_up L b _ _ _ h
    · cases h
  | .whl t b, σ, T, o, h => by
    rw [fxS] at h
    rw [CS.up, exS]
    exact whD_fuel (whF_up (fun σ T z T' e => evT_up L t σ T z T' e) (fun σ T o e => fxB_up L b σ T o e) fu σ T o h)
  | .for p it b, σ, T, o, h => by
    rw [fxS] at h
    rw [CS.up, exS]
    split at h
    rotate_left
    · cases h
    rename_i ds T1 e1
    rw [evI_up L true it _ _ _ _ e1]
    simp only
    refine forGo_up (fun d σ T o e => ?_) ds σ T1 o h
    split at e
    · rename_i σ' e2
      rw [asg_some e2]
      exact fxB_up L b σ' T o e
    · cases e
  | .ret e, σ, T, o, h => by
    rw [fxS] at h
    rw [CS.up, exS]
    split at h
    rotate_left
    · cases h
    rename_i x T1 e1
    rw [evE_up L e _ _ _ _ e1]
    simp only
    split at h
    · rename_i d e2
      cases h
      rw [dup_none e2]
      rfl
    · cases h
  | .retN, σ, T, o, h => by rw [fxS] at h; rw [CS.up, exS]; cases h; rfl
  | .pass, σ, T, o, h => by rw [fxS] at h; rw [CS.up, exS]; cases h; rfl
  | .brk, σ, T, o, h => by rw [fxS] at h; rw [CS.up, exS]; cases h; rfl
  | .cont, σ, T, o, h => by rw [fxS] at h; rw [CS.up, exS]; cases h; rfl
  | .never, σ, T, o, h => by rw [fxS] at h; cases h
theorem fxB_up (L : Lifts S0 c c') : ∀ (b : CB) (σ : Env) (T : Store) (o : Out), fxB fu c b σ T = some o → exB c' (b.up S0.length) (eUp S0.length σ) (lift S0 T) = some (o.up S0)
  | .nil, σ, T, o, h => by rw [fxB] at h; rw [CB.up, exB]; cases h; rfl
  | .cons fz s r, σ, T, o, h => by
    rw [fxB] at h
    rw [CB.up, exB, frz_up]
    split at h
    · rename_i σ' T1 e1
      rw [fxS_up L s _ _ _ e1]
      exact fxB_up L r _ _ _ h
    · rename_i o' hn e1
      cases h
      rw [fxS_up L s _ _ _ e1]
      cases o with
      | nx σ' T1 => exact (hn σ' T1 rfl).elim
      | ret d T1 => rfl
      | brk σ' T1 => rfl
      | ct σ' T1 => rfl
    · cases h
end
/-- no object is named in the text -/
structure Prg.Pure (P : Prg) : Prop where
  fns : ∀ (k : Nat), ∀ F ∈ P.fns, F.body.up k = F.body
  globs : ∀ (k : Nat), ∀ d ∈ P.globs, d.up k = d
theorem callF_up {P : Prg} (hP : P.Pure) : ∀ (n i : Nat) (ds : List D) (T : Store) (d : D) (T' : Store), callF fu P n i ds T = some (d, T') → callN P n i (ds.map (D.up S0.length)) (lift S0 T) = some (d.up S0.length, lift S0 T')
  | 0, i, ds, T, d, T', h => by simp [callF] at h
  | n + 1, i, ds, T, d, T', h => by
    rw [callF] at h
    rw [callN]
    split at h
    rotate_left
    · cases h
    rename_i F eF
    try rw [eF]
    try simp only
    rw [List.length_map]
    split at h
    rotate_left
    · cases h
    rename_i hl
    rw [if_pos hl]
    have L : Lifts S0 ⟨callF fu P n, P.globs, P.inits, P.eqs⟩ ⟨callN P n, P.globs, P.inits, P.eqs⟩ := ⟨fun i ds T d T' e => callF_up hP n i ds T d T' e, rfl, hP.globs _, rfl, rfl⟩
    have hs : (ds.map (D.up S0.length)).map Slot.val ++ List.replicate (F.ns - F.np) Slot.non = eUp S0.length (ds.map Slot.val ++ List.replicate (F.ns - F.np) Slot.non) := by
      simp [eUp, Slot.up]
    rw [hs]
    have hb := hP.fns S0.length F (List.mem_of_getElem? eF)
    split at h
    · rename_i σ T1 e1
      cases h
      have q := fxB_up L F.body _ _ _ e1
      rw [hb] at q
      rw [q]
      rfl
    · rename_i d' T1 e1
      cases h
      have q := fxB_up L F.body _ _ _ e1
      rw [hb] at q
      rw [q]
      rfl
    · cases h
/-- run once, upon no store: so upon each -/
theorem run_up {P : Prg} (hP : P.Pure) {n i : Nat} {ds : List D} {d : D} {T : Store} (h : callF fu P n i ds [] = some (d, T)) (hd : ∀ k, ds.map (D.up k) = ds) (S : Store) : callN P n i ds S = some (d.up S.length, S ++ T.map (Ob.up S.length)) := by
  have q := callF_up (S0 := S) hP n i ds [] d T h
  rw [hd] at q
  have e : lift S [] = S := by simp [lift]
  rw [e] at q
  exact q
end
end Co
end

section
set_option maxHeartbeats 0
set_option Elab.async false
set_option linter.all false
set_option maxRecDepth 100000
/-! Cf5: the operators once more, ints first: the kernel runs these faster. -/
namespace Co
open PySem L2
def intD (d : D) : Option Int := match d with | .int i => some i | _ => none
def asInt (x : Rv) : Option Int := match x with | .fz d => intD d | _ => none
theorem asInt_some {x : Rv} {i : Int} (h : asInt x = some i) : x = .fz (.int i) := by
  cases x with
  | fz d => cases d <;> simp [asInt, intD] at h; rw [h]
  | fr ds => cases h
  | rd ds => cases h
def smallZ (i : Int) : Bool := Nat.ble (Int.natAbs i) 18446744073709551615
theorem smallZ_ok {i : Int} (h : smallZ i = true) : Builtin.Int.intBits i ≤ 64 := by
  have := Nat.le_of_ble_eq_true h
  exact intBits_le_64 (by omega) (by omega)
def binIK (op : Bop) (i j : Int) : Option Int := match op with
  | .add => some (i + j)
  | .sub => some (i - j)
  | .mul => match smallZ i with
    | true => some (i * j)
    | false => binI .mul i j
  | op => binI op i j
theorem binIK_eq (op : Bop) (i j : Int) : binIK op i j = binI op i j := by
  cases op <;> first | rfl | skip
  show (match smallZ i with | true => some (i * j) | false => binI .mul i j) = _
  cases h : smallZ i with
  | false => rfl
  | true =>
    simp only [binI]
    rw [if_pos (.of_left (smallZ_ok h))]
def binK (op : Bop) (x y : Rv) : Option Rv := match asInt x with
  | some i => match asInt y with
    | some j => match binIK op i j with
      | some z => some (.fz (.int z))
      | none => none
    | none => binR op x y
  | none => binR op x y
theorem binK_eq : binK = binR := by
  funext op x y
  unfold binK
  split
  · rename_i i hi
    split
    · rename_i j hj
      rw [asInt_some hi, asInt_some hj, binIK_eq]
      simp only [binR]
      cases binI op i j <;> rfl
    · rfl
  · rfl
def eqZ (i j : Int) : Bool := match i with
  | .ofNat a => match j with | .ofNat b => Nat.beq a b | .negSucc _ => false
  | .negSucc a => match j with | .ofNat _ => false | .negSucc b => Nat.beq a b
theorem eqZ_eq (i j : Int) : eqZ i j = decide (i = j) := by
  have hb : ∀ a b : Nat, Nat.beq a b = decide (a = b) := fun a b => by
    by_cases h : a = b
    · rw [decide_eq_true h, h]; exact Nat.beq_refl b
    · rw [decide_eq_false h]
      cases e : Nat.beq a b with
      | false => rfl
      | true => exact absurd (Nat.eq_of_beq_eq_true e) h
  cases i with
  | ofNat a => cases j with
    | ofNat b => show Nat.beq a b = _; rw [hb]; congr 1; exact propext ⟨fun h => by rw [h], fun h => by injection h⟩
    | negSucc b => exact (decide_eq_false (by intro h; cases h)).symm
  | negSucc a => cases j with
    | ofNat b => exact (decide_eq_false (by intro h; cases h)).symm
    | negSucc b => show Nat.beq a b = _; rw [hb]; congr 1; exact propext ⟨fun h => by rw [h], fun h => by injection h⟩
def ltZ (i j : Int) : Bool := match j - i with
  | .ofNat n => Nat.ble 1 n
  | .negSucc _ => false
theorem ltZ_eq (i j : Int) : ltZ i j = decide (i < j) := by
  unfold ltZ
  cases h : j - i with
  | ofNat n =>
    have h : j - i = (n : Int) := h
    by_cases hn : 1 ≤ n
    · have e : Nat.ble 1 n = true := Nat.ble_eq_true_of_le hn
      show Nat.ble 1 n = _
      rw [e]; exact (decide_eq_true (by omega)).symm
    · have : n = 0 := by omega
      subst this
      exact (decide_eq_false (by omega)).symm
  | negSucc n =>
    have h : j - i = Int.negSucc n := h
    exact (decide_eq_false (by omega)).symm
theorem eqD_int (a b : Int) : eqD (.int a) (.int b) = some (decide (a = b)) := by
  unfold eqD
  simp only [D.py]
  have h1 : ∀ z : Int, SeqAt.shaped (.int z) = true := fun z => rfl
  rw [if_pos ⟨h1 a, h1 b⟩]
  rfl
def cmpQ (E : List (Option Nat)) (S : Store) (op : Cop) (x y : Rv) : Option Bool := match asInt x with
  | some i => match asInt y with
    | some j => match op with
      | .eq => some (eqZ i j)
      | .ne => some (!(eqZ i j))
      | .lt => some (ltZ i j)
      | .gt => some (ltZ j i)
      | .le => some (!(ltZ j i))
      | .ge => some (!(ltZ i j))
      | _ => cmpS E S op x y
    | none => cmpS E S op x y
  | none => cmpS E S op x y
theorem cmpQ_eq : cmpQ = cmpS := by
  funext E S op x y
  unfold cmpQ
  split
  · rename_i i hi
    split
    · rename_i j hj
      rw [asInt_some hi, asInt_some hj]
      cases op <;> simp only [cmpS, neIns, cmpR, Rv.tree, eqD_int, eqZ_eq, ltZ_eq, Bool.false_eq_true, if_false, Option.map_some]
      · congr 1; by_cases h : j < i <;> simp [h] <;> omega
      · congr 1; by_cases h : i < j <;> simp [h] <;> omega
    · rfl
  · rfl
def cmpRK (op : Cop) (x y : Rv) : Option Bool := match asInt x with
  | some i => match asInt y with
    | some j => match op with
      | .eq => some (eqZ i j)
      | .ne => some (!(eqZ i j))
      | .lt => some (ltZ i j)
      | .gt => some (ltZ j i)
      | .le => some (!(ltZ j i))
      | .ge => some (!(ltZ i j))
      | _ => cmpR op x y
    | none => cmpR op x y
  | none => cmpR op x y
theorem cmpRK_eq : cmpRK = cmpR := by
  funext op x y
  unfold cmpRK
  split
  · rename_i i hi
    split
    · rename_i j hj
      rw [asInt_some hi, asInt_some hj]
      cases op <;> simp only [cmpR, Rv.tree, eqD_int, eqZ_eq, ltZ_eq, Option.map_some]
      · congr 1; by_cases h : j < i <;> simp [h] <;> omega
      · congr 1; by_cases h : i < j <;> simp [h] <;> omega
    · rfl
  · rfl
def atK (ds : List D) (i : Int) : Option D := match i with
  | .ofNat n => ds[n]?
  | .negSucc n => atI ds (.negSucc n)
theorem atK_eq (ds : List D) (i : Int) : atK ds i = atI ds i := by
  cases i with
  | negSucc n => rfl
  | ofNat n =>
    show ds[n]? = atI ds (n : Int)
    unfold atI ixN
    rw [if_pos (by omega)]
    by_cases h : n < ds.length
    · rw [if_pos (by omega)]; simp
    · rw [if_neg (by omega)]; simp; omega
def idxK (S : Store) (x y : Rv) : Option D := match asInt y with
  | some i => match x.seq with
    | some ds => atK ds i
    | none => idxR S x y
  | none => idxR S x y
theorem idxK_eq : idxK = idxR := by
  funext S x y
  unfold idxK
  split
  · rename_i i hi
    rw [asInt_some hi]
    split
    · rename_i ds hd
      rw [atK_eq]
      cases x with
      | fz d => cases d <;> simp [Rv.seq] at hd <;> subst hd <;> rfl
      | fr es => simp [Rv.seq] at hd; subst hd; rfl
      | rd es => simp [Rv.seq] at hd; subst hd; rfl
    · rfl
  · rfl
def truK (x : Rv) : Option Bool := match x with
  | .fz d => match d with
    | .bl b => some b
    | _ => truR x
  | _ => truR x
theorem truK_eq : truK = truR := by
  funext x
  cases x with
  | fz d => cases d <;> rfl
  | fr ds => rfl
  | rd ds => rfl
def tyI (t : Ty) : Bool := match t with | .int => true | _ => false
def tysI : List Ty → Bool
  | [] => false
  | t :: ts => tyI t || tysI ts
def isTysK (S : Store) (x : Rv) (ts : List Ty) : Option Bool := match asInt x with
  | some _ => some (tysI ts)
  | none => isTys S x ts
theorem isTysK_eq : isTysK = isTys := by
  funext S x ts
  unfold isTysK
  split
  · rename_i i hi
    rw [asInt_some hi]
    induction ts with
    | nil => rfl
    | cons t ts ih =>
      rw [isTys, ← ih]
      have : isTy S (.fz (.int i)) t = some (tyI t) := by cases t <;> rfl
      rw [this]
      rfl
  · rfl
end Co
end

section
set_option maxHeartbeats 0
set_option Elab.async false
set_option linter.all false
set_option maxRecDepth 100000
/-! Cg: the same evaluator once more, by the recursors alone: the kernel runs it faster. -/
namespace Co
open PySem L2
abbrev EF := Env → Store → Option (Rv × Store)
abbrev TF := Env → Store → Option (Bool × Store)
abbrev AF := Env → Store → Option (List D × Store)
abbrev IF := Bool → Env → Store → Option (List D × Store)
abbrev SF := Env → Store → Option Out
abbrev CallF := Nat → List D → Store → Option (D × Store)
def rConst (d : D) : EF := fun _ S => some (.fz d, S)
def rVar (i : Nat) : EF := fun σ S => match σ[i]? with
  | some (.val d) => some (.fz d, S)
  | some (.own ds) => some (.rd ds, S)
  | _ => none
def rGlob (gs : List D) (i : Nat) : EF := fun _ S => match gs[i]? with | some d => some (.fz d, S) | none => none
def rBin (op : Bop) (ra rb : EF) : EF := fun σ S => match ra σ S with
  | some (x, S1) => match rb σ S1 with
    | some (y, S2) => match binK op x y with | some z => some (z, S2) | none => none
    | none => none
  | none => none
def rNeg (ra : EF) : EF := fun σ S => match ra σ S with
  | some (.fz (.int i), S1) => some (.fz (.int (-i)), S1)
  | _ => none
def rCmp (E : List (Option Nat)) (op : Cop) (ra rb : EF) : EF := fun σ S => match ra σ S with
  | some (x, S1) => match rb σ S1 with
    | some (y, S2) => match cmpQ E S2 op x y with | some z => some (.fz (.bl z), S2) | none => none
    | none => none
  | none => none
def rCmpO (call : CallF) (E : List (Option Nat)) (op : Cop) (ra rb : EF) : EF := fun σ S => match ra σ S with
  | some (x, S1) => match rb σ S1 with
    | some (y, S2) => match ownEq E S2 x with
      | some (k, j) => match x, y, isTy S2 y (.own k) with
        | .fz dx, .fz dy, some _ => match call j [dx, dy] S2 with
          | some (.bl z, S3) => match op with
            | .eq => some (.fz (.bl z), S3)
            | .ne => some (.fz (.bl (!z)), S3)
            | _ => none
          | _ => none
        | _, _, _ => none
      | none => match cmpS E S2 op x y with | some z => some (.fz (.bl z), S2) | none => none
    | none => none
  | none => none
def rChain (op op' : Cop) (ra rb rd : EF) : EF := fun σ S => match ra σ S with
  | some (x, S1) => match rb σ S1 with
    | some (y, S2) => match cmpRK op x y with
      | some true => match rd σ S2 with
        | some (z, S3) => match cmpRK op' y z with | some r => some (.fz (.bl r), S3) | none => none
        | none => none
      | some false => some (.fz (.bl false), S2)
      | none => none
    | none => none
  | none => none
def rAndV (ra rb : EF) : EF := fun σ S => match ra σ S with
  | some (.fz (.bl true), S1) => rb σ S1
  | some (.fz (.bl false), S1) => some (.fz (.bl false), S1)
  | _ => none
def rOrV (ra rb : EF) : EF := fun σ S => match ra σ S with
  | some (.fz (.bl false), S1) => rb σ S1
  | some (.fz (.bl true), S1) => some (.fz (.bl true), S1)
  | _ => none
def rNotV (ra : EF) : EF := fun σ S => match ra σ S with
  | some (.fz (.bl b), S1) => some (.fz (.bl (!b)), S1)
  | _ => none
def rIte (rt : TF) (ra rb : EF) : EF := fun σ S => match rt σ S with
  | some (true, S1) => ra σ S1
  | some (false, S1) => rb σ S1
  | none => none
def rTup (ras : AF) : EF := fun σ S => match ras σ S with
  | some (ds, S1) => if ds.length ≤ sizeLine then some (.fz (.tup ds), S1) else none
  | none => none
def rLst (ras : AF) : EF := fun σ S => match ras σ S with
  | some (ds, S1) => if ds.length ≤ sizeLine then some (.fr ds, S1) else none
  | none => none
def rIdx (ra rb : EF) : EF := fun σ S => match ra σ S with
  | some (x, S1) => match rb σ S1 with
    | some (y, S2) => match idxK S2 x y with | some d => some (.fz d, S2) | none => none
    | none => none
  | none => none
def rSl2 (ra rl rh : EF) : EF := fun σ S => match ra σ S with
  | some (x, S1) => match rl σ S1 with
    | some (.fz (.int l), S2) => match rh σ S2 with
      | some (.fz (.int h), S3) => match slR x (some l) (some h) with | some r => some (r, S3) | none => none
      | _ => none
    | _ => none
  | none => none
def rSlL (ra rl : EF) : EF := fun σ S => match ra σ S with
  | some (x, S1) => match rl σ S1 with
    | some (.fz (.int l), S2) => match slR x (some l) none with | some r => some (r, S2) | none => none
    | _ => none
  | none => none
def rSlH (ra rh : EF) : EF := fun σ S => match ra σ S with
  | some (x, S1) => match rh σ S1 with
    | some (.fz (.int h), S2) => match slR x none (some h) with | some r => some (r, S2) | none => none
    | _ => none
  | none => none
def rRev (ra : EF) : EF := fun σ S => match ra σ S with
  | some (x, S1) => match revR x with | some r => some (r, S1) | none => none
  | none => none
def rBi (f : Bi) (ra : EF) : EF := fun σ S => match ra σ S with
  | some (x, S1) => match biR f S1 x with | some r => some (r, S1) | none => none
  | none => none
def rBi2 (f : Bi2) (ra rb : EF) : EF := fun σ S => match ra σ S with
  | some (x, S1) => match rb σ S1 with
    | some (y, S2) => match bi2R f x y with | some d => some (.fz d, S2) | none => none
    | none => none
  | none => none
def rIsi (ra : EF) (ts : List Ty) : EF := fun σ S => match ra σ S with
  | some (x, S1) => match isTysK S1 x ts with | some b => some (.fz (.bl b), S1) | none => none
  | none => none
def rCall (call : CallF) (f : Nat) (ras : AF) : EF := fun σ S => match ras σ S with
  | some (ds, S1) => match call f ds S1 with | some (d, S2) => some (.fz d, S2) | none => none
  | none => none
def rMk (call : CallF) (inits : List (Option Nat)) (k : Nat) (ras : AF) : EF := fun σ S => match ras σ S with
  | some (ds, S1) => match inits[k]? with
    | some none => if ds = [] then some (.fz (.obj S1.length), S1 ++ [.ins k []]) else none
    | some (some f) => match call f (.obj S1.length :: ds) (S1 ++ [.ins k []]) with
      | some (.non, S2) => some (.fz (.obj S1.length), S2)
      | _ => none
    | none => none
  | none => none
def rAttr (ra : EF) (f : Str) : EF := fun σ S => match ra σ S with
  | some (.fz (.obj n), S1) => match S1[n]? with
    | some (.ins _ fs) => match fs.lookup f with | some d => some (.fz d, S1) | none => none
    | _ => none
  | _ => none
def rLc (p : Pat) (vs : List Nat) (ri : IF) (rt : TF) (re : EF) : EF := fun σ S => match ri false σ S with
  | some (ds, S1) => match lcGo (fun d S => match p.asg d (wipeE σ vs) with
      | some σ' => match rt σ' S with
        | some (true, S2) => match re σ' S2 with
          | some (r, S3) => match r.d with | some x => some (some x, S3) | none => none
          | none => none
        | some (false, S2) => some (none, S2)
        | none => none
      | none => none) ds [] S1 with
    | some (r, S2) => some (.fr r, S2)
    | none => none
  | none => none
def rDct (ks : List Key) (ras : AF) : EF := fun σ S => match ras σ S with
  | some (ds, S1) => if ds.length = ks.length ∧ ks.length ≤ 15 ∧ ks.Nodup then some (.fz (.obj S1.length), S1 ++ [.dk (ks.zip ds)]) else none
  | none => none
def rTr (re : EF) : TF := fun σ S => match re σ S with
  | some (x, S1) => match truK x with | some b => some (b, S1) | none => none
  | none => none
def rAnd (rt ru : TF) : TF := fun σ S => match rt σ S with
  | some (true, S1) => ru σ S1
  | some (false, S1) => some (false, S1)
  | none => none
def rOr (rt ru : TF) : TF := fun σ S => match rt σ S with
  | some (false, S1) => ru σ S1
  | some (true, S1) => some (true, S1)
  | none => none
def rNot (rt : TF) : TF := fun σ S => match rt σ S with
  | some (b, S1) => some (!b, S1)
  | none => none
def rYes : TF := fun _ S => some (true, S)
def rNil : AF := fun _ S => some ([], S)
def rCons (re : EF) (ras : AF) : AF := fun σ S => match re σ S with
  | some (x, S1) => match x.d with
    | some d => match ras σ S1 with
      | some (ds, S2) => some (d :: ds, S2)
      | none => none
    | none => none
  | none => none
def rSeq (re : EF) : IF := fun fx σ S => match re σ S with
  | some (x, S1) => match x.seqB fx with | some ds => some (ds, S1) | none => none
  | none => none
def rRng1 (ra : EF) : IF := fun fx σ S => match ra σ S with
  | some (.fz (.int j), S1) => if -(2 ^ 62) ≤ j ∧ j < 2 ^ 62 then some ((List.range j.toNat).map fun k : Nat => D.int (k : Int), S1) else none
  | _ => none
def rRng2 (ra rb : EF) : IF := fun fx σ S => match ra σ S with
  | some (.fz (.int i), S1) => match rb σ S1 with
    | some (.fz (.int j), S2) => if (-(2 ^ 62) ≤ i ∧ i < 2 ^ 62) ∧ -(2 ^ 62) ≤ j ∧ j < 2 ^ 62 then some ((List.range (j - i).toNat).map fun k : Nat => D.int (i + (k : Int)), S2) else none
    | _ => none
  | _ => none
def rEnum (re : EF) : IF := fun fx σ S => match re σ S with
  | some (x, S1) => match x.seqB fx with | some ds => some (ds.mapIdx fun (k : Nat) d => D.tup [.int (k : Int), d], S1) | none => none
  | none => none
def rZip (ra rb : EF) : IF := fun fx σ S => match ra σ S with
  | some (x, S1) => match rb σ S1 with
    | some (y, S2) => match x.seqB fx, y.seqB fx with
      | some xs, some ys => if xs.length = ys.length ∧ x.isT = y.isT then some (List.zipWith (fun u v => .tup [u, v]) xs ys, S2) else none
      | _, _ => none
    | none => none
  | none => none
noncomputable def evR (c : Ctx) (e : CE) : EF := CE.rec (motive_1 := fun _ => EF) (motive_2 := fun _ => TF) (motive_3 := fun _ => AF) (motive_4 := fun _ => IF)
  (fun d => rConst d) (fun i => rVar i) (fun i => rGlob c.globs i) (fun op _ _ ra rb => rBin op ra rb) (fun _ ra => rNeg ra) (fun op _ _ ra rb => rCmp c.eqs op ra rb) (fun op _ _ ra rb => rCmpO c.call c.eqs op ra rb)
  (fun op op' _ _ _ ra rb rd => rChain op op' ra rb rd) (fun _ _ ra rb => rAndV ra rb) (fun _ _ ra rb => rOrV ra rb) (fun _ ra => rNotV ra) (fun _ _ _ rt ra rb => rIte rt ra rb) (fun _ ras => rTup ras) (fun _ ras => rLst ras)
  (fun _ _ ra rb => rIdx ra rb) (fun _ _ _ ra rl rh => rSl2 ra rl rh) (fun _ _ ra rl => rSlL ra rl) (fun _ _ ra rh => rSlH ra rh) (fun _ ra => rRev ra) (fun f _ ra => rBi f ra) (fun f _ _ ra rb => rBi2 f ra rb)
  (fun _ ts ra => rIsi ra ts) (fun f _ ras => rCall c.call f ras) (fun k _ ras => rMk c.call c.inits k ras) (fun _ f ra => rAttr ra f) (fun p vs _ _ _ ri rt re => rLc p vs ri rt re) (fun ks _ ras => rDct ks ras)
  (fun _ re => rTr re) (fun _ _ rt ru => rAnd rt ru) (fun _ _ rt ru => rOr rt ru) (fun _ rt => rNot rt) rYes rNil (fun _ _ re ras => rCons re ras)
  (fun _ re => rSeq re) (fun _ ra => rRng1 ra) (fun _ _ ra rb => rRng2 ra rb) (fun _ re => rEnum re) (fun _ _ ra rb => rZip ra rb) e
noncomputable def evTR (c : Ctx) (e : CT) : TF := CT.rec (motive_1 := fun _ => EF) (motive_2 := fun _ => TF) (motive_3 := fun _ => AF) (motive_4 := fun _ => IF)
  (fun d => rConst d) (fun i => rVar i) (fun i => rGlob c.globs i) (fun op _ _ ra rb => rBin op ra rb) (fun _ ra => rNeg ra) (fun op _ _ ra rb => rCmp c.eqs op ra rb) (fun op _ _ ra rb => rCmpO c.call c.eqs op ra rb)
  (fun op op' _ _ _ ra rb rd => rChain op op' ra rb rd) (fun _ _ ra rb => rAndV ra rb) (fun _ _ ra rb => rOrV ra rb) (fun _ ra => rNotV ra) (fun _ _ _ rt ra rb => rIte rt ra rb) (fun _ ras => rTup ras) (fun _ ras => rLst ras)
  (fun _ _ ra rb => rIdx ra rb) (fun _ _ _ ra rl rh => rSl2 ra rl rh) (fun _ _ ra rl => rSlL ra rl) (fun _ _ ra rh => rSlH ra rh) (fun _ ra => rRev ra) (fun f _ ra => rBi f ra) (fun f _ _ ra rb => rBi2 f ra rb)
  (fun _ ts ra => rIsi ra ts) (fun f _ ras => rCall c.call f ras) (fun k _ ras => rMk c.call c.inits k ras) (fun _ f ra => rAttr ra f) (fun p vs _ _ _ ri rt re => rLc p vs ri rt re) (fun ks _ ras => rDct ks ras)
  (fun _ re => rTr re) (fun _ _ rt ru => rAnd rt ru) (fun _ _ rt ru => rOr rt ru) (fun _ rt => rNot rt) rYes rNil (fun _ _ re ras => rCons re ras)
  (fun _ re => rSeq re) (fun _ ra => rRng1 ra) (fun _ _ ra rb => rRng2 ra rb) (fun _ re => rEnum re) (fun _ _ ra rb => rZip ra rb) e
noncomputable def evAR (c : Ctx) (e : CA) : AF := CA.rec (motive_1 := fun _ => EF) (motive_2 := fun _ => TF) (motive_3 := fun _ => AF) (motive_4 := fun _ => IF)
  (fun d => rConst d) (fun i => rVar i) (fun i => rGlob c.globs i) (fun op _ _ ra rb => rBin op ra rb) (fun _ ra => rNeg ra) (fun op _ _ ra rb => rCmp c.eqs op ra rb) (fun op _ _ ra rb => rCmpO c.call c.eqs op ra rb)
  (fun op op' _ _ _ ra rb rd => rChain op op' ra rb rd) (fun _ _ ra rb => rAndV ra rb) (fun _ _ ra rb => rOrV ra rb) (fun _ ra => rNotV ra) (fun _ _ _ rt ra rb => rIte rt ra rb) (fun _ ras => rTup ras) (fun _ ras => rLst ras)
  (fun _ _ ra rb => rIdx ra rb) (fun _ _ _ ra rl rh => rSl2 ra rl rh) (fun _ _ ra rl => rSlL ra rl) (fun _ _ ra rh => rSlH ra rh) (fun _ ra => rRev ra) (fun f _ ra => rBi f ra) (fun f _ _ ra rb => rBi2 f ra rb)
  (fun _ ts ra => rIsi ra ts) (fun f _ ras => rCall c.call f ras) (fun k _ ras => rMk c.call c.inits k ras) (fun _ f ra => rAttr ra f) (fun p vs _ _ _ ri rt re => rLc p vs ri rt re) (fun ks _ ras => rDct ks ras)
  (fun _ re => rTr re) (fun _ _ rt ru => rAnd rt ru) (fun _ _ rt ru => rOr rt ru) (fun _ rt => rNot rt) rYes rNil (fun _ _ re ras => rCons re ras)
  (fun _ re => rSeq re) (fun _ ra => rRng1 ra) (fun _ _ ra rb => rRng2 ra rb) (fun _ re => rEnum re) (fun _ _ ra rb => rZip ra rb) e
noncomputable def evIR (c : Ctx) (e : CI) : IF := CI.rec (motive_1 := fun _ => EF) (motive_2 := fun _ => TF) (motive_3 := fun _ => AF) (motive_4 := fun _ => IF)
  (fun d => rConst d) (fun i => rVar i) (fun i => rGlob c.globs i) (fun op _ _ ra rb => rBin op ra rb) (fun _ ra => rNeg ra) (fun op _ _ ra rb => rCmp c.eqs op ra rb) (fun op _ _ ra rb => rCmpO c.call c.eqs op ra rb)
  (fun op op' _ _ _ ra rb rd => rChain op op' ra rb rd) (fun _ _ ra rb => rAndV ra rb) (fun _ _ ra rb => rOrV ra rb) (fun _ ra => rNotV ra) (fun _ _ _ rt ra rb => rIte rt ra rb) (fun _ ras => rTup ras) (fun _ ras => rLst ras)
  (fun _ _ ra rb => rIdx ra rb) (fun _ _ _ ra rl rh => rSl2 ra rl rh) (fun _ _ ra rl => rSlL ra rl) (fun _ _ ra rh => rSlH ra rh) (fun _ ra => rRev ra) (fun f _ ra => rBi f ra) (fun f _ _ ra rb => rBi2 f ra rb)
  (fun _ ts ra => rIsi ra ts) (fun f _ ras => rCall c.call f ras) (fun k _ ras => rMk c.call c.inits k ras) (fun _ f ra => rAttr ra f) (fun p vs _ _ _ ri rt re => rLc p vs ri rt re) (fun ks _ ras => rDct ks ras)
  (fun _ re => rTr re) (fun _ _ rt ru => rAnd rt ru) (fun _ _ rt ru => rOr rt ru) (fun _ rt => rNot rt) rYes rNil (fun _ _ re ras => rCons re ras)
  (fun _ re => rSeq re) (fun _ ra => rRng1 ra) (fun _ _ ra rb => rRng2 ra rb) (fun _ re => rEnum re) (fun _ _ ra rb => rZip ra rb) e
section
variable (c : Ctx)
theorem two_eq {α : Type} {f g : Env → Store → α} (h : ∀ σ S, f σ S = g σ S) : f = g := funext fun σ => funext fun S => h σ S
mutual
theorem evR_eq : ∀ e : CE, evR c e = evE c e
  | .const _ => two_eq fun σ S => by rw [evE]; rfl
  | .var _ => two_eq fun σ S => by rw [evE]; rfl
  | .glob _ => two_eq fun σ S => by rw [evE]; rfl
  | .bin op a b => two_eq fun σ S => by show rBin op (evR c a) (evR c b) σ S = _; rw [evR_eq a, evR_eq b, evE]; unfold rBin; rw [binK_eq] <;> rfl
  | .neg a => two_eq fun σ S => by show rNeg (evR c a) σ S = _; rw [evR_eq a, evE]; rfl
  | .cmp op a b => two_eq fun σ S => by show rCmp c.eqs op (evR c a) (evR c b) σ S = _; rw [evR_eq a, evR_eq b, evE]; unfold rCmp; rw [cmpQ_eq] <;> rfl
  | .cmpO op a b => two_eq fun σ S => by show rCmpO c.call c.eqs op (evR c a) (evR c b) σ S = _; rw [evR_eq a, evR_eq b, evE]; rfl
  | .chain op op' a b d => two_eq fun σ S => by show rChain op op' (evR c a) (evR c b) (evR c d) σ S = _; rw [evR_eq a, evR_eq b, evR_eq d, evE]; unfold rChain; rw [cmpRK_eq] <;> rfl
  | .andV a b => two_eq fun σ S => by show rAndV (evR c a) (evR c b) σ S = _; rw [evR_eq a, evR_eq b, evE]; rfl
  | .orV a b => two_eq fun σ S => by show rOrV (evR c a) (evR c b) σ S = _; rw [evR_eq a, evR_eq b, evE]; rfl
  | .notV a => two_eq fun σ S => by show rNotV (evR c a) σ S = _; rw [evR_eq a, evE]; rfl
  | .ite t a b => two_eq fun σ S => by show rIte (evTR c t) (evR c a) (evR c b) σ S = _; rw [evTR_eq t, evR_eq a, evR_eq b, evE]; rfl
  | .tup as => two_eq fun σ S => by show rTup (evAR c as) σ S = _; rw [evAR_eq as, evE]; rfl
  | .lst as => two_eq fun σ S => by show rLst (evAR c as) σ S = _; rw [evAR_eq as, evE]; rfl
  | .idx a b => two_eq fun σ S => by show rIdx (evR c a) (evR c b) σ S = _; rw [evR_eq a, evR_eq b, evE]; unfold rIdx; rw [idxK_eq] <;> rfl
  | .sl2 a l h => two_eq fun σ S => by show rSl2 (evR c a) (evR c l) (evR c h) σ S = _; rw [evR_eq a, evR_eq l, evR_eq h, evE]; rfl
  | .slL a l => two_eq fun σ S => by show rSlL (evR c a) (evR c l) σ S = _; rw [evR_eq a, evR_eq l, evE]; rfl
  | .slH a h => two_eq fun σ S => by show rSlH (evR c a) (evR c h) σ S = _; rw [evR_eq a, evR_eq h, evE]; rfl
  | .rev a => two_eq fun σ S => by show rRev (evR c a) σ S = _; rw [evR_eq a, evE]; rfl
  | .bi f a => two_eq fun σ S => by show rBi f (evR c a) σ S = _; rw [evR_eq a, evE]; rfl
  | .bi2 f a b => two_eq fun σ S => by show rBi2 f (evR c a) (evR c b) σ S = _; rw [evR_eq a, evR_eq b, evE]; rfl
  | .isi a ts => two_eq fun σ S => by show rIsi (evR c a) ts σ S = _; rw [evR_eq a, evE]; unfold rIsi; rw [isTysK_eq] <;> rfl
  | .call f as => two_eq fun σ S => by show rCall c.call f (evAR c as) σ S = _; rw [evAR_eq as, evE]; rfl
  | .mk k as => two_eq fun σ S => by show rMk c.call c.inits k (evAR c as) σ S = _; rw [evAR_eq as, evE]; rfl
  | .attr a f => two_eq fun σ S => by show rAttr (evR c a) f σ S = _; rw [evR_eq a, evE]; rfl
  | .lc p vs it t e => two_eq fun σ S => by show rLc p vs (evIR c it) (evTR c t) (evR c e) σ S = _; rw [evIR_eq it, evTR_eq t, evR_eq e, evE]; rfl
  | .dct ks as => two_eq fun σ S => by show rDct ks (evAR c as) σ S = _; rw [evAR_eq as, evE]; rfl
theorem evTR_eq : ∀ e : CT, evTR c e = evT c e
  | .tr e => two_eq fun σ S => by show rTr (evR c e) σ S = _; rw [evR_eq e, evT]; unfold rTr; rw [truK_eq] <;> rfl
  | .and t u => two_eq fun σ S => by show rAnd (evTR c t) (evTR c u) σ S = _; rw [evTR_eq t, evTR_eq u, evT]; rfl
  | .or t u => two_eq fun σ S => by show rOr (evTR c t) (evTR c u) σ S = _; rw [evTR_eq t, evTR_eq u, evT]; rfl
  | .not t => two_eq fun σ S => by show rNot (evTR c t) σ S = _; rw [evTR_eq t, evT]; rfl
  | .yes => two_eq fun σ S => by rw [evT]; rfl
theorem evAR_eq : ∀ e : CA, evAR c e = evA c e
  | .nil => two_eq fun σ S => by rw [evA]; rfl
  | .cons e as => two_eq fun σ S => by show rCons (evR c e) (evAR c as) σ S = _; rw [evR_eq e, evAR_eq as, evA]; rfl
theorem evIR_eq : ∀ e : CI, evIR c e = fun fx => evI c fx e
  | .seq e => funext fun fx => two_eq fun σ S => by show rSeq (evR c e) fx σ S = _; rw [evR_eq e, evI]; rfl
  | .rng1 a => funext fun fx => two_eq fun σ S => by show rRng1 (evR c a) fx σ S = _; rw [evR_eq a, evI]; rfl
  | .rng2 a b => funext fun fx => two_eq fun σ S => by show rRng2 (evR c a) (evR c b) fx σ S = _; rw [evR_eq a, evR_eq b, evI]; rfl
  | .enum e => funext fun fx => two_eq fun σ S => by show rEnum (evR c e) fx σ S = _; rw [evR_eq e, evI]; rfl
  | .zip a b => funext fun fx => two_eq fun σ S => by show rZip (evR c a) (evR c b) fx σ S = _; rw [evR_eq a, evR_eq b, evI]; rfl
end
end
/-! ### statements -/
def gSet (i : Nat) (re : EF) : SF := fun σ S => match re σ S with
  | some (x, S1) => match asgR i x σ with | some σ' => some (.nx σ' S1) | none => none
  | none => none
def gSetP (p : Pat) (re : EF) : SF := fun σ S => match re σ S with
  | some (x, S1) => match x.d with
    | some d => match p.asg d σ with | some σ' => some (.nx σ' S1) | none => none
    | none => none
  | none => none
def gPar (is : List Nat) (ras : AF) : SF := fun σ S => match ras σ S with
  | some (ds, S1) => match parGo is ds σ with | some σ' => some (.nx σ' S1) | none => none
  | none => none
def gPut (i : Nat) (ra re : EF) : SF := fun σ S => match re σ S with
  | some (x, S1) => match x.d with
    | some d => match ra σ S1 with
      | some (.fz k, S2) => match σ[i]? with
        | some (.own ds) => match k with
          | .int k => match ixN ds.length k with
            | some j => some (.nx (σ.set i (.own (ds.set j d))) S2)
            | none => none
          | _ => none
        | some (.val (.obj n)) => match S2[n]?, keyD k with
          | some (.dk kvs), some key => if kvs.length < sizeLine then some (.nx σ (S2.set n (.dk (putD kvs key d)))) else none
          | _, _ => none
        | _ => none
      | _ => none
    | none => none
  | none => none
def gFset (ro : EF) (f : Str) (re : EF) : SF := fun σ S => match re σ S with
  | some (x, S1) => match x.d with
    | some d => match ro σ S1 with
      | some (.fz (.obj n), S2) => match S2[n]? with
        | some (.ins k fs) => if fs.length < 1000 then some (.nx σ (S2.set n (.ins k (setF f d fs)))) else none
        | _ => none
      | _ => none
    | none => none
  | none => none
def gAug (i : Nat) (op : Bop) (re : EF) : SF := fun σ S => match σ[i]? with
  | some (.val (.int a)) => match re σ S with
    | some (.fz (.int b), S1) => match op with
      | .add => some (.nx (σ.set i (.val (.int (a + b)))) S1)
      | .sub => some (.nx (σ.set i (.val (.int (a - b)))) S1)
      | _ => none
    | _ => none
  | _ => none
def gDrop (re : EF) : SF := fun σ S => match re σ S with
  | some (_, S1) => some (.nx σ S1)
  | none => none
def gApp (i : Nat) (re : EF) : SF := fun σ S => match re σ S with
  | some (x, S1) => match x.d, ownAt σ i with
    | some d, some ds => if ds.length < sizeLine then some (.nx (σ.set i (.own (ds ++ [d]))) S1) else none
    | _, _ => none
  | none => none
def gExt (i : Nat) (re : EF) : SF := fun σ S => match re σ S with
  | some (x, S1) => match x.tseq, ownAt σ i with
    | some xs, some ds => if ds.length + xs.length ≤ sizeLine then some (.nx (σ.set i (.own (ds ++ xs))) S1) else none
    | _, _ => none
  | none => none
def gPop (p : Pat) (i : Nat) : SF := fun σ S => match ownAt σ i with
  | some ds => match ds.getLast? with
    | some d => match p.asg d (σ.set i (.own ds.dropLast)) with | some σ' => some (.nx σ' S) | none => none
    | none => none
  | none => none
def gIfs (rt : TF) (ra rb : SF) : SF := fun σ S => match rt σ S with
  | some (true, S1) => ra σ S1
  | some (false, S1) => rb σ S1
  | none => none
def gFor (p : Pat) (ri : IF) (rb : SF) : SF := fun σ S => match ri true σ S with
  | some (ds, S1) => forGo (fun d σ S => match p.asg d σ with | some σ' => rb σ' S | none => none) ds σ S1
  | none => none
def gRet (re : EF) : SF := fun σ S => match re σ S with
  | some (x, S1) => match x.d with | some d => some (.ret d S1) | none => none
  | none => none
def gCons (fz : List Nat) (rs rr : SF) : SF := fun σ S => match rs (frz fz σ) S with
  | some (.nx σ' S') => rr σ' S'
  | some o => some o
  | none => none
noncomputable def gxS (fu : Nat) (c : Ctx) (s : CS) : SF := CS.rec (motive_1 := fun _ => SF) (motive_2 := fun _ => SF)
  (fun i e => gSet i (evR c e)) (fun p e => gSetP p (evR c e)) (fun is as => gPar is (evAR c as)) (fun i a e => gPut i (evR c a) (evR c e)) (fun o f e => gFset (evR c o) f (evR c e)) (fun i op e => gAug i op (evR c e)) (fun e => gDrop (evR c e))
  (fun i e => gApp i (evR c e)) (fun i e => gExt i (evR c e)) (fun p i => gPop p i) (fun t _ _ ra rb => gIfs (evTR c t) ra rb) (fun t _ rb => whF (evTR c t) rb fu) (fun p it _ rb => gFor p (evIR c it) rb) (fun e => gRet (evR c e))
  (fun _ S => some (.ret .non S)) (fun σ S => some (.nx σ S)) (fun σ S => some (.brk σ S)) (fun σ S => some (.ct σ S)) (fun _ _ => none)
  (fun σ S => some (.nx σ S)) (fun fz _ _ rs rr => gCons fz rs rr) s
noncomputable def gxB (fu : Nat) (c : Ctx) (s : CB) : SF := CB.rec (motive_1 := fun _ => SF) (motive_2 := fun _ => SF)
  (fun i e => gSet i (evR c e)) (fun p e => gSetP p (evR c e)) (fun is as => gPar is (evAR c as)) (fun i a e => gPut i (evR c a) (evR c e)) (fun o f e => gFset (evR c o) f (evR c e)) (fun i op e => gAug i op (evR c e)) (fun e => gDrop (evR c e))
  (fun i e => gApp i (evR c e)) (fun i e => gExt i (evR c e)) (fun p i => gPop p i) (fun t _ _ ra rb => gIfs (evTR c t) ra rb) (fun t _ rb => whF (evTR c t) rb fu) (fun p it _ rb => gFor p (evIR c it) rb) (fun e => gRet (evR c e))
  (fun _ S => some (.ret .non S)) (fun σ S => some (.nx σ S)) (fun σ S => some (.brk σ S)) (fun σ S => some (.ct σ S)) (fun _ _ => none)
  (fun σ S => some (.nx σ S)) (fun fz _ _ rs rr => gCons fz rs rr) s
section
variable (fu : Nat) (c : Ctx)
mutual
theorem gxS_eq : ∀ s : CS, gxS fu c s = fxS fu c s
  | .set i e => two_eq fun σ S => by show gSet i (evR c e) σ S = _; rw [evR_eq, fxS]; rfl
  | .setP p e => two_eq fun σ S => by show gSetP p (evR c e) σ S = _; rw [evR_eq, fxS]; rfl
  | .par is as => two_eq fun σ S => by show gPar is (evAR c as) σ S = _; rw [evAR_eq, fxS]; rfl
  | .put i a e => two_eq fun σ S => by show gPut i (evR c a) (evR c e) σ S = _; rw [evR_eq, evR_eq, fxS]; rfl
  | .fset o f e => two_eq fun σ S => by show gFset (evR c o) f (evR c e) σ S = _; rw [evR_eq, evR_eq, fxS]; rfl
  | .aug i op e => two_eq fun σ S => by show gAug i op (evR c e) σ S = _; rw [evR_eq, fxS]; rfl
  | .drop e => two_eq fun σ S => by show gDrop (evR c e) σ S = _; rw [evR_eq, fxS]; rfl
  | .app i e => two_eq fun σ S => by show gApp i (evR c e) σ S = _; rw [evR_eq, fxS]; rfl
  | .ext i e => two_eq fun σ S => by show gExt i (evR c e) σ S = _; rw [evR_eq, fxS]; rfl
  | .pop p i => two_eq fun σ S => by rw [fxS]; rfl
  | .ifs t a b => two_eq fun σ S => by show gIfs (evTR c t) (gxB fu c a) (gxB fu c b) σ S = _; rw [evTR_eq, gxB_eq a, gxB_eq b, fxS]; rfl
  | .whl t b => two_eq fun σ S => by show whF (evTR c t) (gxB fu c b) fu σ S = _; rw [evTR_eq, gxB_eq b, fxS]
  | .for p it b => two_eq fun σ S => by show gFor p (evIR c it) (gxB fu c b) σ S = _; rw [evIR_eq, gxB_eq b, fxS]; rfl
  | .ret e => two_eq fun σ S => by show gRet (evR c e) σ S = _; rw [evR_eq, fxS]; rfl
  | .retN => two_eq fun σ S => by rw [fxS]; rfl
  | .pass => two_eq fun σ S => by rw [fxS]; rfl
  | .brk => two_eq fun σ S => by rw [fxS]; rfl
  | .cont => two_eq fun σ S => by rw [fxS]; rfl
  | .never => two_eq fun σ S => by rw [fxS]; rfl
theorem gxB_eq : ∀ b : CB, gxB fu c b = fxB fu c b
  | .nil => two_eq fun σ S => by rw [fxB]; rfl
  | .cons fz s r => two_eq fun σ S => by show gCons fz (gxS fu c s) (gxB fu c r) σ S = _; rw [gxS_eq s, gxB_eq r, fxB]; rfl
end
end
def gCall (fns : List Fd) (run : CB → SF) : CallF := fun f ds S => match fns[f]? with
  | some F => if ds.length = F.np then
      match run F.body (ds.map .val ++ List.replicate (F.ns - F.np) .non) S with
      | some (.nx _ S') => some (.non, S')
      | some (.ret d S') => some (d, S')
      | _ => none
    else none
  | none => none
noncomputable def callG (fu : Nat) (P : Prg) (n : Nat) : CallF := Nat.rec (motive := fun _ => CallF) (fun _ _ _ => none) (fun _ ih => gCall P.fns (gxB fu ⟨ih, P.globs, P.inits, P.eqs⟩)) n
theorem callG_eq (fu : Nat) (P : Prg) : ∀ n, callG fu P n = callF fu P n
  | 0 => funext fun f => funext fun ds => funext fun S => by rw [callF]; rfl
  | n + 1 => funext fun f => funext fun ds => funext fun S => by
    show gCall P.fns (gxB fu ⟨callG fu P n, P.globs, P.inits, P.eqs⟩) f ds S = _
    rw [callG_eq fu P n, callF]
    unfold gCall
    split
    · rename_i F e
      rw [gxB_eq] <;> (simp only [e] <;> rfl)
    · rename_i e
      simp only [e]
theorem run_upG {P : Prg} (hP : P.Pure) {fu n i : Nat} {ds : List D} {d : D} {T : Store} (h : callG fu P n i ds [] = some (d, T)) (hd : ∀ k, ds.map (D.up k) = ds) (S : Store) : callN P n i ds S = some (d.up S.length, S ++ T.map (Ob.up S.length)) :=
  run_up hP (by rw [← callG_eq]; exact h) hd S
end Co
end

section
set_option maxHeartbeats 0
set_option Elab.async false
set_option linter.all false
set_option maxRecDepth 100000
/-! K56m1: steps; the pen, picks, small polynomials drawn (as in k53). -/
namespace K56
open PySem L2 Co
noncomputable def C (n : Nat) : Co.Ctx := ⟨callN L.prg n, L.globs, L.inits, L.eqs⟩
theorem call_ret {n i : Nat} {d : DefD} {ds : List D} {S S' : Store} {r : D} (hd : L.defs[i]? = some d) (hl : ds.length = d.np) (h : exB (C n) d.body (ds.map Slot.val ++ List.replicate (d.N.length - d.np) Slot.non) S = some (.ret r S')) : callN L.prg (n + 1) i ds S = some (r, S') := by
  have hf : L.prg.fns[i]? = some ⟨d.np, d.N.length, d.body⟩ := by simp [Lw.prg, hd]
  simp only [callN, hf, if_pos hl]
  have h : exB ⟨callN L.prg n, L.prg.globs, L.prg.inits, L.prg.eqs⟩ d.body (ds.map Slot.val ++ List.replicate (d.N.length - d.np) Slot.non) S = some (.ret r S') := h
  rw [h]
theorem call_non {n i : Nat} {d : DefD} {ds : List D} {S S' : Store} {σ : Co.Env} (hd : L.defs[i]? = some d) (hl : ds.length = d.np) (h : exB (C n) d.body (ds.map Slot.val ++ List.replicate (d.N.length - d.np) Slot.non) S = some (.nx σ S')) : callN L.prg (n + 1) i ds S = some (.non, S') := by
  have hf : L.prg.fns[i]? = some ⟨d.np, d.N.length, d.body⟩ := by simp [Lw.prg, hd]
  simp only [callN, hf, if_pos hl]
  have h : exB ⟨callN L.prg n, L.prg.globs, L.prg.inits, L.prg.eqs⟩ d.body (ds.map Slot.val ++ List.replicate (d.N.length - d.np) Slot.non) S = some (.nx σ S') := h
  rw [h]
theorem cC {n i : Nat} {ds : List D} {S : Store} : (C n).call i ds S = callN L.prg n i ds S := rfl
@[simp] theorem cC' {n i : Nat} {ds : List D} {S : Store} : (C n).call i ds S = callN L.prg n i ds S := rfl
@[simp] theorem cG {n : Nat} : (C n).globs = L.globs := rfl
@[simp] theorem cI {n : Nat} : (C n).inits = L.inits := rfl
abbrev Ip (p : List Int) : D := .tup (p.map D.int)
noncomputable abbrev loopF (n : Nat) (p : Pat) (b : CB) : D → Co.Env → Store → Option Out := fun d σ S => match p.asg d σ with | some σ' => exB (C n) b σ' S | none => none
theorem st_nx {c : Co.Ctx} {fz : List Nat} {s : CS} {r : CB} {σ σ1 σ' : Co.Env} {S S' : Store} (hf : frz fz σ = σ1) (h : exS c s σ1 S = some (.nx σ' S')) : exB c (.cons fz s r) σ S = exB c r σ' S' := by simp only [exB, hf, h]
theorem st_ret {c : Co.Ctx} {fz : List Nat} {s : CS} {r : CB} {σ σ1 : Co.Env} {S S' : Store} {d : D} (hf : frz fz σ = σ1) (h : exS c s σ1 S = some (.ret d S')) : exB c (.cons fz s r) σ S = some (.ret d S') := by simp only [exB, hf, h]
theorem ev_call1 {c : Co.Ctx} {i : Nat} {e : CE} {σ : Co.Env} {S S1 S2 : Store} {x : Rv} {d r : D} (h1 : evE c e σ S = some (x, S1)) (hd : x.d = some d) (h2 : c.call i [d] S1 = some (r, S2)) : evE c (.call i (.cons e .nil)) σ S = some (.fz r, S2) := by
  simp only [evE, evA, h1, hd, h2]
theorem ev_call2 {c : Co.Ctx} {i : Nat} {e e' : CE} {σ : Co.Env} {S S1 S2 S3 : Store} {x x' : Rv} {d d' r : D} (h1 : evE c e σ S = some (x, S1)) (hd : x.d = some d) (h2 : evE c e' σ S1 = some (x', S2)) (hd' : x'.d = some d') (h3 : c.call i [d, d'] S2 = some (r, S3)) :
    evE c (.call i (.cons e (.cons e' .nil))) σ S = some (.fz r, S3) := by
  simp only [evE, evA, h1, hd, h2, hd', h3]
theorem ev_call3 {c : Co.Ctx} {i : Nat} {e e' e2 : CE} {σ : Co.Env} {S S1 S2 S3 S4 : Store} {x x' x2 : Rv} {d d' d2 r : D} (h1 : evE c e σ S = some (x, S1)) (hd : x.d = some d) (h2 : evE c e' σ S1 = some (x', S2)) (hd' : x'.d = some d') (h3 : evE c e2 σ S2 = some (x2, S3)) (hd2 : x2.d = some d2) (h4 : c.call i [d, d', d2] S3 = some (r, S4)) :
    evE c (.call i (.cons e (.cons e' (.cons e2 .nil)))) σ S = some (.fz r, S4) := by
  simp only [evE, evA, h1, hd, h2, hd', h3, hd2, h4]
theorem ex_ret {c : Co.Ctx} {e : CE} {σ : Co.Env} {S S1 : Store} {x : Rv} {d : D} (h : evE c e σ S = some (x, S1)) (hd : x.d = some d) : exS c (.ret e) σ S = some (.ret d S1) := by simp only [exS, h, hd]
theorem ex_set {c : Co.Ctx} {i : Nat} {e : CE} {σ σ' : Co.Env} {S S1 : Store} {x : Rv} (h : evE c e σ S = some (x, S1)) (ha : asgR i x σ = some σ') : exS c (.set i e) σ S = some (.nx σ' S1) := by simp only [exS, h, ha]
theorem ev_cmp {c : Co.Ctx} {op : Cop} {a b : CE} {σ : Co.Env} {S S1 S2 : Store} {x y : Rv} {z : Bool} (h1 : evE c a σ S = some (x, S1)) (h2 : evE c b σ S1 = some (y, S2)) (hz : cmpS c.eqs S2 op x y = some z) : evE c (.cmp op a b) σ S = some (.fz (.bl z), S2) := by simp only [evE, h1, h2, hz]
theorem ev_tr {c : Co.Ctx} {e : CE} {σ : Co.Env} {S S1 : Store} {x : Rv} {z : Bool} (h : evE c e σ S = some (x, S1)) (hz : truR x = some z) : evT c (.tr e) σ S = some (z, S1) := by simp only [evT, h, hz]
theorem ex_ifT {c : Co.Ctx} {t : CT} {a b : CB} {σ : Co.Env} {S S1 : Store} {o : Option Out} (h : evT c t σ S = some (true, S1)) (k : exB c a σ S1 = o) : exS c (.ifs t a b) σ S = o := by simp only [exS, h]; exact k
theorem ex_ifF {c : Co.Ctx} {t : CT} {a b : CB} {σ : Co.Env} {S S1 : Store} {o : Option Out} (h : evT c t σ S = some (false, S1)) (k : exB c b σ S1 = o) : exS c (.ifs t a b) σ S = o := by simp only [exS, h]; exact k
theorem ev_v {c : Co.Ctx} {i : Nat} {σ : Co.Env} {S : Store} {d : D} (h : σ[i]? = some (.val d)) : evE c (.var i) σ S = some (.fz d, S) := by simp only [evE, h]
theorem for_of {n : Nat} {p : Pat} {it : CI} {b : CB} {σ : Co.Env} {S S1 : Store} {ds : List D} {o : Out} (h1 : evI (C n) true it σ S = some (ds, S1)) (h2 : forGo (loopF n p b) ds σ S1 = some o) : exS (C n) (.for p it b) σ S = some o := by
  simp only [exS, h1]; exact h2
theorem for_pure {α : Type} {n : Nat} {p : Pat} {b : CB} {S : Store} {g : α → Co.Env → Prop} {stp : D → α → α} (ok : D → Prop) (h : ∀ d s σ, ok d → g s σ → ∃ σ', loopF n p b d σ S = some (.nx σ' S) ∧ g (stp d s) σ') : ∀ (ds : List D) (s : α) (σ : Co.Env), (∀ d ∈ ds, ok d) → g s σ → ∃ σ', forGo (loopF n p b) ds σ S = some (.nx σ' S) ∧ g (ds.foldl (fun s d => stp d s) s) σ'
  | [], s, σ, _, h0 => ⟨σ, rfl, h0⟩
  | d :: ds, s, σ, hk, h0 => by
    obtain ⟨σ1, e1, g1⟩ := h d s σ (hk d (by simp)) h0
    obtain ⟨σ2, e2, g2⟩ := for_pure ok h ds (stp d s) σ1 (fun d' h' => hk d' (by simp [h'])) g1
    exact ⟨σ2, by simp only [forGo, e1]; exact e2, g2⟩
def dInt : D → Int
  | .int i => i | _ => 0
theorem eqI (a b : Int) : eqD (.int a) (.int b) = some (decide (a = b)) := by
  unfold eqD
  simp only [D.py]
  have h1 : ∀ z : Int, SeqAt.shaped (.int z) = true := fun z => rfl
  rw [if_pos ⟨h1 a, h1 b⟩]
  show some (PyData.eqv (.int a) (.int b)) = _
  rfl
theorem getI_map {p : List Int} {m : Nat} (h : m < p.length) : atI (p.map D.int) (m : Int) = some (.int p[m]) := by
  unfold atI
  have e : ixN (p.map D.int).length (m : Int) = some m := by
    unfold ixN
    rw [List.length_map]
    simp [h]
  rw [e]
  simp [h]
theorem lc_pure {f : D → Store → Option (Option D × Store)} {S : Store} {gg : D → D} : ∀ (ds acc : List D), (∀ d ∈ ds, f d S = some (some (gg d), S)) → acc.length + ds.length ≤ sizeLine → lcGo f ds acc S = some (acc ++ ds.map gg, S)
  | [], acc, _, _ => by simp [lcGo]
  | d :: ds, acc, h, hz => by
    have hz' : acc.length < sizeLine := by have : (d :: ds).length = ds.length + 1 := rfl; omega
    rw [lcGo, h d (by simp)]
    simp only [if_pos hz']
    rw [lc_pure ds _ (fun d' h' => h d' (by simp [h'])) (by simp; simp at hz; omega)]
    simp
theorem sz100 {k : Nat} (h : k ≤ 1000) : k ≤ sizeLine := Nat.le_trans h (by decide)
def pn (cs : List Int) (a g c f : Int) : List (Key × D) := [(.inr "cells", .lst (cs.map D.int)), (.inr "at", .int a), (.inr "digits", .int g), (.inr "count", .int c), (.inr "fold", .int f)]
abbrev St (cs : List Int) (a g c f : Int) (R : Store) : Store := .dk (pn cs a g c f) :: R
section
variable {cs : List Int} {a g c f v : Int} {R : Store} {cx : Co.Ctx} {σ : Co.Env}
theorem k1 : ¬ (("cells" : Str) = "at") := by decide +kernel
theorem k2 : ¬ (("cells" : Str) = "digits") := by decide +kernel
theorem k3 : ¬ (("cells" : Str) = "count") := by decide +kernel
theorem k4 : ¬ (("cells" : Str) = "fold") := by decide +kernel
theorem k5 : ¬ (("at" : Str) = "digits") := by decide +kernel
theorem k6 : ¬ (("at" : Str) = "count") := by decide +kernel
theorem k7 : ¬ (("at" : Str) = "fold") := by decide +kernel
theorem k8 : ¬ (("digits" : Str) = "count") := by decide +kernel
theorem k9 : ¬ (("digits" : Str) = "fold") := by decide +kernel
theorem k10 : ¬ (("count" : Str) = "fold") := by decide +kernel
theorem l1 : lookD (pn cs a g c f) (.inr "cells") = some (.lst (cs.map D.int)) := by simp [lookD, pn]
theorem l2 : lookD (pn cs a g c f) (.inr "at") = some (.int a) := by simp [lookD, pn, k1]
theorem l3 : lookD (pn cs a g c f) (.inr "digits") = some (.int g) := by simp [lookD, pn, k2, k5]
theorem l4 : lookD (pn cs a g c f) (.inr "count") = some (.int c) := by simp [lookD, pn, k3, k6, k8]
theorem l5 : lookD (pn cs a g c f) (.inr "fold") = some (.int f) := by simp [lookD, pn, k4, k7, k9, k10]
theorem p2 : putD (pn cs a g c f) (.inr "at") (.int v) = pn cs v g c f := by
  simp [putD, pn, k1, Ne.symm k5, Ne.symm k6, Ne.symm k7]
theorem p3 : putD (pn cs a g c f) (.inr "digits") (.int v) = pn cs a v c f := by
  simp [putD, pn, k2, k5, Ne.symm k8, Ne.symm k9]
theorem p4 : putD (pn cs a g c f) (.inr "count") (.int v) = pn cs a g v f := by
  simp [putD, pn, k3, k6, k8, Ne.symm k10]
theorem p5 : putD (pn cs a g c f) (.inr "fold") (.int v) = pn cs a g c v := by
  simp [putD, pn, k4, k7, k9, k10]
theorem get_ev {k : Str} {d : D} (hσ : σ[0]? = some (.val (.obj 0))) (h : lookD (pn cs a g c f) (.inr k) = some d) : evE cx (.idx (.var 0) (.const (.str k))) σ (St cs a g c f R) = some (.fz d, St cs a g c f R) := by
  simp only [evE, hσ, idxR, List.getElem?_cons_zero, keyD, h]
theorem put_ev {k : Str} {e : CE} {kvs : List (Key × D)} (hσ : σ[0]? = some (.val (.obj 0))) (he : evE cx e σ (St cs a g c f R) = some (.fz (.int v), St cs a g c f R)) (h : putD (pn cs a g c f) (.inr k) (.int v) = kvs) : exS cx (.put 0 (.const (.str k)) e) σ (St cs a g c f R) = some (.nx σ (.dk kvs :: R)) := by
  have hz : (pn cs a g c f).length < sizeLine := Nat.lt_of_lt_of_le (show 5 < 1000 by decide) (by decide)
  simp only [exS, he, Rv.d, evE, hσ, List.getElem?_cons_zero, keyD, if_pos hz, h, List.set_cons_zero]
theorem bin_i {op : Bop} {e1 e2 : CE} {S S1 S2 : Store} {i j k : Int} (h1 : evE cx e1 σ S = some (.fz (.int i), S1)) (h2 : evE cx e2 σ S1 = some (.fz (.int j), S2)) (h : binI op i j = some k) : evE cx (.bin op e1 e2) σ S = some (.fz (.int k), S2) := by
  simp only [evE, h1, h2, binR, h, Option.map_some]
theorem int_i {e : CE} {S S1 : Store} {i : Int} (h : evE cx e σ S = some (.fz (.int i), S1)) : evE cx (.bi .int e) σ S = some (.fz (.int i), S1) := by simp only [evE, h, biR]
theorem c_i {i : Int} {S : Store} : evE cx (.const (.int i)) σ S = some (.fz (.int i), S) := rfl
theorem mulR {i j : Int} (h : Builtin.Int.intBits j ≤ 64) : binI .mul i j = some (i * j) := by simp only [binI]; rw [if_pos (.of_right h)]
theorem mulL {i j : Int} (h : Builtin.Int.intBits i ≤ 64) : binI .mul i j = some (i * j) := by simp only [binI]; rw [if_pos (.of_left h)]
theorem modI {i j : Int} (h : j ≠ 0) : binI .mod i j = some (i.fmod j) := by simp only [binI]; rw [if_pos h]
theorem cmp_i {op : Cop} {e1 e2 : CE} {S S1 S2 : Store} {i j : Int} {z : Bool} (h1 : evE cx e1 σ S = some (.fz (.int i), S1)) (h2 : evE cx e2 σ S1 = some (.fz (.int j), S2)) (h : cmpR op (.fz (.int i)) (.fz (.int j)) = some z) : evE cx (.cmp op e1 e2) σ S = some (.fz (.bl z), S2) := by
  refine ev_cmp h1 h2 ?_
  have : neIns cx.eqs S2 op (.fz (.int i)) (.fz (.int j)) = false := by cases op <;> rfl
  unfold cmpS
  rw [this, if_neg Bool.false_ne_true, h]
abbrev tailB : CB := .cons [] (.ifs (.tr (.cmp .gt (.idx (.var 0) (.const (.str "digits"))) (.const (.int (0))))) (.cons [] (.set 3 (.bin .mod (.bi .int (.idx (.var 0) (.const (.str "digits")))) (.var 1))) (.cons [] (.put 0 (.const (.str "digits")) (.bin .fdiv (.idx (.var 0) (.const (.str "digits"))) (.var 1))) (.cons [3] (.ret (.var 3)) .nil))) .nil) (.cons [] (.set 4 (.bin .mod (.bi .int (.bin .add (.bin .add (.bin .mul (.idx (.var 0) (.const (.str "fold"))) (.const (.int (48271)))) (.bin .mul (.idx (.var 0) (.const (.str "count"))) (.const (.int (7919))))) (.const (.int (13))))) (.const (.int (2147483647))))) (.cons [] (.set 4 (.bin .mod (.bi .int (.bin .add (.bin .add (.bin .mul (.var 4) (.var 4)) (.bin .mul (.const (.int (31))) (.var 4))) (.idx (.var 0) (.const (.str "count"))))) (.const (.int (2147483629))))) (.cons [] (.put 0 (.const (.str "fold")) (.bin .mod (.bi .int (.bin .add (.bin .mul (.var 4) (.const (.int (16807)))) (.const (.int (7))))) (.const (.int (2147483647))))) (.cons [] (.ret (.bin .mod (.bi .int (.bin .fdiv (.var 4) (.const (.int (64))))) (.var 1))) .nil))))
theorem bits_mod {i : Int} : Builtin.Int.intBits (i.fmod 2147483647) ≤ 64 := by
  have h1 := Int.fmod_nonneg_of_pos i (b := 2147483647) (by decide)
  have h2 := Int.fmod_lt_of_pos i (b := 2147483647) (by decide)
  exact intBits_le_64 (by omega) (by omega)
theorem dr_tail {n : Nat} {m : Int} {o2 : Co.Slot} (hg : 0 ≤ g) (hm : 0 < m) (hlog : m.natAbs.log2 < 9000) :
    ∃ r g' f', exB (C n) tailB [.val (.obj 0), .val (.int m), o2, .non, .non] (St cs a g c f R) = some (.ret (.int r) (St cs a g' c f' R)) ∧ 0 ≤ r ∧ r < m ∧ 0 ≤ g' := by
  have hm0 : m ≠ 0 := by omega
  have eg : evE (C n) (.idx (.var 0) (.const (.str "digits"))) [.val (.obj 0), .val (.int m), o2, .non, .non] (St cs a g c f R) = some (.fz (.int g), St cs a g c f R) := get_ev rfl l3
  by_cases h : 0 < g
  · have et : evT (C n) (.tr (.cmp .gt (.idx (.var 0) (.const (.str "digits"))) (.const (.int (0))))) [.val (.obj 0), .val (.int m), o2, .non, .non] (St cs a g c f R) = some (true, St cs a g c f R) := ev_tr (cmp_i eg c_i (z := true) (by simp [cmpR, h])) rfl
    refine ⟨g.fmod m, g.fdiv m, f, ?_, Int.fmod_nonneg_of_pos g hm, Int.fmod_lt_of_pos g hm, Int.fdiv_nonneg hg (by omega)⟩
    have e1 : exS (C n) (.set 3 (.bin .mod (.bi .int (.idx (.var 0) (.const (.str "digits")))) (.var 1))) [.val (.obj 0), .val (.int m), o2, .non, .non] (St cs a g c f R) = some (.nx [.val (.obj 0), .val (.int m), o2, .val (.int (g.fmod m)), .non] (St cs a g c f R)) := ex_set (bin_i (int_i eg) (ev_v rfl) (modI hm0)) rfl
    have eg2 : evE (C n) (.idx (.var 0) (.const (.str "digits"))) [.val (.obj 0), .val (.int m), o2, .val (.int (g.fmod m)), .non] (St cs a g c f R) = some (.fz (.int g), St cs a g c f R) := get_ev rfl l3
    have hd : binI .fdiv g m = some (g.fdiv m) := by simp only [binI]; rw [if_pos ⟨hm0, hlog⟩]
    have e2 := put_ev (k := "digits") (σ := [.val (.obj 0), .val (.int m), o2, .val (.int (g.fmod m)), .non]) rfl (bin_i eg2 (ev_v (i := 1) rfl) hd) p3
    have u3 := st_ret (c := C n) (S := St cs a (g.fdiv m) c f R) (fz := [3]) (r := .nil) (σ := [.val (.obj 0), .val (.int m), o2, .val (.int (g.fmod m)), .non]) rfl (ex_ret (ev_v (i := 3) rfl) rfl)
    have u2 := (st_nx (fz := []) (σ := [.val (.obj 0), .val (.int m), o2, .val (.int (g.fmod m)), .non]) rfl e2).trans u3
    have u1 := (st_nx (fz := []) (σ := [.val (.obj 0), .val (.int m), o2, .non, .non]) rfl e1).trans u2
    exact st_ret (fz := []) (σ := [.val (.obj 0), .val (.int m), o2, .non, .non]) rfl (ex_ifT et u1)
  · have et : evT (C n) (.tr (.cmp .gt (.idx (.var 0) (.const (.str "digits"))) (.const (.int (0))))) [.val (.obj 0), .val (.int m), o2, .non, .non] (St cs a g c f R) = some (false, St cs a g c f R) := ev_tr (cmp_i eg c_i (z := false) (by simp [cmpR]; omega)) rfl
    have ef : ∀ {o4 : Co.Slot}, evE (C n) (.idx (.var 0) (.const (.str "fold"))) [.val (.obj 0), .val (.int m), o2, .non, o4] (St cs a g c f R) = some (.fz (.int f), St cs a g c f R) := get_ev rfl l5
    have ec : ∀ {o4 : Co.Slot}, evE (C n) (.idx (.var 0) (.const (.str "count"))) [.val (.obj 0), .val (.int m), o2, .non, o4] (St cs a g c f R) = some (.fz (.int c), St cs a g c f R) := get_ev rfl l4
    have b1 := bits_mod (i := f * 48271 + c * 7919 + 13)
    have e1 := ex_set (i := 4) (bin_i (int_i (bin_i (bin_i (bin_i (ef (o4 := .non)) c_i (mulR (j := 48271) (by decide +kernel))) (bin_i ec c_i (mulR (j := 7919) (by decide +kernel))) (op := .add) rfl) c_i (op := .add) (j := 13) rfl)) c_i (modI (j := 2147483647) (by decide))) rfl
    generalize (f * 48271 + c * 7919 + 13).fmod 2147483647 = b at b1 e1
    have e2 := ex_set (i := 4) (bin_i (int_i (bin_i (bin_i (bin_i (ev_v (i := 4) (σ := [.val (.obj 0), .val (.int m), o2, .non, .val (.int b)]) (S := St cs a g c f R) (c := C n) rfl) (ev_v (i := 4) rfl) (mulR b1)) (bin_i (c_i (i := 31)) (ev_v (i := 4) rfl) (mulL (by decide +kernel))) (op := .add) rfl) ec (op := .add) rfl)) c_i (modI (j := 2147483629) (by decide))) rfl
    generalize (b * b + 31 * b + c).fmod 2147483629 = z at e2
    have e3 := put_ev (k := "fold") (σ := [.val (.obj 0), .val (.int m), o2, .non, .val (.int z)]) (cx := C n) (cs := cs) (a := a) (g := g) (c := c) (f := f) (R := R) rfl (bin_i (int_i (bin_i (bin_i (ev_v (i := 4) rfl) c_i (mulR (j := 16807) (by decide +kernel))) c_i (op := .add) (j := 7) rfl)) c_i (modI (j := 2147483647) (by decide))) p5
    have hd : binI .fdiv z 64 = some (z.fdiv 64) := by simp only [binI]; rw [if_pos (by decide +kernel)]
    have e4 : evE (C n) (.bin .mod (.bi .int (.bin .fdiv (.var 4) (.const (.int (64))))) (.var 1)) [.val (.obj 0), .val (.int m), o2, .non, .val (.int z)] (St cs a g c ((z * 16807 + 7).fmod 2147483647) R) = _ := bin_i (int_i (bin_i (ev_v (i := 4) rfl) c_i hd)) (ev_v (i := 1) rfl) (modI hm0)
    refine ⟨(z.fdiv 64).fmod m, g, (z * 16807 + 7).fmod 2147483647, ?_, Int.fmod_nonneg_of_pos _ hm, Int.fmod_lt_of_pos _ hm, hg⟩
    have u5 := st_ret (fz := []) (r := .nil) (σ := [.val (.obj 0), .val (.int m), o2, .non, .val (.int z)]) rfl (ex_ret e4 rfl)
    have u4 := (st_nx (fz := []) (σ := [.val (.obj 0), .val (.int m), o2, .non, .val (.int z)]) rfl e3).trans u5
    have u3 := (st_nx (fz := []) (σ := [.val (.obj 0), .val (.int m), o2, .non, .val (.int b)]) rfl e2).trans u4
    have u2 := (st_nx (fz := []) (σ := [.val (.obj 0), .val (.int m), o2, .non, .non]) rfl e1).trans u3
    exact (st_nx (fz := []) (σ := [.val (.obj 0), .val (.int m), o2, .non, .non]) rfl (ex_ifF et rfl)).trans u2
abbrev digB : CB := .cons [] (.put 0 (.const (.str "digits")) (.bin .sub (.var 2) (.bin .pow (.const (.int (10))) (.const (.int (18)))))) .nil
abbrev folB : CB := .cons [] (.put 0 (.const (.str "fold")) (.bin .mod (.bi .int (.bin .add (.bin .mul (.idx (.var 0) (.const (.str "fold"))) (.const (.int (69069)))) (.var 2))) (.const (.int (2147483587))))) .nil
abbrev cellB : CB := .cons [] (.set 2 (.idx (.idx (.var 0) (.const (.str "cells"))) (.idx (.var 0) (.const (.str "at"))))) (.cons [] (.put 0 (.const (.str "at")) (.bin .add (.idx (.var 0) (.const (.str "at"))) (.const (.int (1))))) (.cons [] (.ifs (.tr (.cmp .ge (.var 2) (.bin .pow (.const (.int (10))) (.const (.int (18)))))) (.cons [] (.put 0 (.const (.str "digits")) (.bin .sub (.var 2) (.bin .pow (.const (.int (10))) (.const (.int (18)))))) .nil) (.cons [] (.put 0 (.const (.str "fold")) (.bin .mod (.bi .int (.bin .add (.bin .mul (.idx (.var 0) (.const (.str "fold"))) (.const (.int (69069)))) (.var 2))) (.const (.int (2147483587))))) .nil)) .nil))
theorem dr_cell {n : Nat} {m : Int} (ha : 0 ≤ a) (hl : a < (cs.length : Int)) (hg : 0 ≤ g) : ∃ o2 a' g' f', exB (C n) cellB [.val (.obj 0), .val (.int m), .non, .non, .non] (St cs a g c f R) = some (.nx [.val (.obj 0), .val (.int m), o2, .non, .non] (St cs a' g' c f' R)) ∧ 0 ≤ a' ∧ 0 ≤ g' := by
  obtain ⟨j, rfl⟩ : ∃ j : Nat, a = (j : Int) := ⟨a.toNat, by omega⟩
  have hj : j < cs.length := by omega
  have e1 : exS (C n) (.set 2 (.idx (.idx (.var 0) (.const (.str "cells"))) (.idx (.var 0) (.const (.str "at"))))) [.val (.obj 0), .val (.int m), .non, .non, .non] (St cs j g c f R) = some (.nx [.val (.obj 0), .val (.int m), .val (.int cs[j]), .non, .non] (St cs j g c f R)) := by
    refine ex_set (x := .fz (.int cs[j])) (S1 := St cs j g c f R) ?_ rfl
    have x1 : evE (C n) (.idx (.var 0) (.const (.str "cells"))) [.val (.obj 0), .val (.int m), .non, .non, .non] (St cs j g c f R) = some (.fz (.lst (cs.map D.int)), St cs j g c f R) := get_ev rfl l1
    have x2 : evE (C n) (.idx (.var 0) (.const (.str "at"))) [.val (.obj 0), .val (.int m), .non, .non, .non] (St cs j g c f R) = some (.fz (.int j), St cs j g c f R) := get_ev rfl l2
    rw [evE, x1]
    simp only [x2, idxR, Rv.seq]
    rw [getI_map hj]
  have pw : ∀ {σ : Co.Env} {S : Store}, evE (C n) (.bin .pow (.const (.int (10))) (.const (.int (18)))) σ S = some (.fz (.int (10 ^ 18)), S) := fun {σ S} => bin_i c_i c_i (by simp only [binI]; rw [if_pos (by decide)]; rfl)
  have e2 := put_ev (k := "at") (cx := C n) (σ := [.val (.obj 0), .val (.int m), .val (.int cs[j]), .non, .non]) (cs := cs) (a := j) (g := g) (c := c) (f := f) (R := R) rfl (bin_i (get_ev rfl l2) c_i (op := .add) (j := 1) rfl) p2
  by_cases h : (10 : Int) ^ 18 ≤ cs[j]
  · have et : evT (C n) (.tr (.cmp .ge (.var 2) (.bin .pow (.const (.int (10))) (.const (.int (18)))))) [.val (.obj 0), .val (.int m), .val (.int cs[j]), .non, .non] (St cs (j + 1) g c f R) = some (true, St cs (j + 1) g c f R) := ev_tr (cmp_i (ev_v rfl) pw (z := true) (by simp only [cmpR]; rw [decide_eq_true h])) rfl
    have e3 := put_ev (k := "digits") (cx := C n) (σ := [.val (.obj 0), .val (.int m), .val (.int cs[j]), .non, .non]) (cs := cs) (a := j + 1) (g := g) (c := c) (f := f) (R := R) rfl (bin_i (ev_v (i := 2) rfl) pw (op := .sub) rfl) p3
    have u3 := (st_nx (fz := []) (r := .nil) (σ := [.val (.obj 0), .val (.int m), .val (.int cs[j]), .non, .non]) rfl (ex_ifT (a := digB) (b := folB) et ((st_nx (fz := []) (r := .nil) (σ := [.val (.obj 0), .val (.int m), .val (.int cs[j]), .non, .non]) rfl e3).trans rfl))).trans (show exB (C n) .nil _ _ = some (.nx _ _) from rfl)
    have u2 := (st_nx (fz := []) (σ := [.val (.obj 0), .val (.int m), .val (.int cs[j]), .non, .non]) rfl e2).trans u3
    exact ⟨_, _, _, _, (st_nx (fz := []) (σ := [.val (.obj 0), .val (.int m), .non, .non, .non]) rfl e1).trans u2, by omega, by omega⟩
  · have et : evT (C n) (.tr (.cmp .ge (.var 2) (.bin .pow (.const (.int (10))) (.const (.int (18)))))) [.val (.obj 0), .val (.int m), .val (.int cs[j]), .non, .non] (St cs (j + 1) g c f R) = some (false, St cs (j + 1) g c f R) := ev_tr (cmp_i (ev_v rfl) pw (z := false) (by simp only [cmpR]; rw [decide_eq_false h])) rfl
    have e3 := put_ev (k := "fold") (cx := C n) (σ := [.val (.obj 0), .val (.int m), .val (.int cs[j]), .non, .non]) (cs := cs) (a := j + 1) (g := g) (c := c) (f := f) (R := R) rfl (bin_i (int_i (bin_i (bin_i (get_ev rfl l5) c_i (mulR (j := 69069) (by decide +kernel))) (ev_v (i := 2) rfl) (op := .add) rfl)) c_i (modI (j := 2147483587) (by decide))) p5
    have u3 := (st_nx (fz := []) (r := .nil) (σ := [.val (.obj 0), .val (.int m), .val (.int cs[j]), .non, .non]) rfl (ex_ifF (a := digB) (b := folB) et ((st_nx (fz := []) (r := .nil) (σ := [.val (.obj 0), .val (.int m), .val (.int cs[j]), .non, .non]) rfl e3).trans rfl))).trans (show exB (C n) .nil _ _ = some (.nx _ _) from rfl)
    have u2 := (st_nx (fz := []) (σ := [.val (.obj 0), .val (.int m), .val (.int cs[j]), .non, .non]) rfl e2).trans u3
    exact ⟨_, _, _, _, (st_nx (fz := []) (σ := [.val (.obj 0), .val (.int m), .non, .non, .non]) rfl e1).trans u2, by omega, hg⟩
/-- a draw -/
theorem q34 {n : Nat} {m : Int} (ha : 0 ≤ a) (hg : 0 ≤ g) (hm : 0 < m) (hlog : m.natAbs.log2 < 9000) :
    ∃ r a' g' c' f', callN L.prg (n + 1) 34 [.obj 0, .int m] (St cs a g c f R) = some (.int r, St cs a' g' c' f' R) ∧ 0 ≤ r ∧ r < m ∧ 0 ≤ a' ∧ 0 ≤ g' := by
  have e1 := put_ev (k := "count") (cx := C n) (σ := [.val (.obj 0), .val (.int m), .non, .non, .non]) (cs := cs) (a := a) (g := g) (c := c) (f := f) (R := R) rfl (bin_i (get_ev rfl l4) c_i (op := .add) (j := 1) rfl) p4
  have x3 : evE (C n) (.idx (.var 0) (.const (.str "digits"))) [.val (.obj 0), .val (.int m), .non, .non, .non] (St cs a g (c + 1) f R) = some (.fz (.int g), St cs a g (c + 1) f R) := get_ev rfl l3
  have x2 : evE (C n) (.idx (.var 0) (.const (.str "at"))) [.val (.obj 0), .val (.int m), .non, .non, .non] (St cs a g (c + 1) f R) = some (.fz (.int a), St cs a g (c + 1) f R) := get_ev rfl l2
  have x1 : evE (C n) (.bi .len (.idx (.var 0) (.const (.str "cells")))) [.val (.obj 0), .val (.int m), .non, .non, .non] (St cs a g (c + 1) f R) = some (.fz (.int (cs.length : Int)), St cs a g (c + 1) f R) := by
    have y : evE (C n) (.idx (.var 0) (.const (.str "cells"))) [.val (.obj 0), .val (.int m), .non, .non, .non] (St cs a g (c + 1) f R) = some (.fz (.lst (cs.map D.int)), St cs a g (c + 1) f R) := get_ev rfl l1
    rw [evE, y]
    simp [biR, Rv.seq]
  have fin : ∀ {o2 : Co.Slot} {a' g' f' : Int}, 0 ≤ a' → 0 ≤ g' → exS (C n) (.ifs (.and (.tr (.cmp .eq (.idx (.var 0) (.const (.str "digits"))) (.const (.int (0))))) (.tr (.cmp .lt (.idx (.var 0) (.const (.str "at"))) (.bi .len (.idx (.var 0) (.const (.str "cells"))))))) cellB .nil) [.val (.obj 0), .val (.int m), .non, .non, .non] (St cs a g (c + 1) f R) = some (.nx [.val (.obj 0), .val (.int m), o2, .non, .non] (St cs a' g' (c + 1) f' R)) →
      ∃ r a' g' c' f', callN L.prg (n + 1) 34 [.obj 0, .int m] (St cs a g c f R) = some (.int r, St cs a' g' c' f' R) ∧ 0 ≤ r ∧ r < m ∧ 0 ≤ a' ∧ 0 ≤ g' := by
    intro o2 a' g' f' h1 h2 e2
    obtain ⟨r, g2, f2, e3, k1, k2, k3⟩ := dr_tail (n := n) (cs := cs) (a := a') (g := g') (c := c + 1) (f := f') (R := R) (m := m) (o2 := o2) h2 hm hlog
    have u2 := (st_nx (fz := []) (σ := [.val (.obj 0), .val (.int m), .non, .non, .non]) (r := tailB) rfl e2).trans e3
    have u1 := (st_nx (fz := []) (σ := [.val (.obj 0), .val (.int m), .non, .non, .non]) rfl e1).trans u2
    exact ⟨r, a', g2, c + 1, f2, call_ret (d := d34) rfl rfl u1, k1, k2, h1, k3⟩
  have y1 : evT (C n) (.tr (.cmp .eq (.idx (.var 0) (.const (.str "digits"))) (.const (.int (0))))) [.val (.obj 0), .val (.int m), .non, .non, .non] (St cs a g (c + 1) f R) = some (decide (g = 0), St cs a g (c + 1) f R) := ev_tr (cmp_i x3 c_i (z := decide (g = 0)) (by simp only [cmpR, Rv.tree]; exact eqI g 0)) rfl
  have y2 : evT (C n) (.tr (.cmp .lt (.idx (.var 0) (.const (.str "at"))) (.bi .len (.idx (.var 0) (.const (.str "cells")))))) [.val (.obj 0), .val (.int m), .non, .non, .non] (St cs a g (c + 1) f R) = some (decide (a < (cs.length : Int)), St cs a g (c + 1) f R) := ev_tr (cmp_i x2 x1 (z := decide (a < (cs.length : Int))) rfl) rfl
  by_cases h0 : g = 0
  · by_cases h1 : a < (cs.length : Int)
    · obtain ⟨o2, a', g', f', e, k1, k2⟩ := dr_cell (n := n) (cs := cs) (a := a) (g := g) (c := c + 1) (f := f) (R := R) (m := m) ha h1 hg
      exact fin k1 k2 (ex_ifT (by rw [evT, y1, decide_eq_true h0]; simp only [y2]; rw [decide_eq_true h1]) e)
    · exact fin ha hg (ex_ifF (by rw [evT, y1, decide_eq_true h0]; simp only [y2]; rw [decide_eq_false h1]) rfl)
  · exact fin ha hg (ex_ifF (by rw [evT, y1, decide_eq_false h0]) rfl)
end
section
variable {cs : List Int} {a g c f : Int} {R : Store}
theorem pick_ev {n : Nat} {l : List D} {d : D} (hd : d = .lst l) (hl : 0 < l.length) (hl2 : l.length ≤ 100) (ha : 0 ≤ a) (hg : 0 ≤ g) :
    ∃ (j : Nat) (e : D) (a' g' c' f' : Int), callN L.prg (n + 2) 35 [.obj 0, d] (St cs a g c f R) = some (e, St cs a' g' c' f' R) ∧ j < l.length ∧ l[j]? = some e ∧ 0 ≤ a' ∧ 0 ≤ g' := by
  subst hd
  have hlog : ((l.length : Nat) : Int).natAbs.log2 < 9000 := by
    rw [Int.natAbs_natCast]
    exact Nat.lt_of_le_of_lt (Nat.log2_le_self _) (by omega)
  obtain ⟨r, a', g', c', f', e, h1, h2, h3, h4⟩ := q34 (n := n) (cs := cs) (a := a) (g := g) (c := c) (f := f) (R := R) (m := (l.length : Int)) ha hg (by omega) hlog
  obtain ⟨j, rfl⟩ : ∃ j : Nat, r = (j : Int) := ⟨r.toNat, by omega⟩
  have hj : j < l.length := by omega
  have hc : (C (n + 1)).call 34 [.obj 0, .int (l.length : Int)] (St cs a g c f R) = some (.int (j : Int), St cs a' g' c' f' R) := by rw [cC]; exact e
  have el : evE (C (n + 1)) (.bi .len (.var 1)) [.val (.obj 0), .val (.lst l)] (St cs a g c f R) = some (.fz (.int (l.length : Int)), St cs a g c f R) := by simp [evE, biR, Rv.seq]
  have ed := ev_call2 (i := 34) (ev_v (c := C (n + 1)) (i := 0) (σ := [.val (.obj 0), .val (.lst l)]) (S := St cs a g c f R) rfl) rfl el rfl hc
  have hx : atI l (j : Int) = some l[j] := by unfold atI ixN; simp [hj]
  have ei : evE (C (n + 1)) (.idx (.var 1) (.call 34 (.cons (.var 0) (.cons (.bi .len (.var 1)) .nil)))) [.val (.obj 0), .val (.lst l)] (St cs a g c f R) = some (.fz l[j], St cs a' g' c' f' R) := by
    have ev1 : evE (C (n + 1)) (.var 1) [.val (.obj 0), .val (.lst l)] (St cs a g c f R) = some (.fz (.lst l), St cs a g c f R) := ev_v rfl
    rw [evE, ev1]
    simp only [ed, idxR, Rv.seq, hx]
  exact ⟨j, l[j], a', g', c', f', call_ret (d := d35) rfl rfl (st_ret (fz := [0]) (r := .nil) (σ := [.val (.obj 0), .val (.lst l)]) rfl (ex_ret ei rfl)), hj, by simp [hj], h3, h4⟩
/-- a row of small numbers, drawn -/
theorem lc_draw {n : Nat} {d : Int} {F : D → Store → Option (Option D × Store)} (hF : ∀ (x : D) (S : Store), F x S = match evE (C (n + 1)) (.bin .sub (.call 34 (.cons (.var 0) (.cons (.const (.int (5))) .nil))) (.const (.int (2)))) [.val (.obj 0), .val (.int d), .val x] S with | some (r, S3) => (match r.d with | some x => some (some x, S3) | none => none) | none => none) :
    ∀ (l : List D) (acc : List D) (a g c f : Int), 0 ≤ a → 0 ≤ g → acc.length + l.length ≤ 100 → ∃ (vs : List Int) (a' g' c' f' : Int), lcGo F l acc (St cs a g c f R) = some (acc ++ vs.map D.int, St cs a' g' c' f' R) ∧ vs.length = l.length ∧ (∀ v ∈ vs, -2 ≤ v ∧ v ≤ 2) ∧ 0 ≤ a' ∧ 0 ≤ g'
  | [], acc, a, g, c, f, ha, hg, _ => ⟨[], a, g, c, f, by simp [lcGo], rfl, by simp, ha, hg⟩
  | x :: l, acc, a, g, c, f, ha, hg, hz => by
    rw [List.length_cons] at hz
    obtain ⟨r, a1, g1, c1, f1, e, h1, h2, h3, h4⟩ := q34 (n := n) (cs := cs) (a := a) (g := g) (c := c) (f := f) (R := R) (m := 5) ha hg (by decide) (by decide +kernel)
    obtain ⟨vs, a2, g2, c2, f2, e2, k1, k2, k3, k4⟩ := lc_draw hF l (acc ++ [.int (r - 2)]) a1 g1 c1 f1 h3 h4 (by simp; omega)
    have hc : (C (n + 1)).call 34 [.obj 0, .int 5] (St cs a g c f R) = some (.int r, St cs a1 g1 c1 f1 R) := by rw [cC]; exact e
    have ex : evE (C (n + 1)) (.bin .sub (.call 34 (.cons (.var 0) (.cons (.const (.int (5))) .nil))) (.const (.int (2)))) [.val (.obj 0), .val (.int d), .val x] (St cs a g c f R) = some (.fz (.int (r - 2)), St cs a1 g1 c1 f1 R) :=
      bin_i (ev_call2 (ev_v rfl) rfl (x' := .fz (.int 5)) (S2 := St cs a g c f R) rfl rfl hc) c_i (op := .sub) rfl
    have hf := hF x (St cs a g c f R)
    rw [ex] at hf
    have hf : F x (St cs a g c f R) = some (some (.int (r - 2)), St cs a1 g1 c1 f1 R) := hf
    refine ⟨(r - 2) :: vs, a2, g2, c2, f2, ?_, by simp [k1], fun v hv => ?_, k3, k4⟩
    · have hz' : acc.length < sizeLine := Nat.lt_of_lt_of_le (show acc.length < 1000 by omega) (by decide)
      rw [lcGo, hf]
      simp only [if_pos hz']
      rw [e2]
      simp
    · rcases List.mem_cons.mp hv with rfl | hv
      · omega
      · exact k2 v hv
end


abbrev pkeys : List Key := [.inr "cells", .inr "at", .inr "digits", .inr "count", .inr "fold"]
theorem q33 {n : Nat} (ns : List Int) : ∃ f, callN L.prg (n + 1) 33 [.scr (ns.map D.int)] [] = some (.obj 0, St ns 0 0 0 f []) := by
  obtain ⟨σ', e, o, rfl⟩ := for_pure (n := n) (p := .nm 2) (b := .cons [] (.set 1 (.bin .mod (.bi .int (.bin .add (.bin .mul (.var 1) (.const (.int (47)))) (.var 2))) (.const (.int (1000000007))))) .nil) (S := [])
    (g := fun (t : Int) σ => ∃ o, σ = [.val (.scr (ns.map D.int)), .val (.int t), o]) (stp := fun d t => (t * 47 + dInt d).fmod 1000000007) (fun d => ∃ a, d = .int a) (by
      rintro d t σ ⟨a, rfl⟩ ⟨o, rfl⟩
      refine ⟨_, ?_, .val (.int a), rfl⟩
      have ea : (Pat.nm 2).asg (.int a) [.val (.scr (ns.map D.int)), .val (.int t), o] = some [.val (.scr (ns.map D.int)), .val (.int t), .val (.int a)] := rfl
      have ee : evE (C n) (.bin .mod (.bi .int (.bin .add (.bin .mul (.var 1) (.const (.int (47)))) (.var 2))) (.const (.int (1000000007)))) [.val (.scr (ns.map D.int)), .val (.int t), .val (.int a)] [] = some (.fz (.int ((t * 47 + a).fmod 1000000007)), []) :=
        bin_i (int_i (bin_i (bin_i (ev_v (i := 1) rfl) c_i (mulR (j := 47) (by decide +kernel))) (ev_v (i := 2) rfl) (op := .add) rfl)) c_i (modI (j := 1000000007) (by decide))
      simp only [loopF, ea]
      exact (st_nx (fz := []) (r := .nil) (σ := [.val (.scr (ns.map D.int)), .val (.int t), .val (.int a)]) rfl (ex_set ee rfl)).trans rfl)
    (ns.map D.int) 0 [.val (.scr (ns.map D.int)), .val (.int 0), .non] (by simp) ⟨_, rfl⟩
  generalize (ns.map D.int).foldl (fun s d => (s * 47 + dInt d).fmod 1000000007) 0 = t at e
  have hf := for_of (n := n) (it := .seq (.var 0)) (σ := [.val (.scr (ns.map D.int)), .val (.int 0), .non]) (S := []) (by simp only [evI, evE, List.getElem?_cons_zero, Rv.seqB, Rv.seq]) e
  have nd : pkeys.Nodup := by decide +kernel
  have ed : evE (C n) (.dct pkeys (.cons (.bi .list (.var 0)) (.cons (.const (.int (0))) (.cons (.const (.int (0))) (.cons (.const (.int (0))) (.cons (.var 1) .nil)))))) [.val (.scr (ns.map D.int)), .val (.int t), o] [] = some (.fz (.obj 0), St ns 0 0 0 t []) := by
    have ea : evA (C n) (.cons (.bi .list (.var 0)) (.cons (.const (.int (0))) (.cons (.const (.int (0))) (.cons (.const (.int (0))) (.cons (.var 1) .nil))))) [.val (.scr (ns.map D.int)), .val (.int t), o] [] = some ([.lst (ns.map D.int), .int 0, .int 0, .int 0, .int t], []) := by
      simp only [evA, evE, List.getElem?_cons_zero, List.getElem?_cons_succ, biR, Rv.seq, Rv.d]
    rw [evE, ea]
    simp only
    rw [if_pos ⟨rfl, by decide, nd⟩]
    rfl
  have u3 := st_ret (c := C n) (fz := [1]) (r := .nil) (σ := [.val (.scr (ns.map D.int)), .val (.int t), o]) rfl (ex_ret ed rfl)
  have u2 := (st_nx (fz := [0]) (σ := [.val (.scr (ns.map D.int)), .val (.int 0), .non]) rfl hf).trans u3
  have u1 := (st_nx (c := C n) (fz := []) (σ := [.val (.scr (ns.map D.int)), .non, .non]) rfl (ex_set (i := 1) (e := .const (.int 0)) (S := []) rfl rfl)).trans u2
  exact ⟨t, call_ret (d := d33) rfl rfl u1⟩


def sameI (x : Int) : D → Bool
  | .int i => decide (i = x)
  | _ => false
def Atom (d : D) : Prop := d = .non ∨ (∃ i, d = .int i) ∨ (∃ b, d = .bl b) ∨ (∃ s, d = .str s)
theorem q8a {n : Nat} {S : Store} {d : D} (h : Atom d) : callN L.prg (n + 1) 8 [d] S = some (d, S) := by
  refine call_ret (d := d8) rfl rfl ?_
  show exB (C n) b8 [.val d, .non] S = _
  rcases h with rfl | ⟨i, rfl⟩ | ⟨b, rfl⟩ | ⟨s, rfl⟩ <;> simp [b8, exB, exS, evE, evT, frz, isTys, isTy, Rv.d, truR]
theorem q8t {n : Nat} {S : Store} {d : D} {l l' : List D} (hd : d = .tup l ∨ d = .lst l) (hz : l.length ≤ 1000) (gg : D → D) (h : ∀ e ∈ l, callN L.prg n 8 [e] S = some (gg e, S)) : callN L.prg (n + 1) 8 [d] S = some (.tup (l.map gg), S) := by
  refine call_ret (d := d8) rfl rfl ?_
  show exB (C n) b8 [.val d, .non] S = _
  have hl : evE (C n) (.lc (.nm 1) [1] (.seq (.var 0)) .yes (.call 8 (.cons (.var 1) .nil))) [.val d, .non] S = some (.fr (l.map gg), S) := by
    have hs : (Rv.fz d).seqB false = some l := by rcases hd with rfl | rfl <;> rfl
    simp only [evE, evI, List.getElem?_cons_zero, hs]
    rw [lc_pure (gg := gg)]
    · simp
    · intro e he
      have := h e he
      simp [Pat.asg, wipeE, evT, evE, evA, Rv.d, this]
    · exact sz100 (by simp; omega)
  have ht : evT (C n) (.tr (.isi (.var 0) [.list, .tuple])) [.val d, .non] S = some (true, S) := by
    rcases hd with rfl | rfl <;> simp [evT, evE, isTys, isTy, truR]
  have hb : evE (C n) (.bi .tuple (.lc (.nm 1) [1] (.seq (.var 0)) .yes (.call 8 (.cons (.var 1) .nil)))) [.val d, .non] S = some (.fz (.tup (l.map gg)), S) := by
    rw [evE, hl]; rfl
  exact st_ret (fz := []) (σ := [.val d, .non]) rfl (ex_ifT ht (st_ret (fz := []) (σ := [.val d, .non]) rfl (ex_ret hb rfl)))
theorem ex_fset {c : Co.Ctx} {o e : CE} {f : Str} {σ : Co.Env} {S S1 S2 : Store} {x : Rv} {d : D} {i k : Nat} {fs : List (Str × D)} (h1 : evE c e σ S = some (x, S1)) (hd : x.d = some d) (h2 : evE c o σ S1 = some (.fz (.obj i), S2)) (h3 : S2[i]? = some (.ins k fs)) (hz : fs.length < 1000) :
    exS c (.fset o f e) σ S = some (.nx σ (S2.set i (.ins k (setF f d fs)))) := by simp only [exS, h1, hd, h2, h3, if_pos hz]
theorem ex_par {c : Co.Ctx} {is : List Nat} {as : CA} {ds : List D} {σ σ' : Co.Env} {S S1 : Store} (h1 : evA c as σ S = some (ds, S1)) (h2 : parGo is ds σ = some σ') : exS c (.par is as) σ S = some (.nx σ' S1) := by simp only [exS, h1, h2]
theorem forGo_nx {f : D → Co.Env → Store → Option Out} {d : D} {ds : List D} {σ σ' : Co.Env} {S S' : Store} {o : Option Out} (h : f d σ S = some (.nx σ' S')) (k : forGo f ds σ' S' = o) : forGo f (d :: ds) σ S = o := by simp only [forGo, h]; exact k
theorem ev_not {c : Co.Ctx} {t : CT} {σ : Co.Env} {S S1 : Store} {z : Bool} (h : evT c t σ S = some (z, S1)) : evT c (.not t) σ S = some (!z, S1) := by simp only [evT, h]
abbrev KD (d : D) : Prop := d = .non ∨ (∃ i, d = .int i) ∨ (∃ b, d = .bl b) ∨ (∃ s, d = .str s) ∨ ∃ l, d = .tup l
theorem ev_isnot {c : Co.Ctx} {i : Nat} {σ : Co.Env} {S : Store} {d : D} (h : σ[i]? = some (.val d)) : evE c (.cmp .isnot (.var i) (.const .non)) σ S = some (.fz (.bl (!Co.isNon d)), S) := by
  refine ev_cmp (ev_v h) (y := .fz .non) (S2 := S) rfl ?_
  simp only [cmpS, neIns, Bool.false_eq_true, if_false, cmpR]
theorem ev_is {c : Co.Ctx} {i : Nat} {σ : Co.Env} {S : Store} {d : D} (h : σ[i]? = some (.val d)) : evE c (.cmp .is (.var i) (.const .non)) σ S = some (.fz (.bl (Co.isNon d)), S) := by
  refine ev_cmp (ev_v h) (y := .fz .non) (S2 := S) rfl ?_
  simp only [cmpS, neIns, Bool.false_eq_true, if_false, cmpR]
theorem ev_andT {c : Co.Ctx} {e1 e2 : Co.CE} {σ : Co.Env} {S S1 : Store} {o : Option (Rv × Store)} (h : evE c e1 σ S = some (.fz (.bl true), S1)) (k : evE c e2 σ S1 = o) : evE c (.andV e1 e2) σ S = o := by rw [evE, h]; exact k
theorem ev_andF {c : Co.Ctx} {e1 e2 : Co.CE} {σ : Co.Env} {S S1 : Store} (h : evE c e1 σ S = some (.fz (.bl false), S1)) : evE c (.andV e1 e2) σ S = some (.fz (.bl false), S1) := by rw [evE, h]
theorem ev_isnotB {c : Co.Ctx} {e : Co.CE} {σ : Co.Env} {S S1 : Store} {z w : Bool} (h : evE c e σ S = some (.fz (.bl z), S1)) : evE c (.cmp .isnot e (.const (.bl w))) σ S = some (.fz (.bl (!(z == w))), S1) := by
  refine ev_cmp h (y := .fz (.bl w)) (S2 := S1) rfl ?_
  simp only [cmpS, neIns, Bool.false_eq_true, if_false, cmpR, isBl]
end K56
end

section
set_option maxHeartbeats 0
set_option Elab.async false
set_option linter.all false
set_option maxRecDepth 100000
/-! K56t: calls that the kernel runs, and what their answers look like. -/
namespace K56
open PySem L2 Co
theorem pure : L.prg.Pure := ⟨fun k F hF => by
  revert F
  show ∀ F ∈ (L.defs.map fun d => (⟨d.np, d.N.length, d.body⟩ : Fd)), F.body.up k = F.body
  rw [List.forall_mem_map]
  show ∀ d ∈ L.defs, d.body.up k = d.body
  unfold L
  repeat (first | exact List.forall_mem_nil _ | refine List.forall_mem_cons.mpr ⟨rfl, ?_⟩), fun k d hd => by
  revert d
  show ∀ d ∈ L.globs, d.up k = d
  unfold L
  repeat (first | exact List.forall_mem_nil _ | refine List.forall_mem_cons.mpr ⟨rfl, ?_⟩)⟩
noncomputable def run (f : Nat) (ds : List D) : Option (D × Store) := callG 40 L.prg 8 f ds []
/-- a tuple of ints -/
def sameL : List D → List Int → Bool
  | [], [] => true
  | d :: ds, j :: l => match intD d with
    | some i => match eqZ i j with
      | true => sameL ds l
      | false => false
    | none => false
  | _, _ => false
theorem sameL_ok : ∀ {ds : List D} {l : List Int}, sameL ds l = true → ds = l.map D.int
  | [], [], _ => rfl
  | d :: ds, j :: l, h => by
    rw [sameL] at h
    split at h
    · rename_i i hi
      split at h
      · rename_i he
        rw [eqZ_eq, decide_eq_true_eq] at he
        subst he
        rw [sameL_ok h]
        cases d <;> simp [intD] at hi
        rw [hi]; rfl
      · cases h
    · cases h
  | [], _ :: _, h => by simp [sameL] at h
  | _ :: _, [], h => by simp [sameL] at h
def isTup (o : Option (D × Store)) (l : List Int) : Bool := match o with
  | some (.tup ds, []) => sameL ds l
  | _ => false
theorem isTup_ok {o : Option (D × Store)} {l : List Int} (h : isTup o l = true) : o = some (Ip l, []) := by
  unfold isTup at h
  split at h
  · rw [sameL_ok h]
  · cases h
/-- flat, and just the same -/
def eqS (a b : D) : Bool := match a with
  | .int i => match b with | .int j => eqZ i j | _ => false
  | .str x => match b with | .str y => decide (x = y) | _ => false
  | _ => false
theorem eqS_ok {a b : D} (h : eqS a b = true) : a = b ∧ ∀ k, b.up k = b := by
  cases a <;> simp only [eqS, Bool.false_eq_true] at h
  · split at h
    · rw [eqZ_eq, decide_eq_true_eq] at h; subst h; exact ⟨rfl, fun _ => rfl⟩
    · cases h
  · split at h
    · rw [decide_eq_true_eq] at h; subst h; exact ⟨rfl, fun _ => rfl⟩
    · cases h
def isSh (o : Option (D × Store)) (c : Nat) (g1 g2 : Str) (x y : D) : Bool := match o with
  | some (.obj 0, [.ins c' [(h1, d1), (h2, d2)]]) => Nat.beq c' c && (decide (h1 = g1) && (decide (h2 = g2) && (eqS d1 x && eqS d2 y)))
  | _ => false
/-- the Shared, the Unshared of two -/
def ShIs (one other : List Int) (c : Nat) (g1 g2 : Str) (x y : D) : Prop := ∀ S, callN L.prg 8 31 [Ip one, Ip other] S = some (.obj S.length, S ++ [.ins c [(g1, x), (g2, y)]])
theorem upI (k : Nat) (l : List Int) : (Ip l).up k = Ip l := by
  show D.tup (D.ups k (l.map D.int)) = _
  rw [ups_map, List.map_map]
  rfl
theorem isSh_ok {one other : List Int} {c : Nat} {g1 g2 : Str} {x y : D} (h : isSh (run 31 [Ip one, Ip other]) c g1 g2 x y = true) : ShIs one other c g1 g2 x y := by
  intro S
  unfold isSh at h
  split at h
  · rename_i c' h1 d1 h2 d2 e
    simp only [Bool.and_eq_true, decide_eq_true_eq] at h
    obtain ⟨q1, q2, q3, q4, q5⟩ := h
    obtain ⟨rfl, u1⟩ := eqS_ok q4
    obtain ⟨rfl, u2⟩ := eqS_ok q5
    subst q2
    subst q3
    have := Nat.eq_of_beq_eq_true q1
    subst this
    have r := run_upG pure e (fun k => by simp [upI]) S
    rw [r]
    simp [D.up, Ob.up, kvUp, u1, u2]
  · cases h
theorem tup_ok {f : Nat} {ds : List D} {l : List Int} (hd : ∀ k, ds.map (D.up k) = ds) (h : isTup (run f ds) l = true) (S : Store) : callN L.prg 8 f ds S = some (Ip l, S) := by
  have r := run_upG pure (isTup_ok h) hd S
  rw [r, upI]
  simp
noncomputable def tRow (r : List Int × List Int) : Bool := isTup (run 48 [Ip r.1, .int 2]) r.2 && (isSh (run 31 [Ip r.1, Ip r.2]) 0 "m" "n" (.int 2) (.int 1) && (isSh (run 31 [Ip r.2, Ip r.1]) 0 "m" "n" (.int 1) (.int 2) && isSh (run 31 [Ip r.1, Ip r.1]) 0 "m" "n" (.int 1) (.int 1)))
end K56
end

section
set_option maxHeartbeats 0
set_option Elab.async false
set_option linter.all false
set_option maxRecDepth 100000
/-! K56n: Shared and Unshared made, held, compared. -/
namespace K56
open PySem L2 Co
/-- Shared(a, b), Unshared(a, b) -/
theorem mk_ini {n : Nat} {S : Store} {a a' b b' : D} {c i : Nat} {d : DefD} {g1 g2 : Str} (hd : L.defs[i]? = some d) (hb : d.body = .cons [1] (.fset (.var 0) g1 (.call 8 (.cons (.var 1) .nil))) (.cons [2] (.fset (.var 0) g2 (.call 8 (.cons (.var 2) .nil))) .nil)) (hn : d.np = 3) (hN : d.N.length = 3) (hg : g1 ≠ g2)
    (ha : ∀ S, callN L.prg n 8 [a] S = some (a', S)) (hb' : ∀ S, callN L.prg n 8 [b] S = some (b', S)) : callN L.prg (n + 1) i [.obj S.length, a, b] (S ++ [.ins c []]) = some (.non, S ++ [.ins c [(g1, a'), (g2, b')]]) := by
  have e1 : ∀ T, evE (C n) (.call 8 (.cons (.var 1) .nil)) [.val (.obj S.length), .val a, .val b] T = some (.fz a', T) := fun T => ev_call1 (ev_v rfl) rfl (by rw [cC]; exact ha T)
  have e2 : ∀ T, evE (C n) (.call 8 (.cons (.var 2) .nil)) [.val (.obj S.length), .val a, .val b] T = some (.fz b', T) := fun T => ev_call1 (ev_v rfl) rfl (by rw [cC]; exact hb' T)
  have s1 : (S ++ [Ob.ins c []])[S.length]? = some (.ins c []) := by simp
  have s2 : (S ++ [Ob.ins c [(g1, a')]])[S.length]? = some (.ins c [(g1, a')]) := by simp
  have f1 : exS (C n) (.fset (.var 0) g1 (.call 8 (.cons (.var 1) .nil))) [.val (.obj S.length), .val a, .val b] (S ++ [.ins c []]) = some (.nx [.val (.obj S.length), .val a, .val b] (S ++ [.ins c [(g1, a')]])) := by
    rw [ex_fset (f := g1) (e1 _) rfl (ev_v (i := 0) rfl) s1 (by simp)]
    simp [setF]
  have f2 : exS (C n) (.fset (.var 0) g2 (.call 8 (.cons (.var 2) .nil))) [.val (.obj S.length), .val a, .val b] (S ++ [.ins c [(g1, a')]]) = some (.nx [.val (.obj S.length), .val a, .val b] (S ++ [.ins c [(g1, a'), (g2, b')]])) := by
    rw [ex_fset (f := g2) (e2 _) rfl (ev_v (i := 0) rfl) s2 (by simp)]
    simp [setF, hg]
  refine call_non (d := d) (σ := [.val (.obj S.length), .val a, .val b]) hd (by rw [hn]; rfl) ?_
  rw [hb, hN, hn]
  exact (st_nx (fz := [1]) (σ := [.val (.obj S.length), .val a, .val b]) rfl f1).trans ((st_nx (fz := [2]) (r := .nil) (σ := [.val (.obj S.length), .val a, .val b]) rfl f2).trans rfl)
theorem nm_ne : ("m" : Str) ≠ "n" := by decide +kernel
theorem wp_ne : ("why" : Str) ≠ "place" := by decide +kernel
theorem mkS {n : Nat} {σ : Co.Env} {S : Store} {e1 e2 : Co.CE} {x y : Rv} {a a' b b' : D} (h1 : evE (C (n + 1)) e1 σ S = some (x, S)) (hx : x.d = some a) (h2 : evE (C (n + 1)) e2 σ S = some (y, S)) (hy : y.d = some b) (ha : ∀ S, callN L.prg n 8 [a] S = some (a', S)) (hb : ∀ S, callN L.prg n 8 [b] S = some (b', S)) :
    evE (C (n + 1)) (.mk 0 (.cons e1 (.cons e2 .nil))) σ S = some (.fz (.obj S.length), S ++ [.ins 0 [("m", a'), ("n", b')]]) := by
  have hi : (C (n + 1)).inits[0]? = some (some 23) := rfl
  have hc : (C (n + 1)).call 23 [.obj S.length, a, b] (S ++ [.ins 0 []]) = some (.non, S ++ [.ins 0 [("m", a'), ("n", b')]]) := by rw [cC]; exact mk_ini (d := d23) rfl rfl rfl rfl nm_ne ha hb
  simp only [evE, evA, h1, hx, h2, hy, hi, hc]
theorem mkU {n : Nat} {σ : Co.Env} {S : Store} {e1 e2 : Co.CE} {x y : Rv} {a a' b b' : D} (h1 : evE (C (n + 1)) e1 σ S = some (x, S)) (hx : x.d = some a) (h2 : evE (C (n + 1)) e2 σ S = some (y, S)) (hy : y.d = some b) (ha : ∀ S, callN L.prg n 8 [a] S = some (a', S)) (hb : ∀ S, callN L.prg n 8 [b] S = some (b', S)) :
    evE (C (n + 1)) (.mk 1 (.cons e1 (.cons e2 .nil))) σ S = some (.fz (.obj S.length), S ++ [.ins 1 [("why", a'), ("place", b')]]) := by
  have hi : (C (n + 1)).inits[1]? = some (some 25) := rfl
  have hc : (C (n + 1)).call 25 [.obj S.length, a, b] (S ++ [.ins 1 []]) = some (.non, S ++ [.ins 1 [("why", a'), ("place", b')]]) := by rw [cC]; exact mk_ini (d := d25) rfl rfl rfl rfl wp_ne ha hb
  simp only [evE, evA, h1, hx, h2, hy, hi, hc]
theorem ev_at {c : Co.Ctx} {σ : Co.Env} {S : Store} {i j k : Nat} {f : Str} {fs : List (Str × D)} {d : D} (h1 : σ[j]? = some (.val (.obj i))) (h2 : S[i]? = some (.ins k fs)) (h3 : fs.lookup f = some d) : evE c (.attr (.var j) f) σ S = some (.fz d, S) := by
  simp only [evE, h1, h2, h3]
theorem ev_tup2 {c : Co.Ctx} {σ : Co.Env} {S : Store} {e1 e2 : Co.CE} {x y : Rv} {a b : D} (h1 : evE c e1 σ S = some (x, S)) (hx : x.d = some a) (h2 : evE c e2 σ S = some (y, S)) (hy : y.d = some b) : evE c (.tup (.cons e1 (.cons e2 .nil))) σ S = some (.fz (.tup [a, b]), S) := by
  have z : ([a, b] : List D).length ≤ sizeLine := sz100 (show 2 ≤ 1000 by decide)
  simp only [evE, evA, h1, hx, h2, hy]
  rw [if_pos z]
theorem lk1 {g1 g2 : Str} {x y : D} : List.lookup g1 [(g1, x), (g2, y)] = some x := by simp
theorem lk2 {g1 g2 : Str} {x y : D} (h : g1 ≠ g2) : List.lookup g2 [(g1, x), (g2, y)] = some y := by
  simp [List.lookup_cons, beq_eq_false_iff_ne.mpr (Ne.symm h)]
/-! ### the kinds of answers -/
structure Kind where
  c : Nat
  g1 : Str
  g2 : Str
  tag : Str
  x : D
  y : D
def kinds : List Kind := [⟨0, "m", "n", "shared", .int 2, .int 1⟩, ⟨0, "m", "n", "shared", .int 1, .int 2⟩, ⟨0, "m", "n", "shared", .int 1, .int 1⟩, ⟨0, "m", "n", "shared", .int 2, .int 2⟩, ⟨0, "m", "n", "shared", .int 4, .int 2⟩,
  ⟨1, "why", "place", "unshared", .str "numbers", .int 0⟩, ⟨1, "why", "place", "unshared", .str "numbers", .int 1⟩, ⟨1, "why", "place", "unshared", .str "degrees", .int 0⟩]
theorem kinds_ok : ∀ k ∈ kinds, (k.c = 0 ∧ k.g1 = "m" ∧ k.g2 = "n" ∧ k.tag = "shared" ∨ k.c = 1 ∧ k.g1 = "why" ∧ k.g2 = "place" ∧ k.tag = "unshared") ∧ (∀ j, k.x.up j = k.x ∧ k.y.up j = k.y) := by
  unfold kinds
  repeat (first | exact List.forall_mem_nil _ | refine List.forall_mem_cons.mpr ⟨⟨by simp, fun j => ⟨rfl, rfl⟩⟩, ?_⟩)
/-- a pair with what is due -/
def Tri (one other : List Int) (k : Kind) : Prop := k ∈ kinds ∧ ShIs one other k.c k.g1 k.g2 k.x k.y
abbrev due (k : Kind) : D := .tup [.str k.tag, k.x, k.y]
/-- shared_holds, its first half -/
abbrev rest32 : CB := (.cons [] (.ifs (.tr (.isi (.var 3) [.own 0])) (.cons [] (.ret (.andV (.isi (.var 2) [.own 0]) (.call 10 (.cons (.tup (.cons (.attr (.var 3) "m") (.cons (.attr (.var 3) "n") .nil))) (.cons (.tup (.cons (.attr (.var 2) "m") (.cons (.attr (.var 2) "n") .nil))) .nil))))) .nil) .nil) (.cons [] (.ret (.andV (.isi (.var 2) [.own 1]) (.call 10 (.cons (.tup (.cons (.attr (.var 3) "why") (.cons (.attr (.var 3) "place") .nil))) (.cons (.tup (.cons (.attr (.var 2) "why") (.cons (.attr (.var 2) "place") .nil))) .nil))))) .nil))
theorem ev_isi {c : Co.Ctx} {σ : Co.Env} {S : Store} {j : Nat} {d : D} {k : Nat} {z : Bool} (h : σ[j]? = some (.val d)) (hz : isTy S (.fz d) (.own k) = some z) : evE c (.isi (.var j) [.own k]) σ S = some (.fz (.bl z), S) := by
  simp only [evE, h, isTys, hz, Bool.or_false]
/-- .. the value is an instance of the right class -/
theorem q32 {one other : List Int} {k : Kind} (t : Tri one other k) {S : Store} {v : D} {w : Bool} {res : Bool}
    (hv : ∀ T : Store, isTy (S ++ T) (.fz v) (.own k.c) = some w) (hr : w = false ∧ res = false ∨ w = true ∧ ∃ i a b, v = .obj i ∧ S[i]? = some (.ins k.c [(k.g1, a), (k.g2, b)]) ∧ ∀ S, callN L.prg 8 10 [.tup [k.x, k.y], .tup [a, b]] S = some (.bl res, S)) :
    callN L.prg 9 32 [Ip one, Ip other, v] S = some (.bl res, S ++ [.ins k.c [(k.g1, k.x), (k.g2, k.y)]]) := by
  obtain ⟨hk, sh⟩ := t
  refine call_ret (n := 8) (d := d32) rfl rfl ?_
  have a1 : (C 8).call 31 [Ip one, Ip other] S = some (.obj S.length, S ++ [.ins k.c [(k.g1, k.x), (k.g2, k.y)]]) := by rw [cC]; exact sh S
  have u1 : exB (C 8) b32 [.val (Ip one), .val (Ip other), .val v, .non] S = exB (C 8) rest32 [.val (Ip one), .val (Ip other), .val v, .val (.obj S.length)] (S ++ [.ins k.c [(k.g1, k.x), (k.g2, k.y)]]) :=
    st_nx (fz := [0, 1]) (σ := [.val (Ip one), .val (Ip other), .val v, .non]) rfl (ex_set (ev_call2 (ev_v rfl) rfl (ev_v rfl) rfl a1) rfl)
  refine u1.trans ?_
  have s1 : (S ++ [Ob.ins k.c [(k.g1, k.x), (k.g2, k.y)]])[S.length]? = some (.ins k.c [(k.g1, k.x), (k.g2, k.y)]) := by simp
  have hv' := hv [Ob.ins k.c [(k.g1, k.x), (k.g2, k.y)]]
  -- what is told, by same_told
  have fin : ∀ (g1 g2 : Str), k.g1 = g1 → k.g2 = g2 → g1 ≠ g2 → evE (C 8) (.andV (.isi (.var 2) [.own k.c]) (.call 10 (.cons (.tup (.cons (.attr (.var 3) g1) (.cons (.attr (.var 3) g2) .nil))) (.cons (.tup (.cons (.attr (.var 2) g1) (.cons (.attr (.var 2) g2) .nil))) .nil)))) [.val (Ip one), .val (Ip other), .val v, .val (.obj S.length)] (S ++ [.ins k.c [(k.g1, k.x), (k.g2, k.y)]]) = some (.fz (.bl res), S ++ [.ins k.c [(k.g1, k.x), (k.g2, k.y)]]) := by
    intro g1 g2 h1 h2 hne
    rcases hr with ⟨rfl, rfl⟩ | ⟨rfl, i, a, b, rfl, hi, hc⟩
    · exact ev_andF (ev_isi rfl hv')
    · have hi' : (S ++ [Ob.ins k.c [(k.g1, k.x), (k.g2, k.y)]])[i]? = some (.ins k.c [(k.g1, a), (k.g2, b)]) := by
        rw [List.getElem?_append_left (List.getElem?_eq_some_iff.mp hi).1]; exact hi
      subst h1
      subst h2
      have t1 := ev_tup2 (c := C 8) (ev_at (σ := [.val (Ip one), .val (Ip other), .val (.obj i), .val (.obj S.length)]) (j := 3) (f := k.g1) rfl s1 lk1) rfl (ev_at (j := 3) (f := k.g2) rfl s1 (lk2 hne)) rfl
      have t2 := ev_tup2 (c := C 8) (ev_at (σ := [.val (Ip one), .val (Ip other), .val (.obj i), .val (.obj S.length)]) (j := 2) (f := k.g1) rfl hi' lk1) rfl (ev_at (j := 2) (f := k.g2) rfl hi' (lk2 hne)) rfl
      exact ev_andT (ev_isi rfl hv') (ev_call2 t1 rfl t2 rfl (by rw [cC]; exact hc _))
  obtain ⟨h, -⟩ := kinds_ok k hk
  rcases h with ⟨hc, h1, h2, -⟩ | ⟨hc, h1, h2, -⟩
  · have f := fin "m" "n" h1 h2 nm_ne
    have ty : isTy (S ++ [Ob.ins k.c [(k.g1, k.x), (k.g2, k.y)]]) (.fz (.obj S.length)) (.own 0) = some true := by simp [isTy, hc]
    rw [hc] at f
    have et := ev_tr (ev_isi (c := C 8) (σ := [.val (Ip one), .val (Ip other), .val v, .val (.obj S.length)]) (j := 3) rfl ty) rfl
    have := st_ret (fz := []) (r := .nil) (σ := [.val (Ip one), .val (Ip other), .val v, .val (.obj S.length)]) rfl (ex_ret f rfl)
    rw [← hc] at this
    exact st_ret (fz := []) (σ := [.val (Ip one), .val (Ip other), .val v, .val (.obj S.length)]) rfl (ex_ifT et (by rw [hc] at this ⊢; exact this))
  · have f := fin "why" "place" h1 h2 wp_ne
    have ty : isTy (S ++ [Ob.ins k.c [(k.g1, k.x), (k.g2, k.y)]]) (.fz (.obj S.length)) (.own 0) = some false := by simp [isTy, hc]
    rw [hc] at f
    have et := ev_tr (ev_isi (c := C 8) (σ := [.val (Ip one), .val (Ip other), .val v, .val (.obj S.length)]) (j := 3) rfl ty) rfl
    have := st_ret (fz := []) (r := .nil) (σ := [.val (Ip one), .val (Ip other), .val v, .val (.obj S.length)]) rfl (ex_ret f rfl)
    refine (st_nx (fz := []) (σ := [.val (Ip one), .val (Ip other), .val v, .val (.obj S.length)]) rfl (ex_ifF et rfl)).trans ?_
    rw [hc]
    exact this
end K56
end

section
set_option maxHeartbeats 0
set_option Elab.async false
set_option linter.all false
set_option maxRecDepth 100000
/-! K56o: what is told of a pair, by each paper. -/
namespace K56
open PySem L2 Co
def prs0 : List (D × D) := [(.int 1, .int 1), (.int 2, .int 1), (.int 1, .int 2), (.int 2, .int 2), (.int 4, .int 2), (.int 2, .int 4), (.int 3, .int 3), (.non, .int 1), (.bl true, .int 1), (.int 1, .str "1"), (.int 0, .int 0), (.tup [.int 1], .int 1)]
def prs1 : List (D × D) := [(.str "degrees", .int 0), (.str "numbers", .int 0), (.str "numbers", .int 1), (.str "numbers", .int 2), (.str "degrees", .int 1), (.str "numbers", .bl true), (.str "numbers", .non), (.non, .int 0), (.str "Degrees", .int 0)]
def prs (c : Nat) : List (D × D) := match c with | 0 => prs0 | _ => prs1
noncomputable def tSame (k : Kind) (p : D × D) : Bool := match callG 40 L.prg 8 10 [.tup [k.x, k.y], .tup [p.1, p.2]] [], callG 40 L.prg 9 36 [.tup [p.1, p.2], .tup [k.x, k.y]] [] with
  | some (.bl z, []), some (.bl w, []) => z == w
  | _, _ => false
theorem same_all : (kinds.all fun k => (prs k.c).all (tSame k)) = true := by kernel_rfl
theorem prs_up : ∀ c, ∀ p ∈ prs c, ∀ j, p.1.up j = p.1 ∧ p.2.up j = p.2 := by
  intro c
  match c with
  | 0 =>
    show ∀ p ∈ prs0, _
    unfold prs0
    repeat (first | exact List.forall_mem_nil _ | refine List.forall_mem_cons.mpr ⟨fun j => ⟨rfl, rfl⟩, ?_⟩)
  | n + 1 =>
    show ∀ p ∈ prs1, _
    unfold prs1
    repeat (first | exact List.forall_mem_nil _ | refine List.forall_mem_cons.mpr ⟨fun j => ⟨rfl, rfl⟩, ?_⟩)
theorem same_ok {k : Kind} {p : D × D} (hk : k ∈ kinds) (hp : p ∈ prs k.c) : ∃ z : Bool, (∀ S, callN L.prg 8 10 [.tup [k.x, k.y], .tup [p.1, p.2]] S = some (.bl z, S)) ∧ ∀ S, callN L.prg 9 36 [.tup [p.1, p.2], .tup [k.x, k.y]] S = some (.bl z, S) := by
  have h := List.all_eq_true.mp (List.all_eq_true.mp same_all k hk) p hp
  obtain ⟨-, uk⟩ := kinds_ok k hk
  have up := prs_up _ p hp
  unfold tSame at h
  split at h
  · rename_i z w e1 e2
    have hz : z = w := by simpa using h
    subst hz
    refine ⟨z, fun S => ?_, fun S => ?_⟩
    · rw [run_upG pure e1 (fun j => by simp [D.up, D.ups, uk j, up j]) S]; simp [D.up]
    · rw [run_upG pure e2 (fun j => by simp [D.up, D.ups, uk j, up j]) S]; simp [D.up]
  · cases h
def AsOk (a : D) : Prop := ∀ S, callN L.prg 8 8 [a] S = some (a, S)
theorem as_atom {a : D} (h : Atom a) : AsOk a := fun S => q8a (n := 7) h
theorem as_one : AsOk (.tup [.int 1]) := fun S => by
  have h := q8t (n := 7) (d := .tup [.int 1]) (l := [.int 1]) (l' := []) (S := S) (.inl rfl) (by simp) id (fun e he => by
    simp only [List.mem_cons, List.not_mem_nil, or_false] at he
    subst he
    exact q8a (n := 6) (.inr (.inl ⟨_, rfl⟩)))
  simpa using h
theorem at_i {i : Int} : Atom (.int i) := .inr (.inl ⟨_, rfl⟩)
theorem at_b {b : Bool} : Atom (.bl b) := .inr (.inr (.inl ⟨_, rfl⟩))
theorem at_s {s : Str} : Atom (.str s) := .inr (.inr (.inr ⟨_, rfl⟩))
theorem at_n : Atom .non := .inl rfl
theorem as_prs0 : ∀ p ∈ prs0, AsOk p.1 ∧ AsOk p.2 := by
  unfold prs0
  repeat (first | exact List.forall_mem_nil _ | refine List.forall_mem_cons.mpr ⟨⟨by first | exact as_atom at_i | exact as_atom at_b | exact as_atom at_s | exact as_atom at_n | exact as_one, by first | exact as_atom at_i | exact as_atom at_b | exact as_atom at_s | exact as_atom at_n⟩, ?_⟩)
theorem as_prs1 : ∀ p ∈ prs1, AsOk p.1 ∧ AsOk p.2 := by
  unfold prs1
  repeat (first | exact List.forall_mem_nil _ | refine List.forall_mem_cons.mpr ⟨⟨by first | exact as_atom at_i | exact as_atom at_b | exact as_atom at_s | exact as_atom at_n, by first | exact as_atom at_i | exact as_atom at_b | exact as_atom at_s | exact as_atom at_n⟩, ?_⟩)
theorem q37 {n : Nat} {S : Store} {z : Bool} : callN L.prg (n + 1) 37 [.bl z, .bl z] S = some (.bl true, S) := by
  refine call_ret (d := d37) rfl rfl ?_
  show exB (C n) b37 [.val (.bl z), .val (.bl z)] S = _
  cases z <;> simp [b37, exB, exS, evE, evT, evA, frz, Rv.d, truR, cmpS, neIns, cmpR, isBl]
theorem says {z : Bool} {S : Store} : (C 9).call 37 [.bl z, .bl z] S = some (.bl true, S) := by rw [cC]; exact q37 (n := 8)
section
variable {x0 x1 x2 x3 x4 x5 x6 x7 x8 x9 : Co.Slot} {one other : List Int} {k : Kind}
theorem eqT (t : Str) (h : cmpR .eq (.fz (.str k.tag)) (.fz (.str t)) = some z) {σ : Co.Env} {S : Store} (h5 : σ[5]? = some (.val (due k))) : evE (C 9) (.cmp .eq (.idx (.var 5) (.const (.int (0)))) (.const (.str t))) σ S = some (.fz (.bl z), S) := by
  have e1 : evE (C 9) (.idx (.var 5) (.const (.int (0)))) σ S = some (.fz (.str k.tag), S) := by
    rw [evE, ev_v h5]
    simp only [evE]
    rfl
  refine ev_cmp e1 (y := .fz (.str t)) (S2 := S) rfl ?_
  simp only [cmpS, neIns, Bool.false_eq_true, if_false, h]
theorem sl5 {σ : Co.Env} {S : Store} (h5 : σ[5]? = some (.val (due k))) : evE (C 9) (.slL (.var 5) (.const (.int (1)))) σ S = some (.fz (.tup [k.x, k.y]), S) := by
  rw [evE, ev_v h5]
  simp only [evE]
  rfl
theorem ss1 : cmpR .eq (.fz (.str "shared")) (.fz (.str "shared")) = some true := by decide +kernel
theorem ss2 : cmpR .eq (.fz (.str "unshared")) (.fz (.str "shared")) = some false := by decide +kernel
theorem ss3 : cmpR .eq (.fz (.str "shared")) (.fz (.str "unshared")) = some false := by decide +kernel
theorem ss4 : cmpR .eq (.fz (.str "unshared")) (.fz (.str "unshared")) = some true := by decide +kernel
abbrev ifB (t : CT) : CB := .cons [] (.ret (.const (.bl false))) .nil
abbrev an0 : Co.CE := .andV (.cmp .eq (.idx (.var 5) (.const (.int (0)))) (.const (.str "shared"))) (.call 36 (.cons (.tup (.cons (.var 6) (.cons (.var 7) .nil))) (.cons (.slL (.var 5) (.const (.int (1)))) .nil)))
abbrev t0 : CT := .not (.tr (.call 37 (.cons (.call 32 (.cons (.var 3) (.cons (.var 4) (.cons (.mk 0 (.cons (.var 6) (.cons (.var 7) .nil))) .nil)))) (.cons an0 .nil))))
abbrev B0 : CB := .cons [3, 4, 6, 7, 6, 7] (.ifs t0 (.cons [] (.ret (.const (.bl false))) .nil) .nil) .nil
theorem turn0 (t : Tri one other k) {p : D × D} (hp : p ∈ prs0) {S : Store} : ∃ T : Store, loopF 9 (.tcons (.nm 6) (.tcons (.nm 7) .tnil)) B0 (.tup [p.1, p.2]) [x0, x1, x2, .val (Ip one), .val (Ip other), .val (due k), x6, x7, x8, x9] S = some (.nx [x0, x1, x2, .val (Ip one), .val (Ip other), .val (due k), .val p.1, .val p.2, x8, x9] (S ++ T)) := by
  obtain ⟨a1, a2⟩ := as_prs0 p hp
  have ea : (Pat.tcons (.nm 6) (.tcons (.nm 7) .tnil)).asg (.tup [p.1, p.2]) [x0, x1, x2, .val (Ip one), .val (Ip other), .val (due k), x6, x7, x8, x9] = some [x0, x1, x2, .val (Ip one), .val (Ip other), .val (due k), .val p.1, .val p.2, x8, x9] := rfl
  have em := mkS (n := 8) (σ := [x0, x1, x2, .val (Ip one), .val (Ip other), .val (due k), .val p.1, .val p.2, x8, x9]) (S := S) (ev_v (i := 6) rfl) rfl (ev_v (i := 7) rfl) rfl a1 a2
  have hi : (S ++ [Ob.ins 0 [("m", p.1), ("n", p.2)]])[S.length]? = some (.ins 0 [("m", p.1), ("n", p.2)]) := by simp
  have hv : ∀ T : Store, isTy (S ++ [Ob.ins 0 [("m", p.1), ("n", p.2)]] ++ T) (.fz (.obj S.length)) (.own k.c) = some (decide (0 = k.c)) := fun T => by simp [isTy]
  have et2 := ev_tup2 (c := C 9) (σ := [x0, x1, x2, .val (Ip one), .val (Ip other), .val (due k), .val p.1, .val p.2, x8, x9]) (S := S ++ [Ob.ins 0 [("m", p.1), ("n", p.2)]] ++ [Ob.ins k.c [(k.g1, k.x), (k.g2, k.y)]]) (ev_v (i := 6) rfl) rfl (ev_v (i := 7) rfl) rfl
  have go : ∀ z : Bool, callN L.prg 9 32 [Ip one, Ip other, .obj S.length] (S ++ [Ob.ins 0 [("m", p.1), ("n", p.2)]]) = some (.bl z, S ++ [Ob.ins 0 [("m", p.1), ("n", p.2)]] ++ [Ob.ins k.c [(k.g1, k.x), (k.g2, k.y)]]) →
      evE (C 9) an0 [x0, x1, x2, .val (Ip one), .val (Ip other), .val (due k), .val p.1, .val p.2, x8, x9] (S ++ [Ob.ins 0 [("m", p.1), ("n", p.2)]] ++ [Ob.ins k.c [(k.g1, k.x), (k.g2, k.y)]]) = some (.fz (.bl z), S ++ [Ob.ins 0 [("m", p.1), ("n", p.2)]] ++ [Ob.ins k.c [(k.g1, k.x), (k.g2, k.y)]]) →
      loopF 9 (.tcons (.nm 6) (.tcons (.nm 7) .tnil)) B0 (.tup [p.1, p.2]) [x0, x1, x2, .val (Ip one), .val (Ip other), .val (due k), x6, x7, x8, x9] S = some (.nx [x0, x1, x2, .val (Ip one), .val (Ip other), .val (due k), .val p.1, .val p.2, x8, x9] (S ++ [Ob.ins 0 [("m", p.1), ("n", p.2)]] ++ [Ob.ins k.c [(k.g1, k.x), (k.g2, k.y)]])) := by
    intro z h1 h2
    have e1 := ev_call3 (ev_v (i := 3) rfl) rfl (ev_v (i := 4) rfl) rfl em rfl (show (C 9).call 32 _ _ = _ by rw [cC]; exact h1)
    have et := ev_not (ev_tr (ev_call2 e1 rfl h2 rfl says) rfl)
    simp only [loopF, ea]
    exact (st_nx (fz := [3, 4, 6, 7, 6, 7]) (r := .nil) (σ := [x0, x1, x2, .val (Ip one), .val (Ip other), .val (due k), .val p.1, .val p.2, x8, x9]) rfl (ex_ifF et rfl)).trans rfl
  refine ⟨[Ob.ins 0 [("m", p.1), ("n", p.2)]] ++ [Ob.ins k.c [(k.g1, k.x), (k.g2, k.y)]], ?_⟩
  rw [← List.append_assoc]
  have t' := t
  obtain ⟨hk, -⟩ := t'
  obtain ⟨h, -⟩ := kinds_ok k hk
  rcases h with ⟨hc, h1, h2, h3⟩ | ⟨hc, h1, h2, h3⟩
  · obtain ⟨z, s1, s2⟩ := same_ok hk (p := p) (by rw [hc]; exact hp)
    refine go z (q32 t hv (.inr ⟨by rw [hc]; rfl, S.length, p.1, p.2, rfl, by rw [h1, h2, hc]; exact hi, s1⟩)) ?_
    exact ev_andT (eqT (k := k) (z := true) "shared" (by rw [h3]; exact ss1) rfl) (ev_call2 et2 rfl (sl5 (k := k) rfl) rfl (by rw [cC]; exact s2 _))
  · refine go false (q32 t hv (.inl ⟨by rw [hc]; rfl, rfl⟩)) ?_
    exact ev_andF (eqT (k := k) (z := false) "shared" (by rw [h3]; exact ss2) rfl)
theorem for0 (t : Tri one other k) : ∀ (ps : List (D × D)) (x6 x7 : Co.Slot) (S : Store), (∀ p ∈ ps, p ∈ prs0) → ∃ (y6 y7 : Co.Slot) (T : Store), forGo (loopF 9 (.tcons (.nm 6) (.tcons (.nm 7) .tnil)) B0) (ps.map fun p => D.tup [p.1, p.2]) [x0, x1, x2, .val (Ip one), .val (Ip other), .val (due k), x6, x7, x8, x9] S = some (.nx [x0, x1, x2, .val (Ip one), .val (Ip other), .val (due k), y6, y7, x8, x9] (S ++ T))
  | [], x6, x7, S, _ => ⟨x6, x7, [], by simp [forGo]⟩
  | p :: ps, x6, x7, S, h => by
    obtain ⟨T1, e1⟩ := turn0 (x0 := x0) (x1 := x1) (x2 := x2) (x6 := x6) (x7 := x7) (x8 := x8) (x9 := x9) t (h p (by simp)) (S := S)
    obtain ⟨y6, y7, T2, e2⟩ := for0 t ps (.val p.1) (.val p.2) (S ++ T1) (fun q hq => h q (by simp [hq]))
    exact ⟨y6, y7, T1 ++ T2, forGo_nx e1 (by rw [← List.append_assoc]; exact e2)⟩
abbrev an1 : Co.CE := .andV (.cmp .eq (.idx (.var 5) (.const (.int (0)))) (.const (.str "unshared"))) (.call 36 (.cons (.tup (.cons (.var 8) (.cons (.var 9) .nil))) (.cons (.slL (.var 5) (.const (.int (1)))) .nil)))
abbrev t1 : CT := .not (.tr (.call 37 (.cons (.call 32 (.cons (.var 3) (.cons (.var 4) (.cons (.mk 1 (.cons (.var 8) (.cons (.var 9) .nil))) .nil)))) (.cons an1 .nil))))
abbrev B1 : CB := .cons [3, 4, 8, 9, 8, 9] (.ifs t1 (.cons [] (.ret (.const (.bl false))) .nil) .nil) .nil
theorem turn1 (t : Tri one other k) {p : D × D} (hp : p ∈ prs1) {S : Store} : ∃ T : Store, loopF 9 (.tcons (.nm 8) (.tcons (.nm 9) .tnil)) B1 (.tup [p.1, p.2]) [x0, x1, x2, .val (Ip one), .val (Ip other), .val (due k), x6, x7, x8, x9] S = some (.nx [x0, x1, x2, .val (Ip one), .val (Ip other), .val (due k), x6, x7, .val p.1, .val p.2] (S ++ T)) := by
  obtain ⟨a1, a2⟩ := as_prs1 p hp
  have ea : (Pat.tcons (.nm 8) (.tcons (.nm 9) .tnil)).asg (.tup [p.1, p.2]) [x0, x1, x2, .val (Ip one), .val (Ip other), .val (due k), x6, x7, x8, x9] = some [x0, x1, x2, .val (Ip one), .val (Ip other), .val (due k), x6, x7, .val p.1, .val p.2] := rfl
  have em := mkU (n := 8) (σ := [x0, x1, x2, .val (Ip one), .val (Ip other), .val (due k), x6, x7, .val p.1, .val p.2]) (S := S) (ev_v (i := 8) rfl) rfl (ev_v (i := 9) rfl) rfl a1 a2
  have hi : (S ++ [Ob.ins 1 [("why", p.1), ("place", p.2)]])[S.length]? = some (.ins 1 [("why", p.1), ("place", p.2)]) := by simp
  have hv : ∀ T : Store, isTy (S ++ [Ob.ins 1 [("why", p.1), ("place", p.2)]] ++ T) (.fz (.obj S.length)) (.own k.c) = some (decide (1 = k.c)) := fun T => by simp [isTy]
  have et2 := ev_tup2 (c := C 9) (σ := [x0, x1, x2, .val (Ip one), .val (Ip other), .val (due k), x6, x7, .val p.1, .val p.2]) (S := S ++ [Ob.ins 1 [("why", p.1), ("place", p.2)]] ++ [Ob.ins k.c [(k.g1, k.x), (k.g2, k.y)]]) (ev_v (i := 8) rfl) rfl (ev_v (i := 9) rfl) rfl
  have go : ∀ z : Bool, callN L.prg 9 32 [Ip one, Ip other, .obj S.length] (S ++ [Ob.ins 1 [("why", p.1), ("place", p.2)]]) = some (.bl z, S ++ [Ob.ins 1 [("why", p.1), ("place", p.2)]] ++ [Ob.ins k.c [(k.g1, k.x), (k.g2, k.y)]]) →
      evE (C 9) an1 [x0, x1, x2, .val (Ip one), .val (Ip other), .val (due k), x6, x7, .val p.1, .val p.2] (S ++ [Ob.ins 1 [("why", p.1), ("place", p.2)]] ++ [Ob.ins k.c [(k.g1, k.x), (k.g2, k.y)]]) = some (.fz (.bl z), S ++ [Ob.ins 1 [("why", p.1), ("place", p.2)]] ++ [Ob.ins k.c [(k.g1, k.x), (k.g2, k.y)]]) →
      loopF 9 (.tcons (.nm 8) (.tcons (.nm 9) .tnil)) B1 (.tup [p.1, p.2]) [x0, x1, x2, .val (Ip one), .val (Ip other), .val (due k), x6, x7, x8, x9] S = some (.nx [x0, x1, x2, .val (Ip one), .val (Ip other), .val (due k), x6, x7, .val p.1, .val p.2] (S ++ [Ob.ins 1 [("why", p.1), ("place", p.2)]] ++ [Ob.ins k.c [(k.g1, k.x), (k.g2, k.y)]])) := by
    intro z h1 h2
    have e1 := ev_call3 (ev_v (i := 3) rfl) rfl (ev_v (i := 4) rfl) rfl em rfl (show (C 9).call 32 _ _ = _ by rw [cC]; exact h1)
    have et := ev_not (ev_tr (ev_call2 e1 rfl h2 rfl says) rfl)
    simp only [loopF, ea]
    exact (st_nx (fz := [3, 4, 8, 9, 8, 9]) (r := .nil) (σ := [x0, x1, x2, .val (Ip one), .val (Ip other), .val (due k), x6, x7, .val p.1, .val p.2]) rfl (ex_ifF et rfl)).trans rfl
  refine ⟨[Ob.ins 1 [("why", p.1), ("place", p.2)]] ++ [Ob.ins k.c [(k.g1, k.x), (k.g2, k.y)]], ?_⟩
  rw [← List.append_assoc]
  have t' := t
  obtain ⟨hk, -⟩ := t'
  obtain ⟨h, -⟩ := kinds_ok k hk
  rcases h with ⟨hc, h1, h2, h3⟩ | ⟨hc, h1, h2, h3⟩
  · refine go false (q32 t hv (.inl ⟨by rw [hc]; rfl, rfl⟩)) ?_
    exact ev_andF (eqT (k := k) (z := false) "unshared" (by rw [h3]; exact ss3) rfl)
  · obtain ⟨z, s1, s2⟩ := same_ok hk (p := p) (by rw [hc]; exact hp)
    refine go z (q32 t hv (.inr ⟨by rw [hc]; rfl, S.length, p.1, p.2, rfl, by rw [h1, h2, hc]; exact hi, s1⟩)) ?_
    exact ev_andT (eqT (k := k) (z := true) "unshared" (by rw [h3]; exact ss4) rfl) (ev_call2 et2 rfl (sl5 (k := k) rfl) rfl (by rw [cC]; exact s2 _))
theorem for1 (t : Tri one other k) : ∀ (ps : List (D × D)) (x8 x9 : Co.Slot) (S : Store), (∀ p ∈ ps, p ∈ prs1) → ∃ (y8 y9 : Co.Slot) (T : Store), forGo (loopF 9 (.tcons (.nm 8) (.tcons (.nm 9) .tnil)) B1) (ps.map fun p => D.tup [p.1, p.2]) [x0, x1, x2, .val (Ip one), .val (Ip other), .val (due k), x6, x7, x8, x9] S = some (.nx [x0, x1, x2, .val (Ip one), .val (Ip other), .val (due k), x6, x7, y8, y9] (S ++ T))
  | [], x8, x9, S, _ => ⟨x8, x9, [], by simp [forGo]⟩
  | p :: ps, x8, x9, S, h => by
    obtain ⟨T1, e1⟩ := turn1 (x0 := x0) (x1 := x1) (x2 := x2) (x6 := x6) (x7 := x7) (x8 := x8) (x9 := x9) t (h p (by simp)) (S := S)
    obtain ⟨y8, y9, T2, e2⟩ := for1 t ps (.val p.1) (.val p.2) (S ++ T1) (fun q hq => h q (by simp [hq]))
    exact ⟨y8, y9, T1 ++ T2, forGo_nx e1 (by rw [← List.append_assoc]; exact e2)⟩
abbrev wrL : Co.CE := .lst (.cons (.const .non) (.cons (.var 5) (.cons (.const (.bl true)) (.cons (.slL (.var 5) (.const (.int (1)))) .nil))))
abbrev wrS : CS := .ifs (.tr (.cmp .isnot (.call 32 (.cons (.var 3) (.cons (.var 4) (.cons (.call 35 (.cons (.var 1) (.cons wrL .nil))) .nil)))) (.const (.bl false)))) (.cons [] (.ret (.const (.bl false))) .nil) .nil
theorem wr_ev {cs : List Int} {a g c f : Int} {R : Store} (t : Tri one other k) (ha : 0 ≤ a) (hg : 0 ≤ g) : ∃ (a' g' c' f' : Int) (T : Store), exS (C 9) wrS [x0, .val (.obj 0), x2, .val (Ip one), .val (Ip other), .val (due k), x6, x7, x8, x9] (St cs a g c f R) = some (.nx [x0, .val (.obj 0), x2, .val (Ip one), .val (Ip other), .val (due k), x6, x7, x8, x9] (St cs a' g' c' f' (R ++ T))) ∧ 0 ≤ a' ∧ 0 ≤ g' := by
  have z4 : ([.non, due k, .bl true, .tup [k.x, k.y]] : List D).length ≤ sizeLine := sz100 (show 4 ≤ 1000 by decide)
  have el : evE (C 9) wrL [x0, .val (.obj 0), x2, .val (Ip one), .val (Ip other), .val (due k), x6, x7, x8, x9] (St cs a g c f R) = some (.fr [.non, due k, .bl true, .tup [k.x, k.y]], St cs a g c f R) := by
    have e5 : evE (C 9) (.var 5) [x0, .val (.obj 0), x2, .val (Ip one), .val (Ip other), .val (due k), x6, x7, x8, x9] (St cs a g c f R) = some (.fz (due k), St cs a g c f R) := ev_v rfl
    have e6 := sl5 (k := k) (σ := [x0, .val (.obj 0), x2, .val (Ip one), .val (Ip other), .val (due k), x6, x7, x8, x9]) (S := St cs a g c f R) rfl
    have c1 : ∀ (d : D) σ S, evE (C 9) (.const d) σ S = some (.fz d, S) := fun d σ S => by rw [evE]
    rw [evE]
    simp only [evA, e5, e6, c1, Rv.d]
    rw [if_pos z4]
  obtain ⟨j, e, a2, g2, c2, f2, e4, hj, he, k3, k4⟩ := pick_ev (n := 7) (cs := cs) (c := c) (f := f) (R := R) (l := [.non, due k, .bl true, .tup [k.x, k.y]]) rfl (by simp) (by simp) ha hg
  have h35 : (C 9).call 35 [.obj 0, .lst [.non, due k, .bl true, .tup [k.x, k.y]]] (St cs a g c f R) = some (e, St cs a2 g2 c2 f2 R) := by rw [cC]; exact e4
  have e3 := ev_call2 (i := 35) (ev_v (c := C 9) (i := 1) (σ := [x0, .val (.obj 0), x2, .val (Ip one), .val (Ip other), .val (due k), x6, x7, x8, x9]) (S := St cs a g c f R) rfl) rfl el rfl h35
  have hk : ∀ T : Store, isTy (St cs a2 g2 c2 f2 R ++ T) (.fz e) (.own k.c) = some false := by
    have hj' : j = 0 ∨ j = 1 ∨ j = 2 ∨ j = 3 := by have : j < 4 := hj; omega
    intro T
    rcases hj' with rfl | rfl | rfl | rfl
    · rw [← (Option.some.inj he : D.non = e)]; rfl
    · rw [← (Option.some.inj he : due k = e)]; rfl
    · rw [← (Option.some.inj he : D.bl true = e)]; rfl
    · rw [← (Option.some.inj he : D.tup [k.x, k.y] = e)]; rfl
  have hc : (C 9).call 32 [Ip one, Ip other, e] (St cs a2 g2 c2 f2 R) = some (.bl false, St cs a2 g2 c2 f2 (R ++ [Ob.ins k.c [(k.g1, k.x), (k.g2, k.y)]])) := by
    rw [cC]; exact q32 t hk (.inl ⟨rfl, rfl⟩)
  have e5 := ev_tr (ev_isnotB (w := false) (ev_call3 (ev_v (i := 3) rfl) rfl (ev_v (i := 4) rfl) rfl e3 rfl hc)) (z := false) rfl
  exact ⟨a2, g2, c2, f2, _, ex_ifF e5 rfl, k3, k4⟩
end
end K56
end

section
set_option maxHeartbeats 0
set_option Elab.async false
set_option linter.all false
set_option maxRecDepth 1000000
/-! printed by gen56.py -/
namespace K56
open PySem L2 Co
def rows0 : List (List Int × List Int) := [([-2, -2, 1], [6, 12, -2, -4, 1]), ([-2, -2, -1], [-2, -4, -6, -4, -1]), ([-2, -2, 2], [10, 20, -12, -16, 8]), ([-2, -1, 1], [4, 5, -4, -2, 1]), ([-2, -1, -1], [-4, -3, -4, -2, -1])]
theorem rows0_ok : rows0.all tRow = true := by kernel_rfl
def rows1 : List (List Int × List Int) := [([-2, -1, 2], [8, 9, -16, -8, 8]), ([-2, 0, 1], [2, 0, -4, 0, 1]), ([-2, 0, -1], [-6, 0, -4, 0, -1]), ([-2, 0, 2], [6, 0, -16, 0, 8]), ([-2, 1, 1], [0, -3, -2, 2, 1])]
theorem rows1_ok : rows1.all tRow = true := by kernel_rfl
def rows2 : List (List Int × List Int) := [([-2, 1, -1], [-8, 5, -6, 2, -1]), ([-2, 1, 2], [4, -7, -12, 8, 8]), ([-2, 2, 1], [-2, -4, 2, 4, 1]), ([-2, 2, -1], [-10, 12, -10, 4, -1]), ([-2, 2, 2], [2, -12, -4, 16, 8])]
theorem rows2_ok : rows2.all tRow = true := by kernel_rfl
def rows3 : List (List Int × List Int) := [([-1, -2, 1], [2, 8, 0, -4, 1]), ([-1, -2, -1], [0, 0, -4, -4, -1]), ([-1, -2, 2], [3, 12, -4, -16, 8]), ([-1, -1, 1], [1, 3, -2, -2, 1]), ([-1, -1, -1], [-1, -1, -2, -2, -1])]
theorem rows3_ok : rows3.all tRow = true := by kernel_rfl
def rows4 : List (List Int × List Int) := [([-1, -1, 2], [2, 5, -8, -8, 8]), ([-1, 0, 1], [0, 0, -2, 0, 1]), ([-1, 0, -1], [-2, 0, -2, 0, -1]), ([-1, 0, 2], [1, 0, -8, 0, 8]), ([-1, 1, 1], [-1, -1, 0, 2, 1])]
theorem rows4_ok : rows4.all tRow = true := by kernel_rfl
def rows5 : List (List Int × List Int) := [([-1, 1, -1], [-3, 3, -4, 2, -1]), ([-1, 1, 2], [0, -3, -4, 8, 8]), ([-1, 2, 1], [-2, 0, 4, 4, 1]), ([-1, 2, -1], [-4, 8, -8, 4, -1]), ([-1, 2, 2], [-1, -4, 4, 16, 8])]
theorem rows5_ok : rows5.all tRow = true := by kernel_rfl
def rows6 : List (List Int × List Int) := [([0, -2, 1], [0, 4, 2, -4, 1]), ([0, -2, -1], [0, 4, -2, -4, -1]), ([0, -2, 2], [0, 4, 4, -16, 8]), ([0, -1, 1], [0, 1, 0, -2, 1]), ([0, -1, -1], [0, 1, 0, -2, -1])]
theorem rows6_ok : rows6.all tRow = true := by kernel_rfl
def rows7 : List (List Int × List Int) := [([0, -1, 2], [0, 1, 0, -8, 8]), ([0, 0, 1], [0, 0, 0, 0, 1]), ([0, 0, -1], [0, 0, 0, 0, -1]), ([0, 0, 2], [0, 0, 0, 0, 8]), ([0, 1, 1], [0, 1, 2, 2, 1])]
theorem rows7_ok : rows7.all tRow = true := by kernel_rfl
def rows8 : List (List Int × List Int) := [([0, 1, -1], [0, 1, -2, 2, -1]), ([0, 1, 2], [0, 1, 4, 8, 8]), ([0, 2, 1], [0, 4, 6, 4, 1]), ([0, 2, -1], [0, 4, -6, 4, -1]), ([0, 2, 2], [0, 4, 12, 16, 8])]
theorem rows8_ok : rows8.all tRow = true := by kernel_rfl
def rows9 : List (List Int × List Int) := [([1, -2, 1], [0, 0, 4, -4, 1]), ([1, -2, -1], [-2, 8, 0, -4, -1]), ([1, -2, 2], [1, -4, 12, -16, 8]), ([1, -1, 1], [1, -1, 2, -2, 1]), ([1, -1, -1], [-1, 3, 2, -2, -1])]
theorem rows9_ok : rows9.all tRow = true := by kernel_rfl
def rows10 : List (List Int × List Int) := [([1, -1, 2], [2, -3, 8, -8, 8]), ([1, 0, 1], [2, 0, 2, 0, 1]), ([1, 0, -1], [0, 0, 2, 0, -1]), ([1, 0, 2], [3, 0, 8, 0, 8]), ([1, 1, 1], [3, 3, 4, 2, 1])]
theorem rows10_ok : rows10.all tRow = true := by kernel_rfl
def rows11 : List (List Int × List Int) := [([1, 1, -1], [1, -1, 0, 2, -1]), ([1, 1, 2], [4, 5, 12, 8, 8]), ([1, 2, 1], [4, 8, 8, 4, 1]), ([1, 2, -1], [2, 0, -4, 4, -1]), ([1, 2, 2], [5, 12, 20, 16, 8])]
theorem rows11_ok : rows11.all tRow = true := by kernel_rfl
def rows12 : List (List Int × List Int) := [([2, -2, 1], [2, -4, 6, -4, 1]), ([2, -2, -1], [-6, 12, 2, -4, -1]), ([2, -2, 2], [6, -12, 20, -16, 8]), ([2, -1, 1], [4, -3, 4, -2, 1]), ([2, -1, -1], [-4, 5, 4, -2, -1])]
theorem rows12_ok : rows12.all tRow = true := by kernel_rfl
def rows13 : List (List Int × List Int) := [([2, -1, 2], [8, -7, 16, -8, 8]), ([2, 0, 1], [6, 0, 4, 0, 1]), ([2, 0, -1], [-2, 0, 4, 0, -1]), ([2, 0, 2], [10, 0, 16, 0, 8]), ([2, 1, 1], [8, 5, 6, 2, 1])]
theorem rows13_ok : rows13.all tRow = true := by kernel_rfl
def rows14 : List (List Int × List Int) := [([2, 1, -1], [0, -3, 2, 2, -1]), ([2, 1, 2], [12, 9, 20, 8, 8]), ([2, 2, 1], [10, 12, 10, 4, 1]), ([2, 2, -1], [2, -4, -2, 4, -1]), ([2, 2, 2], [14, 20, 28, 16, 8])]
theorem rows14_ok : rows14.all tRow = true := by kernel_rfl
end K56
end

section
set_option maxHeartbeats 0
set_option Elab.async false
set_option linter.all false
set_option maxRecDepth 1000000
/-! printed by gen56.py -/
namespace K56
open PySem L2 Co
noncomputable def tOth (r : List Int) : Bool := match r with
  | [a, b, h] => isSh (run 31 [Ip [a, b, h], Ip [a + 1, b, h]]) 1 "why" "place" (.str "numbers") (.int 0) && isSh (run 31 [Ip [a, b, h], Ip [a, b + 1, h]]) 1 "why" "place" (.str "numbers") (.int 1)
  | _ => false
def odds : List (List Int) := [[0, 1, 0, 1], [0, 1, 0, -1], [0, 1, 0, 2], [0, -2, 0, 1], [0, -2, 0, -1], [0, -2, 0, 2], [0, 3, 0, 1], [0, 3, 0, -1], [0, 3, 0, 2]]
noncomputable def tDeg (r : List Int) : Bool := odds.all fun o => isSh (run 31 [Ip r, Ip o]) 1 "why" "place" (.str "degrees") (.int 0)
def rt0 : List (List Int) := [[-2, -2, 1], [-2, -2, -1], [-2, -2, 2], [-2, -1, 1], [-2, -1, -1]]
theorem oth0_ok : rt0.all tOth = true := by kernel_rfl
theorem deg0_ok : rt0.all tDeg = true := by kernel_rfl
def rt1 : List (List Int) := [[-2, -1, 2], [-2, 0, 1], [-2, 0, -1], [-2, 0, 2], [-2, 1, 1]]
theorem oth1_ok : rt1.all tOth = true := by kernel_rfl
theorem deg1_ok : rt1.all tDeg = true := by kernel_rfl
def rt2 : List (List Int) := [[-2, 1, -1], [-2, 1, 2], [-2, 2, 1], [-2, 2, -1], [-2, 2, 2]]
theorem oth2_ok : rt2.all tOth = true := by kernel_rfl
theorem deg2_ok : rt2.all tDeg = true := by kernel_rfl
def rt3 : List (List Int) := [[-1, -2, 1], [-1, -2, -1], [-1, -2, 2], [-1, -1, 1], [-1, -1, -1]]
theorem oth3_ok : rt3.all tOth = true := by kernel_rfl
theorem deg3_ok : rt3.all tDeg = true := by kernel_rfl
def rt4 : List (List Int) := [[-1, -1, 2], [-1, 0, 1], [-1, 0, -1], [-1, 0, 2], [-1, 1, 1]]
theorem oth4_ok : rt4.all tOth = true := by kernel_rfl
theorem deg4_ok : rt4.all tDeg = true := by kernel_rfl
def rt5 : List (List Int) := [[-1, 1, -1], [-1, 1, 2], [-1, 2, 1], [-1, 2, -1], [-1, 2, 2]]
theorem oth5_ok : rt5.all tOth = true := by kernel_rfl
theorem deg5_ok : rt5.all tDeg = true := by kernel_rfl
def rt6 : List (List Int) := [[0, -2, 1], [0, -2, -1], [0, -2, 2], [0, -1, 1], [0, -1, -1]]
theorem oth6_ok : rt6.all tOth = true := by kernel_rfl
theorem deg6_ok : rt6.all tDeg = true := by kernel_rfl
def rt7 : List (List Int) := [[0, -1, 2], [0, 0, 1], [0, 0, -1], [0, 0, 2], [0, 1, 1]]
theorem oth7_ok : rt7.all tOth = true := by kernel_rfl
theorem deg7_ok : rt7.all tDeg = true := by kernel_rfl
def rt8 : List (List Int) := [[0, 1, -1], [0, 1, 2], [0, 2, 1], [0, 2, -1], [0, 2, 2]]
theorem oth8_ok : rt8.all tOth = true := by kernel_rfl
theorem deg8_ok : rt8.all tDeg = true := by kernel_rfl
def rt9 : List (List Int) := [[1, -2, 1], [1, -2, -1], [1, -2, 2], [1, -1, 1], [1, -1, -1]]
theorem oth9_ok : rt9.all tOth = true := by kernel_rfl
theorem deg9_ok : rt9.all tDeg = true := by kernel_rfl
def rt10 : List (List Int) := [[1, -1, 2], [1, 0, 1], [1, 0, -1], [1, 0, 2], [1, 1, 1]]
theorem oth10_ok : rt10.all tOth = true := by kernel_rfl
theorem deg10_ok : rt10.all tDeg = true := by kernel_rfl
def rt11 : List (List Int) := [[1, 1, -1], [1, 1, 2], [1, 2, 1], [1, 2, -1], [1, 2, 2]]
theorem oth11_ok : rt11.all tOth = true := by kernel_rfl
theorem deg11_ok : rt11.all tDeg = true := by kernel_rfl
def rt12 : List (List Int) := [[2, -2, 1], [2, -2, -1], [2, -2, 2], [2, -1, 1], [2, -1, -1]]
theorem oth12_ok : rt12.all tOth = true := by kernel_rfl
theorem deg12_ok : rt12.all tDeg = true := by kernel_rfl
def rt13 : List (List Int) := [[2, -1, 2], [2, 0, 1], [2, 0, -1], [2, 0, 2], [2, 1, 1]]
theorem oth13_ok : rt13.all tOth = true := by kernel_rfl
theorem deg13_ok : rt13.all tDeg = true := by kernel_rfl
def rt14 : List (List Int) := [[2, 1, -1], [2, 1, 2], [2, 2, 1], [2, 2, -1], [2, 2, 2]]
theorem oth14_ok : rt14.all tOth = true := by kernel_rfl
theorem deg14_ok : rt14.all tDeg = true := by kernel_rfl
end K56
end

section
set_option maxHeartbeats 0
set_option Elab.async false
set_option linter.all false
set_option maxRecDepth 1000000
/-! printed by gen56.py -/
namespace K56
open PySem L2 Co
structure OddR where
  o : List Int
  q : List Int
  no : List Int
  nq : List Int
noncomputable def tOdd (r : OddR) : Bool := isTup (run 48 [Ip r.o, .int 2]) r.q && (isTup (run 47 [Ip r.o, .int (-1)]) r.no && (isTup (run 47 [Ip r.q, .int (-1)]) r.nq && (isSh (run 31 [Ip r.o, Ip r.no]) 0 "m" "n" (.int 2) (.int 2) && isSh (run 31 [Ip r.o, Ip r.nq]) 0 "m" "n" (.int 4) (.int 2))))
def od0 : OddR := ⟨[0, 1, 0, 1], [0, 1, 0, 2, 0, 3, 0, 3, 0, 1], [0, -1, 0, -1], [0, -1, 0, -2, 0, -3, 0, -3, 0, -1]⟩
theorem od0_ok : tOdd od0 = true := by kernel_rfl
def od1 : OddR := ⟨[0, 1, 0, -1], [0, 1, 0, -2, 0, 3, 0, -3, 0, 1], [0, -1, 0, 1], [0, -1, 0, 2, 0, -3, 0, 3, 0, -1]⟩
theorem od1_ok : tOdd od1 = true := by kernel_rfl
def od2 : OddR := ⟨[0, 1, 0, 2], [0, 1, 0, 4, 0, 12, 0, 24, 0, 16], [0, -1, 0, -2], [0, -1, 0, -4, 0, -12, 0, -24, 0, -16]⟩
theorem od2_ok : tOdd od2 = true := by kernel_rfl
def od3 : OddR := ⟨[0, -2, 0, 1], [0, 4, 0, -10, 0, 12, 0, -6, 0, 1], [0, 2, 0, -1], [0, -4, 0, 10, 0, -12, 0, 6, 0, -1]⟩
theorem od3_ok : tOdd od3 = true := by kernel_rfl
def od4 : OddR := ⟨[0, -2, 0, -1], [0, 4, 0, 10, 0, 12, 0, 6, 0, 1], [0, 2, 0, 1], [0, -4, 0, -10, 0, -12, 0, -6, 0, -1]⟩
theorem od4_ok : tOdd od4 = true := by kernel_rfl
def od5 : OddR := ⟨[0, -2, 0, 2], [0, 4, 0, -20, 0, 48, 0, -48, 0, 16], [0, 2, 0, -2], [0, -4, 0, 20, 0, -48, 0, 48, 0, -16]⟩
theorem od5_ok : tOdd od5 = true := by kernel_rfl
def od6 : OddR := ⟨[0, 3, 0, 1], [0, 9, 0, 30, 0, 27, 0, 9, 0, 1], [0, -3, 0, -1], [0, -9, 0, -30, 0, -27, 0, -9, 0, -1]⟩
theorem od6_ok : tOdd od6 = true := by kernel_rfl
def od7 : OddR := ⟨[0, 3, 0, -1], [0, 9, 0, -30, 0, 27, 0, -9, 0, 1], [0, -3, 0, 1], [0, -9, 0, 30, 0, -27, 0, 9, 0, -1]⟩
theorem od7_ok : tOdd od7 = true := by kernel_rfl
def od8 : OddR := ⟨[0, 3, 0, 2], [0, 9, 0, 60, 0, 108, 0, 72, 0, 16], [0, -3, 0, -2], [0, -9, 0, -60, 0, -108, 0, -72, 0, -16]⟩
theorem od8_ok : tOdd od8 = true := by kernel_rfl
end K56
end

section
set_option maxHeartbeats 0
set_option Elab.async false
set_option linter.all false
set_option maxRecDepth 100000
/-! K56q: the pair that the law draws. -/
namespace K56
open PySem L2 Co
/-! ### all small ones -/
def vrows : Nat → List (List Int)
  | 0 => [[]]
  | d + 1 => ([-2, -1, 0, 1, 2] : List Int).flatMap fun v => (vrows d).map (v :: ·)
theorem mem_vrows : ∀ (vs : List Int), (∀ v ∈ vs, -2 ≤ v ∧ v ≤ 2) → vs ∈ vrows vs.length
  | [], _ => by simp [vrows]
  | v :: vs, h => by
    show v :: vs ∈ ([-2, -1, 0, 1, 2] : List Int).flatMap fun v => (vrows vs.length).map (v :: ·)
    rw [List.mem_flatMap]
    have hv := h v (by simp)
    refine ⟨v, ?_, List.mem_map.mpr ⟨vs, mem_vrows vs (fun w hw => h w (by simp [hw])), rfl⟩⟩
    have : v = -2 ∨ v = -1 ∨ v = 0 ∨ v = 1 ∨ v = 2 := by omega
    rcases this with rfl | rfl | rfl | rfl | rfl <;> simp
def smalls : List (List Int) := (vrows 2).flatMap fun vs => ([1, -1, 2] : List Int).map fun h => vs ++ [h]
theorem mem_smalls {vs : List Int} {h : Int} (hl : vs.length = 2) (hv : ∀ v ∈ vs, -2 ≤ v ∧ v ≤ 2) (hh : h = 1 ∨ h = -1 ∨ h = 2) : vs ++ [h] ∈ smalls := by
  unfold smalls
  rw [List.mem_flatMap]
  refine ⟨vs, by rw [← hl]; exact mem_vrows vs hv, List.mem_map.mpr ⟨h, ?_, rfl⟩⟩
  rcases hh with rfl | rfl | rfl <;> simp
def rowsA : List (List Int × List Int) := rows0 ++ (rows1 ++ (rows2 ++ (rows3 ++ (rows4 ++ (rows5 ++ (rows6 ++ (rows7 ++ (rows8 ++ (rows9 ++ (rows10 ++ (rows11 ++ (rows12 ++ (rows13 ++ rows14)))))))))))))
def rtA : List (List Int) := rt0 ++ (rt1 ++ (rt2 ++ (rt3 ++ (rt4 ++ (rt5 ++ (rt6 ++ (rt7 ++ (rt8 ++ (rt9 ++ (rt10 ++ (rt11 ++ (rt12 ++ (rt13 ++ rt14)))))))))))))
theorem rowsA_ok : rowsA.all tRow = true := by
  unfold rowsA
  simp only [List.all_append, rows0_ok, rows1_ok, rows2_ok, rows3_ok, rows4_ok, rows5_ok, rows6_ok, rows7_ok, rows8_ok, rows9_ok, rows10_ok, rows11_ok, rows12_ok, rows13_ok, rows14_ok, Bool.and_self]
theorem rtA_oth : rtA.all tOth = true := by
  unfold rtA
  simp only [List.all_append, oth0_ok, oth1_ok, oth2_ok, oth3_ok, oth4_ok, oth5_ok, oth6_ok, oth7_ok, oth8_ok, oth9_ok, oth10_ok, oth11_ok, oth12_ok, oth13_ok, oth14_ok, Bool.and_self]
theorem rtA_deg : rtA.all tDeg = true := by
  unfold rtA
  simp only [List.all_append, deg0_ok, deg1_ok, deg2_ok, deg3_ok, deg4_ok, deg5_ok, deg6_ok, deg7_ok, deg8_ok, deg9_ok, deg10_ok, deg11_ok, deg12_ok, deg13_ok, deg14_ok, Bool.and_self]
theorem rows_eq : rowsA.map (·.1) = smalls := by decide +kernel
theorem rt_eq : rtA = smalls := by decide +kernel
/-- what is known of a root -/
structure RootF (r q : List Int) : Prop where
  more : ∀ S, callN L.prg 8 48 [Ip r, .int 2] S = some (Ip q, S)
  t21 : ShIs r q 0 "m" "n" (.int 2) (.int 1)
  t12 : ShIs q r 0 "m" "n" (.int 1) (.int 2)
  t11 : ShIs r r 0 "m" "n" (.int 1) (.int 1)
  ex : ∃ a b h, r = [a, b, h] ∧ (-2 ≤ a ∧ a ≤ 2) ∧ (-2 ≤ b ∧ b ≤ 2) ∧ ShIs r [a + 1, b, h] 1 "why" "place" (.str "numbers") (.int 0) ∧ ShIs r [a, b + 1, h] 1 "why" "place" (.str "numbers") (.int 1)
  deg : ∀ o ∈ odds, ShIs r o 1 "why" "place" (.str "degrees") (.int 0)
theorem root_ok {vs : List Int} {h : Int} (hl : vs.length = 2) (hv : ∀ v ∈ vs, -2 ≤ v ∧ v ≤ 2) (hh : h = 1 ∨ h = -1 ∨ h = 2) : ∃ q, RootF (vs ++ [h]) q := by
  have hm := mem_smalls hl hv hh
  obtain ⟨a, b, rfl⟩ : ∃ a b, vs = [a, b] := by
    match vs, hl with
    | [a, b], _ => exact ⟨a, b, rfl⟩
  have e0 : [a, b] ++ [h] = [a, b, h] := rfl
  rw [e0] at hm ⊢
  have h1 : [a, b, h] ∈ rowsA.map (·.1) := by rw [rows_eq]; exact hm
  obtain ⟨⟨r, q⟩, hr, e⟩ := List.mem_map.mp h1
  have e : r = [a, b, h] := e
  subst e
  have ht := List.all_eq_true.mp rowsA_ok _ hr
  have h2 : [a, b, h] ∈ rtA := by rw [rt_eq]; exact hm
  have ho := List.all_eq_true.mp rtA_oth _ h2
  have hd := List.all_eq_true.mp rtA_deg _ h2
  unfold tRow at ht
  simp only [Bool.and_eq_true] at ht
  obtain ⟨m1, m2, m3, m4⟩ := ht
  unfold tOth at ho
  simp only [Bool.and_eq_true] at ho
  unfold tDeg at hd
  exact ⟨q, {
    more := tup_ok (fun k => by simp only [List.map_cons, List.map_nil, upI]; rfl) m1
    t21 := isSh_ok m2
    t12 := isSh_ok m3
    t11 := isSh_ok m4
    ex := ⟨a, b, h, rfl, hv a (by simp), hv b (by simp), isSh_ok ho.1, isSh_ok ho.2⟩
    deg := fun o hh => isSh_ok (List.all_eq_true.mp hd o hh) }⟩
/-- .. of an odd one -/
structure OddF (r : OddR) : Prop where
  mem : r.o ∈ odds
  more : ∀ S, callN L.prg 8 48 [Ip r.o, .int 2] S = some (Ip r.q, S)
  neg : ∀ S, callN L.prg 8 47 [Ip r.o, .int (-1)] S = some (Ip r.no, S)
  nneg : ∀ S, callN L.prg 8 47 [Ip r.q, .int (-1)] S = some (Ip r.nq, S)
  t22 : ShIs r.o r.no 0 "m" "n" (.int 2) (.int 2)
  t42 : ShIs r.o r.nq 0 "m" "n" (.int 4) (.int 2)
theorem odd_of {r : OddR} (hm : r.o ∈ odds) (h : tOdd r = true) : OddF r := by
  unfold tOdd at h
  simp only [Bool.and_eq_true] at h
  obtain ⟨m1, m2, m3, m4, m5⟩ := h
  exact ⟨hm, tup_ok (fun k => by simp only [List.map_cons, List.map_nil, upI]; rfl) m1, tup_ok (fun k => by simp only [List.map_cons, List.map_nil, upI]; rfl) m2, tup_ok (fun k => by simp only [List.map_cons, List.map_nil, upI]; rfl) m3, isSh_ok m4, isSh_ok m5⟩
theorem odd_ok {a b : Int} (ha : a = 1 ∨ a = -2 ∨ a = 3) (hb : b = 1 ∨ b = -1 ∨ b = 2) : ∃ r, r.o = [0, a, 0, b] ∧ OddF r := by
  rcases ha with rfl | rfl | rfl <;> rcases hb with rfl | rfl | rfl
  · exact ⟨od0, rfl, odd_of (by decide +kernel) od0_ok⟩
  · exact ⟨od1, rfl, odd_of (by decide +kernel) od1_ok⟩
  · exact ⟨od2, rfl, odd_of (by decide +kernel) od2_ok⟩
  · exact ⟨od3, rfl, odd_of (by decide +kernel) od3_ok⟩
  · exact ⟨od4, rfl, odd_of (by decide +kernel) od4_ok⟩
  · exact ⟨od5, rfl, odd_of (by decide +kernel) od5_ok⟩
  · exact ⟨od6, rfl, odd_of (by decide +kernel) od6_ok⟩
  · exact ⟨od7, rfl, odd_of (by decide +kernel) od7_ok⟩
  · exact ⟨od8, rfl, odd_of (by decide +kernel) od8_ok⟩
/-! ### a small sum -/
def isN (o : Option (D × Store)) (i : Int) : Bool := match o with
  | some (.int j, []) => eqZ j i
  | _ => false
theorem plus_all : (([-2, -1, 0, 1, 2] : List Int).all fun v => isN (run 41 [.int v, .int 1]) (v + 1)) = true := by kernel_rfl
theorem plus_ok {v : Int} (h : -2 ≤ v ∧ v ≤ 2) (S : Store) : callN L.prg 8 41 [.int v, .int 1] S = some (.int (v + 1), S) := by
  have hm : v ∈ ([-2, -1, 0, 1, 2] : List Int) := by
    have : v = -2 ∨ v = -1 ∨ v = 0 ∨ v = 1 ∨ v = 2 := by omega
    rcases this with rfl | rfl | rfl | rfl | rfl <;> simp
  have t := List.all_eq_true.mp plus_all v hm
  simp only [isN] at t
  split at t
  · rename_i j e
    rw [eqZ_eq, decide_eq_true_eq] at t
    subst t
    rw [run_upG pure e (fun k => rfl) S]
    simp [D.up]
  · cases t
section
variable {cs : List Int} {a g c f : Int} {R : Store}
abbrev elB : Co.CE := .bin .sub (.call 34 (.cons (.var 0) (.cons (.const (.int (5))) .nil))) (.const (.int (2)))
abbrev heads : Co.CE := .lst (.cons (.const (.int (1))) (.cons (.const (.int (1))) (.cons (.neg (.const (.int (1)))) (.cons (.const (.int (2))) .nil))))
theorem q49 {n : Nat} (ha : 0 ≤ a) (hg : 0 ≤ g) : ∃ (vs : List Int) (h : Int) (a' g' c' f' : Int), callN L.prg (n + 3) 49 [.obj 0, .int 2] (St cs a g c f R) = some (Ip (vs ++ [h]), St cs a' g' c' f' R) ∧ vs.length = 2 ∧ (∀ v ∈ vs, -2 ≤ v ∧ v ≤ 2) ∧ (h = 1 ∨ h = -1 ∨ h = 2) ∧ 0 ≤ a' ∧ 0 ≤ g' := by
  obtain ⟨vs, a1, g1, c1, f1, e1, v1, v2, h1, h2⟩ := lc_draw (n := n + 1) (d := 2) (cs := cs) (R := R) (F := lcF (C (n + 2)) (.nm 2) [2] .yes elB [.val (.obj 0), .val (.int 2), .non]) (fun x S => rfl) ((List.range 2).map fun k : Nat => D.int (k : Int)) [] a g c f ha hg (by simp)
  have el : evE (C (n + 2)) (.lc (.nm 2) [2] (.rng1 (.var 1)) .yes elB) [.val (.obj 0), .val (.int 2), .non] (St cs a g c f R) = some (.fr (vs.map D.int), St cs a1 g1 c1 f1 R) := by
    have ei : evI (C (n + 2)) false (.rng1 (.var 1)) [.val (.obj 0), .val (.int 2), .non] (St cs a g c f R) = some ((List.range 2).map fun k : Nat => D.int (k : Int), St cs a g c f R) := by
      simp only [evI, evE, List.getElem?_cons_zero, List.getElem?_cons_succ]; rw [if_pos (by decide)]; rfl
    rw [evE, ei]
    show (match lcGo (lcF (C (n + 2)) (.nm 2) [2] .yes elB [.val (.obj 0), .val (.int 2), .non]) ((List.range 2).map fun k : Nat => D.int (k : Int)) [] (St cs a g c f R) with | some (r, S2) => some (Rv.fr r, S2) | none => none) = _
    rw [e1]
    rfl
  have et : evE (C (n + 2)) (.bi .tuple (.lc (.nm 2) [2] (.rng1 (.var 1)) .yes elB)) [.val (.obj 0), .val (.int 2), .non] (St cs a g c f R) = some (.fz (Ip vs), St cs a1 g1 c1 f1 R) := by
    rw [evE, el]; rfl
  obtain ⟨j, e, a2, g2, c2, f2, e2, hj, he, h3, h4⟩ := pick_ev (n := n) (cs := cs) (a := a1) (g := g1) (c := c1) (f := f1) (R := R) (l := [.int 1, .int 1, .int (-1), .int 2]) rfl (by decide) (by decide) h1 h2
  have z4 : ([D.int 1, D.int 1, D.int (-1), D.int 2] : List D).length ≤ sizeLine := sz100 (show 4 ≤ 1000 by decide)
  have eh : evE (C (n + 2)) heads [.val (.obj 0), .val (.int 2), .non] (St cs a1 g1 c1 f1 R) = some (.fr [.int 1, .int 1, .int (-1), .int 2], St cs a1 g1 c1 f1 R) := by
    simp only [evE, evA, Rv.d]; rw [if_pos z4]
  have hc : (C (n + 2)).call 35 [.obj 0, .lst [.int 1, .int 1, .int (-1), .int 2]] (St cs a1 g1 c1 f1 R) = some (e, St cs a2 g2 c2 f2 R) := by rw [cC]; exact e2
  have ep := ev_call2 (i := 35) (ev_v (c := C (n + 2)) (i := 0) (σ := [.val (.obj 0), .val (.int 2), .non]) (S := St cs a1 g1 c1 f1 R) rfl) rfl eh rfl hc
  obtain ⟨h, rfl, hh⟩ : ∃ h : Int, e = .int h ∧ (h = 1 ∨ h = -1 ∨ h = 2) := by
    have hj' : j = 0 ∨ j = 1 ∨ j = 2 ∨ j = 3 := by have : j < 4 := hj; omega
    rcases hj' with rfl | rfl | rfl | rfl <;> cases he
    · exact ⟨1, rfl, .inl rfl⟩
    · exact ⟨1, rfl, .inl rfl⟩
    · exact ⟨-1, rfl, .inr (.inl rfl)⟩
    · exact ⟨2, rfl, .inr (.inr rfl)⟩
  have z1 : ([D.int h] : List D).length ≤ sizeLine := sz100 (show 1 ≤ 1000 by decide)
  have eu : evE (C (n + 2)) (.tup (.cons (.call 35 (.cons (.var 0) (.cons heads .nil))) .nil)) [.val (.obj 0), .val (.int 2), .non] (St cs a1 g1 c1 f1 R) = some (.fz (.tup [.int h]), St cs a2 g2 c2 f2 R) := by
    rw [evE, evA, ep]
    simp only [Rv.d, evA]
    rw [if_pos z1]
  have hv : vs.length = 2 := by rw [v1]; simp
  have zz : (vs.map D.int).length + ([D.int h] : List D).length ≤ sizeLine := sz100 (by simp; omega)
  have eb : evE (C (n + 2)) (.bin .add (.bi .tuple (.lc (.nm 2) [2] (.rng1 (.var 1)) .yes elB)) (.tup (.cons (.call 35 (.cons (.var 0) (.cons heads .nil))) .nil))) [.val (.obj 0), .val (.int 2), .non] (St cs a g c f R) = some (.fz (Ip (vs ++ [h])), St cs a2 g2 c2 f2 R) := by
    rw [evE, et]
    simp only [eu, binR]
    rw [if_pos zz]
    simp
  exact ⟨vs, h, a2, g2, c2, f2, call_ret (d := d49) rfl rfl (st_ret (fz := [0, 0]) (r := .nil) (σ := [.val (.obj 0), .val (.int 2), .non]) rfl (ex_ret eb rfl)), hv, v2, hh, h3, h4⟩
/-- a number of three, drawn -/
theorem pick3 {σ : Co.Env} (h : σ[0]? = some (.val (.obj 0))) (ha : 0 ≤ a) (hg : 0 ≤ g) {x y z : Int} {e : Co.CE} (he : ∀ S, evE (C 8) e σ S = some (.fr [.int x, .int y, .int z], S)) :
    ∃ (r a' g' c' f' : Int), evE (C 8) (.call 35 (.cons (.var 0) (.cons e .nil))) σ (St cs a g c f R) = some (.fz (.int r), St cs a' g' c' f' R) ∧ (r = x ∨ r = y ∨ r = z) ∧ 0 ≤ a' ∧ 0 ≤ g' := by
  obtain ⟨j, d, a2, g2, c2, f2, e2, hj, hd, h3, h4⟩ := pick_ev (n := 6) (cs := cs) (a := a) (g := g) (c := c) (f := f) (R := R) (l := [.int x, .int y, .int z]) rfl (by simp) (by simp) ha hg
  have hc : (C 8).call 35 [.obj 0, .lst [.int x, .int y, .int z]] (St cs a g c f R) = some (d, St cs a2 g2 c2 f2 R) := by rw [cC]; exact e2
  have ep := ev_call2 (i := 35) (ev_v (c := C 8) (i := 0) (σ := σ) (S := St cs a g c f R) h) rfl (he _) rfl hc
  have hj' : j = 0 ∨ j = 1 ∨ j = 2 := by have : j < 3 := hj; omega
  rcases hj' with rfl | rfl | rfl <;> cases hd
  · exact ⟨x, a2, g2, c2, f2, ep, .inl rfl, h3, h4⟩
  · exact ⟨y, a2, g2, c2, f2, ep, .inr (.inl rfl), h3, h4⟩
  · exact ⟨z, a2, g2, c2, f2, ep, .inr (.inr rfl), h3, h4⟩
end
end K56
end

section
set_option maxHeartbeats 0
set_option Elab.async false
set_option linter.all false
set_option maxRecDepth 100000
/-! K56r: the pair that the law draws, with what is due. -/
namespace K56
open PySem L2 Co
section
variable {cx : Co.Ctx} {σ : Co.Env} {S : Store}
theorem ev_tup3 {e1 e2 e3 : Co.CE} {x y z : Rv} {a b d : D} (h1 : evE cx e1 σ S = some (x, S)) (hx : x.d = some a) (h2 : evE cx e2 σ S = some (y, S)) (hy : y.d = some b) (h3 : evE cx e3 σ S = some (z, S)) (hz : z.d = some d) :
    evE cx (.tup (.cons e1 (.cons e2 (.cons e3 .nil)))) σ S = some (.fz (.tup [a, b, d]), S) := by
  have zz : ([a, b, d] : List D).length ≤ sizeLine := sz100 (show 3 ≤ 1000 by decide)
  simp only [evE, evA, h1, hx, h2, hy, h3, hz]
  rw [if_pos zz]
theorem ev_lst3 {e1 e2 e3 : Co.CE} {x y z : Rv} {a b d : D} (h1 : evE cx e1 σ S = some (x, S)) (hx : x.d = some a) (h2 : evE cx e2 σ S = some (y, S)) (hy : y.d = some b) (h3 : evE cx e3 σ S = some (z, S)) (hz : z.d = some d) :
    evE cx (.lst (.cons e1 (.cons e2 (.cons e3 .nil)))) σ S = some (.fr [a, b, d], S) := by
  have zz : ([a, b, d] : List D).length ≤ sizeLine := sz100 (show 3 ≤ 1000 by decide)
  simp only [evE, evA, h1, hx, h2, hy, h3, hz]
  rw [if_pos zz]
theorem ev_lst2 {e1 e2 : Co.CE} {x y : Rv} {a b : D} (h1 : evE cx e1 σ S = some (x, S)) (hx : x.d = some a) (h2 : evE cx e2 σ S = some (y, S)) (hy : y.d = some b) :
    evE cx (.lst (.cons e1 (.cons e2 .nil))) σ S = some (.fr [a, b], S) := by
  have zz : ([a, b] : List D).length ≤ sizeLine := sz100 (show 2 ≤ 1000 by decide)
  simp only [evE, evA, h1, hx, h2, hy]
  rw [if_pos zz]
theorem c_s {s : Str} : evE cx (.const (.str s)) σ S = some (.fz (.str s), S) := by rw [evE]
theorem c_z {i : Int} : evE cx (.const (.int i)) σ S = some (.fz (.int i), S) := by rw [evE]
theorem ex_ext {e : Co.CE} {i : Nat} {S1 : Store} {x : Rv} {xs ds : List D} (h : evE cx e σ S = some (x, S1)) (hx : x.tseq = some xs) (hd : ownAt σ i = some ds) (hz : ds.length + xs.length ≤ 1000) : exS cx (.ext i e) σ S = some (.nx (σ.set i (.own (ds ++ xs))) S1) := by
  simp only [exS, h, hx, hd]
  rw [if_pos (sz100 hz)]
theorem ex_app {e : Co.CE} {i : Nat} {S1 : Store} {x : Rv} {d : D} {ds : List D} (h : evE cx e σ S = some (x, S1)) (hx : x.d = some d) (hd : ownAt σ i = some ds) (hz : ds.length < 1000) : exS cx (.app i e) σ S = some (.nx (σ.set i (.own (ds ++ [d]))) S1) := by
  simp only [exS, h, hx, hd]
  rw [if_pos (Nat.lt_of_lt_of_le hz (by decide))]
theorem addT {e1 e2 : Co.CE} {xs ys : List D} (h1 : evE cx e1 σ S = some (.fz (.tup xs), S)) (h2 : evE cx e2 σ S = some (.fz (.tup ys), S)) (hz : xs.length + ys.length ≤ 1000) : evE cx (.bin .add e1 e2) σ S = some (.fz (.tup (xs ++ ys)), S) := by
  rw [evE, h1]
  simp only [h2, binR]
  rw [if_pos (sz100 hz)]
end
abbrev e18 : Co.CE := .tup (.cons (.const (.int (0))) (.cons (.call 35 (.cons (.var 0) (.cons (.lst (.cons (.const (.int (1))) (.cons (.neg (.const (.int (2)))) (.cons (.const (.int (3))) .nil)))) .nil))) (.cons (.const (.int (0))) (.cons (.call 35 (.cons (.var 0) (.cons (.lst (.cons (.const (.int (1))) (.cons (.neg (.const (.int (1)))) (.cons (.const (.int (2))) .nil)))) .nil))) .nil))))
abbrev tg (s : Str) (i j : Int) : Co.CE := .tup (.cons (.const (.str s)) (.cons (.const (.int i)) (.cons (.const (.int j)) .nil)))
abbrev l3E : Co.CE := .lst (.cons (.tup (.cons (.var 1) (.cons (.call 48 (.cons (.var 1) (.cons (.const (.int (2))) .nil))) (.cons (tg "shared" 2 1) .nil)))) (.cons (.tup (.cons (.call 48 (.cons (.var 1) (.cons (.const (.int (2))) .nil))) (.cons (.var 1) (.cons (tg "shared" 1 2) .nil)))) (.cons (.tup (.cons (.var 1) (.cons (.var 1) (.cons (tg "shared" 1 1) .nil)))) .nil)))
abbrev l2E : Co.CE := .lst (.cons (.tup (.cons (.var 2) (.cons (.call 47 (.cons (.var 2) (.cons (.neg (.const (.int (1)))) .nil))) (.cons (tg "shared" 2 2) .nil)))) (.cons (.tup (.cons (.var 2) (.cons (.call 47 (.cons (.call 48 (.cons (.var 2) (.cons (.const (.int (2))) .nil))) (.cons (.neg (.const (.int (1)))) .nil))) (.cons (tg "shared" 4 2) .nil)))) .nil))
abbrev otE : Co.CE := .bin .add (.bin .add (.slH (.var 1) (.var 4)) (.tup (.cons (.call 41 (.cons (.idx (.var 1) (.var 4)) (.cons (.const (.int (1))) .nil))) .nil))) (.slL (.var 1) (.bin .add (.var 4) (.const (.int (1)))))
abbrev ap1 : Co.CE := .tup (.cons (.var 1) (.cons (.var 5) (.cons (.tup (.cons (.const (.str "unshared")) (.cons (.const (.str "numbers")) (.cons (.var 4) .nil)))) .nil)))
abbrev ap2 : Co.CE := .tup (.cons (.var 1) (.cons (.var 2) (.cons (.tup (.cons (.const (.str "unshared")) (.cons (.const (.str "degrees")) (.cons (.const (.int (0))) .nil)))) .nil)))
abbrev kT (one other : List Int) (k : Kind) : D := .tup [Ip one, Ip other, due k]
def kd (i : Nat) : Kind := (kinds[i]?).getD ⟨0, "", "", "", .non, .non⟩
section
variable {cs : List Int} {a g c f : Int} {R : Store}
/-- .. the seven -/
def seven (r q o no nq ot : List Int) (j : Nat) : List D := [kT r q (kd 0), kT q r (kd 1), kT r r (kd 2), kT o no (kd 3), kT o nq (kd 4), kT r ot (kd (5 + j)), kT r o (kd 7)]
theorem oth_ev {S : Store} {ra rb rh : Int} {j : Nat} {x2 x3 x5 : Co.Slot} (hj : j = 0 ∨ j = 1) (b1 : -2 ≤ ra ∧ ra ≤ 2) (b2 : -2 ≤ rb ∧ rb ≤ 2) :
    evE (C 8) otE [.val (.obj 0), .val (Ip [ra, rb, rh]), x2, x3, .val (.int (j : Int)), x5] S = some (.fz (Ip (if j = 0 then [ra + 1, rb, rh] else [ra, rb + 1, rh])), S) := by
  have v1 : evE (C 8) (.var 1) [.val (.obj 0), .val (Ip [ra, rb, rh]), x2, x3, .val (.int (j : Int)), x5] S = some (.fz (Ip [ra, rb, rh]), S) := ev_v rfl
  have v4 : evE (C 8) (.var 4) [.val (.obj 0), .val (Ip [ra, rb, rh]), x2, x3, .val (.int (j : Int)), x5] S = some (.fz (.int (j : Int)), S) := ev_v rfl
  have v5 : evE (C 8) (.bin .add (.var 4) (.const (.int (1)))) [.val (.obj 0), .val (Ip [ra, rb, rh]), x2, x3, .val (.int (j : Int)), x5] S = some (.fz (.int ((j : Int) + 1)), S) := bin_i v4 c_i (op := .add) rfl
  have z1 : ∀ d : D, ([d] : List D).length ≤ sizeLine := fun d => sz100 (show 1 ≤ 1000 by decide)
  rcases hj with rfl | rfl
  · have h1 : evE (C 8) (.slH (.var 1) (.var 4)) [.val (.obj 0), .val (Ip [ra, rb, rh]), x2, x3, .val (.int ((0 : Nat) : Int)), x5] S = some (.fz (.tup []), S) := by
      rw [evE, v1]; simp only [v4]; rfl
    have h2 : evE (C 8) (.idx (.var 1) (.var 4)) [.val (.obj 0), .val (Ip [ra, rb, rh]), x2, x3, .val (.int ((0 : Nat) : Int)), x5] S = some (.fz (.int ra), S) := by
      rw [evE, v1]; simp only [v4]; rfl
    have h3 := ev_call2 (i := 41) h2 rfl (c_z (i := 1)) rfl (show (C 8).call 41 _ S = _ by rw [cC]; exact plus_ok b1 S)
    have h4 : evE (C 8) (.tup (.cons (.call 41 (.cons (.idx (.var 1) (.var 4)) (.cons (.const (.int (1))) .nil))) .nil)) [.val (.obj 0), .val (Ip [ra, rb, rh]), x2, x3, .val (.int ((0 : Nat) : Int)), x5] S = some (.fz (.tup [.int (ra + 1)]), S) := by
      rw [evE, evA, h3]; simp only [Rv.d, evA]; rw [if_pos (z1 _)]
    have h5 : evE (C 8) (.slL (.var 1) (.bin .add (.var 4) (.const (.int (1))))) [.val (.obj 0), .val (Ip [ra, rb, rh]), x2, x3, .val (.int ((0 : Nat) : Int)), x5] S = some (.fz (.tup [.int rb, .int rh]), S) := by
      rw [evE, v1]; simp only [v5]; rfl
    exact addT (addT h1 h4 (by simp)) h5 (by simp)
  · have h1 : evE (C 8) (.slH (.var 1) (.var 4)) [.val (.obj 0), .val (Ip [ra, rb, rh]), x2, x3, .val (.int ((1 : Nat) : Int)), x5] S = some (.fz (.tup [.int ra]), S) := by
      rw [evE, v1]; simp only [v4]; rfl
    have h2 : evE (C 8) (.idx (.var 1) (.var 4)) [.val (.obj 0), .val (Ip [ra, rb, rh]), x2, x3, .val (.int ((1 : Nat) : Int)), x5] S = some (.fz (.int rb), S) := by
      rw [evE, v1]; simp only [v4]; rfl
    have h3 := ev_call2 (i := 41) h2 rfl (c_z (i := 1)) rfl (show (C 8).call 41 _ S = _ by rw [cC]; exact plus_ok b2 S)
    have h4 : evE (C 8) (.tup (.cons (.call 41 (.cons (.idx (.var 1) (.var 4)) (.cons (.const (.int (1))) .nil))) .nil)) [.val (.obj 0), .val (Ip [ra, rb, rh]), x2, x3, .val (.int ((1 : Nat) : Int)), x5] S = some (.fz (.tup [.int (rb + 1)]), S) := by
      rw [evE, evA, h3]; simp only [Rv.d, evA]; rw [if_pos (z1 _)]
    have h5 : evE (C 8) (.slL (.var 1) (.bin .add (.var 4) (.const (.int (1))))) [.val (.obj 0), .val (Ip [ra, rb, rh]), x2, x3, .val (.int ((1 : Nat) : Int)), x5] S = some (.fz (.tup [.int rh]), S) := by
      rw [evE, v1]; simp only [v5]; rfl
    exact addT (addT h1 h4 (by simp)) h5 (by simp)
theorem q50 (ha : 0 ≤ a) (hg : 0 ≤ g) : ∃ (one other : List Int) (k : Kind) (a' g' c' f' : Int), callN L.prg 9 50 [.obj 0] (St cs a g c f R) = some (kT one other k, St cs a' g' c' f' R) ∧ Tri one other k ∧ 0 ≤ a' ∧ 0 ≤ g' := by
  obtain ⟨vs, h, a1, g1, c1, f1, e1, l1, w1, hh, p1, p2⟩ := q49 (n := 5) (cs := cs) (c := c) (f := f) (R := R) ha hg
  obtain ⟨q, F⟩ := root_ok l1 w1 hh
  generalize vs ++ [h] = r at e1 F
  have hc1 : (C 8).call 49 [.obj 0, .int 2] (St cs a g c f R) = some (Ip r, St cs a1 g1 c1 f1 R) := by rw [cC]; exact e1
  have u1 := ex_set (i := 1) (σ := [.val (.obj 0), .non, .non, .non, .non, .non]) (σ' := [.val (.obj 0), .val (Ip r), .non, .non, .non, .non]) (ev_call2 (i := 49) (ev_v (i := 0) rfl) rfl (c_z (i := 2)) rfl hc1) rfl
  -- the odd one
  have z3 : ∀ x y z : D, ([x, y, z] : List D).length ≤ sizeLine := fun x y z => sz100 (show 3 ≤ 1000 by decide)
  have z4 : ∀ x y z w : D, ([x, y, z, w] : List D).length ≤ sizeLine := fun x y z w => sz100 (show 4 ≤ 1000 by decide)
  obtain ⟨y1, a2, g2, c2, f2, e2, o1, p3, p4⟩ := pick3 (σ := [.val (.obj 0), .val (Ip r), .non, .non, .non, .non]) (cs := cs) (c := c1) (f := f1) (R := R) (x := 1) (y := -2) (z := 3) (e := .lst (.cons (.const (.int (1))) (.cons (.neg (.const (.int (2)))) (.cons (.const (.int (3))) .nil)))) rfl p1 p2 (fun S => by simp only [evE, evA, Rv.d]; rw [if_pos (z3 _ _ _)])
  obtain ⟨y2, a3, g3, c3, f3, e3, o2, p5, p6⟩ := pick3 (σ := [.val (.obj 0), .val (Ip r), .non, .non, .non, .non]) (cs := cs) (c := c2) (f := f2) (R := R) (x := 1) (y := -1) (z := 2) (e := .lst (.cons (.const (.int (1))) (.cons (.neg (.const (.int (1)))) (.cons (.const (.int (2))) .nil)))) rfl p3 p4 (fun S => by simp only [evE, evA, Rv.d]; rw [if_pos (z3 _ _ _)])
  obtain ⟨⟨o, oq, no, nq⟩, eo, O⟩ := odd_ok o1 o2
  have eo : o = [0, y1, 0, y2] := eo
  have e4 : evE (C 8) e18 [.val (.obj 0), .val (Ip r), .non, .non, .non, .non] (St cs a1 g1 c1 f1 R) = some (.fz (Ip o), St cs a3 g3 c3 f3 R) := by
    rw [eo, evE]
    have k0 : ∀ S, evE (C 8) (.const (.int (0))) [.val (.obj 0), .val (Ip r), .non, .non, .non, .non] S = some (.fz (.int 0), S) := fun S => c_z
    simp only [evA, e2, e3, k0, Rv.d]
    rw [if_pos (z4 _ _ _ _)]
    rfl
  have u2 := ex_set (i := 2) (σ' := [.val (.obj 0), .val (Ip r), .val (Ip o), .non, .non, .non]) e4 rfl
  -- the first three
  have m48 : ∀ S, evE (C 8) (.call 48 (.cons (.var 1) (.cons (.const (.int (2))) .nil))) [.val (.obj 0), .val (Ip r), .val (Ip o), .non, .non, .non] S = some (.fz (Ip q), S) := fun S => ev_call2 (i := 48) (ev_v (i := 1) rfl) rfl (c_z (i := 2)) rfl (by rw [cC]; exact F.more S)
  have v1 : ∀ S, evE (C 8) (.var 1) [.val (.obj 0), .val (Ip r), .val (Ip o), .non, .non, .non] S = some (.fz (Ip r), S) := fun S => ev_v rfl
  have tg3 : ∀ (σ : Co.Env) (S : Store) (s : Str) (i j : Int), evE (C 8) (tg s i j) σ S = some (.fz (.tup [.str s, .int i, .int j]), S) := fun σ S s i j => ev_tup3 c_s rfl c_z rfl c_z rfl
  have e5 : evE (C 8) l3E [.val (.obj 0), .val (Ip r), .val (Ip o), .non, .non, .non] (St cs a3 g3 c3 f3 R) = some (.fr [kT r q (kd 0), kT q r (kd 1), kT r r (kd 2)], St cs a3 g3 c3 f3 R) :=
    ev_lst3 (ev_tup3 (v1 _) rfl (m48 _) rfl (tg3 _ _ _ _ _) rfl) rfl (ev_tup3 (m48 _) rfl (v1 _) rfl (tg3 _ _ _ _ _) rfl) rfl (ev_tup3 (v1 _) rfl (v1 _) rfl (tg3 _ _ _ _ _) rfl) rfl
  have u3 := ex_set (i := 3) (σ' := [.val (.obj 0), .val (Ip r), .val (Ip o), .own [kT r q (kd 0), kT q r (kd 1), kT r r (kd 2)], .non, .non]) e5 rfl
  -- two more
  have v2 : ∀ S, evE (C 8) (.var 2) [.val (.obj 0), .val (Ip r), .val (Ip o), .own [kT r q (kd 0), kT q r (kd 1), kT r r (kd 2)], .non, .non] S = some (.fz (Ip o), S) := fun S => ev_v rfl
  have n1 : ∀ S, evE (C 8) (.neg (.const (.int (1)))) [.val (.obj 0), .val (Ip r), .val (Ip o), .own [kT r q (kd 0), kT q r (kd 1), kT r r (kd 2)], .non, .non] S = some (.fz (.int (-1)), S) := fun S => by simp only [evE]
  have m47 : ∀ S, evE (C 8) (.call 47 (.cons (.var 2) (.cons (.neg (.const (.int (1)))) .nil))) [.val (.obj 0), .val (Ip r), .val (Ip o), .own [kT r q (kd 0), kT q r (kd 1), kT r r (kd 2)], .non, .non] S = some (.fz (Ip no), S) := fun S => ev_call2 (i := 47) (v2 _) rfl (n1 _) rfl (by rw [cC]; exact O.neg S)
  have m4o : ∀ S, evE (C 8) (.call 48 (.cons (.var 2) (.cons (.const (.int (2))) .nil))) [.val (.obj 0), .val (Ip r), .val (Ip o), .own [kT r q (kd 0), kT q r (kd 1), kT r r (kd 2)], .non, .non] S = some (.fz (Ip oq), S) := fun S => ev_call2 (i := 48) (v2 _) rfl (c_z (i := 2)) rfl (by rw [cC]; exact O.more S)
  have m4n : ∀ S, evE (C 8) (.call 47 (.cons (.call 48 (.cons (.var 2) (.cons (.const (.int (2))) .nil))) (.cons (.neg (.const (.int (1)))) .nil))) [.val (.obj 0), .val (Ip r), .val (Ip o), .own [kT r q (kd 0), kT q r (kd 1), kT r r (kd 2)], .non, .non] S = some (.fz (Ip nq), S) := fun S => ev_call2 (i := 47) (m4o _) rfl (n1 _) rfl (by rw [cC]; exact O.nneg S)
  have e6 : evE (C 8) l2E [.val (.obj 0), .val (Ip r), .val (Ip o), .own [kT r q (kd 0), kT q r (kd 1), kT r r (kd 2)], .non, .non] (St cs a3 g3 c3 f3 R) = some (.fr [kT o no (kd 3), kT o nq (kd 4)], St cs a3 g3 c3 f3 R) :=
    ev_lst2 (ev_tup3 (v2 _) rfl (m47 _) rfl (tg3 _ _ _ _ _) rfl) rfl (ev_tup3 (v2 _) rfl (m4n _) rfl (tg3 _ _ _ _ _) rfl) rfl
  have u4 := ex_ext (i := 3) (ds := [kT r q (kd 0), kT q r (kd 1), kT r r (kd 2)]) e6 rfl rfl (by simp)
  have u4 : exS (C 8) (.ext 3 l2E) [.val (.obj 0), .val (Ip r), .val (Ip o), .own [kT r q (kd 0), kT q r (kd 1), kT r r (kd 2)], .non, .non] (St cs a3 g3 c3 f3 R) = some (.nx [.val (.obj 0), .val (Ip r), .val (Ip o), .own [kT r q (kd 0), kT q r (kd 1), kT r r (kd 2), kT o no (kd 3), kT o nq (kd 4)], .non, .non] (St cs a3 g3 c3 f3 R)) := u4
  -- a place
  obtain ⟨t, a4, g4, c4, f4, e7, t1, t2, p7, p8⟩ := q34 (n := 7) (cs := cs) (a := a3) (g := g3) (c := c3) (f := f3) (R := R) (m := 2) p5 p6 (by decide) (by decide +kernel)
  obtain ⟨j, rfl, hj⟩ : ∃ j : Nat, t = (j : Int) ∧ (j = 0 ∨ j = 1) := ⟨t.toNat, by omega, by omega⟩
  have hc7 : (C 8).call 34 [.obj 0, .int 2] (St cs a3 g3 c3 f3 R) = some (.int (j : Int), St cs a4 g4 c4 f4 R) := by rw [cC]; exact e7
  have u5 := ex_set (i := 4) (σ := [.val (.obj 0), .val (Ip r), .val (Ip o), .own [kT r q (kd 0), kT q r (kd 1), kT r r (kd 2), kT o no (kd 3), kT o nq (kd 4)], .non, .non]) (σ' := [.val (.obj 0), .val (Ip r), .val (Ip o), .own [kT r q (kd 0), kT q r (kd 1), kT r r (kd 2), kT o no (kd 3), kT o nq (kd 4)], .val (.int (j : Int)), .non]) (ev_call2 (i := 34) (ev_v (i := 0) rfl) rfl (c_z (i := 2)) rfl hc7) rfl
  obtain ⟨ra, rb, rh, er, b1, b2, s0, s1⟩ := F.ex
  have hot : ∃ ot, evE (C 8) otE [.val (.obj 0), .val (Ip r), .val (Ip o), .own [kT r q (kd 0), kT q r (kd 1), kT r r (kd 2), kT o no (kd 3), kT o nq (kd 4)], .val (.int (j : Int)), .non] (St cs a4 g4 c4 f4 R) = some (.fz (Ip ot), St cs a4 g4 c4 f4 R) ∧ Tri r ot (kd (5 + j)) ∧ (kd (5 + j)).tag = "unshared" ∧ (kd (5 + j)).x = .str "numbers" ∧ (kd (5 + j)).y = .int (j : Int) := by
    refine ⟨if j = 0 then [ra + 1, rb, rh] else [ra, rb + 1, rh], ?_, ?_⟩
    · rw [er]; exact oth_ev hj b1 b2
    · rcases hj with rfl | rfl
      · exact ⟨⟨by simp [kd, kinds], s0⟩, rfl, rfl, rfl⟩
      · exact ⟨⟨by simp [kd, kinds], s1⟩, rfl, rfl, rfl⟩
  obtain ⟨ot, e8, T5, h51, h52, h53⟩ := hot
  have u6 := ex_set (i := 5) (σ' := [.val (.obj 0), .val (Ip r), .val (Ip o), .own [kT r q (kd 0), kT q r (kd 1), kT r r (kd 2), kT o no (kd 3), kT o nq (kd 4)], .val (.int (j : Int)), .val (Ip ot)]) e8 rfl
  have e9 : evE (C 8) ap1 [.val (.obj 0), .val (Ip r), .val (Ip o), .own [kT r q (kd 0), kT q r (kd 1), kT r r (kd 2), kT o no (kd 3), kT o nq (kd 4)], .val (.int (j : Int)), .val (Ip ot)] (St cs a4 g4 c4 f4 R) = some (.fz (kT r ot (kd (5 + j))), St cs a4 g4 c4 f4 R) := by
    show _ = some (Rv.fz (D.tup [Ip r, Ip ot, D.tup [D.str (kd (5 + j)).tag, (kd (5 + j)).x, (kd (5 + j)).y]]), _)
    rw [h51, h52, h53]
    exact ev_tup3 (ev_v (i := 1) rfl) rfl (ev_v (i := 5) rfl) rfl (ev_tup3 c_s rfl c_s rfl (ev_v (i := 4) rfl) rfl) rfl
  have u7 := ex_app (i := 3) (ds := [kT r q (kd 0), kT q r (kd 1), kT r r (kd 2), kT o no (kd 3), kT o nq (kd 4)]) e9 rfl rfl (by simp)
  have u7 : exS (C 8) (.app 3 ap1) [.val (.obj 0), .val (Ip r), .val (Ip o), .own [kT r q (kd 0), kT q r (kd 1), kT r r (kd 2), kT o no (kd 3), kT o nq (kd 4)], .val (.int (j : Int)), .val (Ip ot)] (St cs a4 g4 c4 f4 R) = some (.nx [.val (.obj 0), .val (Ip r), .val (Ip o), .own [kT r q (kd 0), kT q r (kd 1), kT r r (kd 2), kT o no (kd 3), kT o nq (kd 4), kT r ot (kd (5 + j))], .val (.int (j : Int)), .val (Ip ot)] (St cs a4 g4 c4 f4 R)) := u7
  have e10 : evE (C 8) ap2 [.val (.obj 0), .val (Ip r), .val (Ip o), .own [kT r q (kd 0), kT q r (kd 1), kT r r (kd 2), kT o no (kd 3), kT o nq (kd 4), kT r ot (kd (5 + j))], .val (.int (j : Int)), .val (Ip ot)] (St cs a4 g4 c4 f4 R) = some (.fz (kT r o (kd 7)), St cs a4 g4 c4 f4 R) :=
    ev_tup3 (ev_v (i := 1) rfl) rfl (ev_v (i := 2) rfl) rfl (ev_tup3 c_s rfl c_s rfl c_z rfl) rfl
  have u8 := ex_app (i := 3) (ds := [kT r q (kd 0), kT q r (kd 1), kT r r (kd 2), kT o no (kd 3), kT o nq (kd 4), kT r ot (kd (5 + j))]) e10 rfl rfl (by simp)
  have u8 : exS (C 8) (.app 3 ap2) [.val (.obj 0), .val (Ip r), .val (Ip o), .own [kT r q (kd 0), kT q r (kd 1), kT r r (kd 2), kT o no (kd 3), kT o nq (kd 4), kT r ot (kd (5 + j))], .val (.int (j : Int)), .val (Ip ot)] (St cs a4 g4 c4 f4 R) = some (.nx [.val (.obj 0), .val (Ip r), .val (Ip o), .own (seven r q o no nq ot j), .val (.int (j : Int)), .val (Ip ot)] (St cs a4 g4 c4 f4 R)) := u8
  obtain ⟨i, d, a5, g5, c5, f5, e11, hi, hd, p9, p10⟩ := pick_ev (n := 6) (cs := cs) (c := c4) (f := f4) (R := R) (l := seven r q o no nq ot j) rfl (by simp [seven]) (by simp [seven]) p7 p8
  have hc11 : (C 8).call 35 [.obj 0, .lst (seven r q o no nq ot j)] (St cs a4 g4 c4 f4 R) = some (d, St cs a5 g5 c5 f5 R) := by rw [cC]; exact e11
  have u9 := ex_ret (ev_call2 (i := 35) (σ := [.val (.obj 0), .val (Ip r), .val (Ip o), .val (.lst (seven r q o no nq ot j)), .val (.int (j : Int)), .val (Ip ot)]) (ev_v (i := 0) rfl) rfl (ev_v (i := 3) rfl) rfl hc11) rfl
  have w9 := st_ret (fz := [0, 3]) (r := .nil) (σ := [.val (.obj 0), .val (Ip r), .val (Ip o), .own (seven r q o no nq ot j), .val (.int (j : Int)), .val (Ip ot)]) rfl u9
  have w8 := (st_nx (fz := [1, 2]) (σ := [.val (.obj 0), .val (Ip r), .val (Ip o), .own [kT r q (kd 0), kT q r (kd 1), kT r r (kd 2), kT o no (kd 3), kT o nq (kd 4), kT r ot (kd (5 + j))], .val (.int (j : Int)), .val (Ip ot)]) rfl u8).trans w9
  have w7 := (st_nx (fz := [1, 5, 4]) (σ := [.val (.obj 0), .val (Ip r), .val (Ip o), .own [kT r q (kd 0), kT q r (kd 1), kT r r (kd 2), kT o no (kd 3), kT o nq (kd 4)], .val (.int (j : Int)), .val (Ip ot)]) rfl u7).trans w8
  have w6 := (st_nx (fz := []) (σ := [.val (.obj 0), .val (Ip r), .val (Ip o), .own [kT r q (kd 0), kT q r (kd 1), kT r r (kd 2), kT o no (kd 3), kT o nq (kd 4)], .val (.int (j : Int)), .non]) rfl u6).trans w7
  have w5 := (st_nx (fz := [0]) (σ := [.val (.obj 0), .val (Ip r), .val (Ip o), .own [kT r q (kd 0), kT q r (kd 1), kT r r (kd 2), kT o no (kd 3), kT o nq (kd 4)], .non, .non]) rfl u5).trans w6
  have w4 := (st_nx (fz := [2, 2, 2, 2]) (σ := [.val (.obj 0), .val (Ip r), .val (Ip o), .own [kT r q (kd 0), kT q r (kd 1), kT r r (kd 2)], .non, .non]) rfl u4).trans w5
  have w3 := (st_nx (fz := [1, 1, 1, 1, 1, 1]) (σ := [.val (.obj 0), .val (Ip r), .val (Ip o), .non, .non, .non]) rfl u3).trans w4
  have w2 := (st_nx (fz := [0, 0]) (σ := [.val (.obj 0), .val (Ip r), .non, .non, .non, .non]) rfl u2).trans w3
  have w1 := (st_nx (fz := [0]) (σ := [.val (.obj 0), .non, .non, .non, .non, .non]) rfl u1).trans w2
  have fin : ∃ one other k, d = kT one other k ∧ Tri one other k := by
    have hi' : i = 0 ∨ i = 1 ∨ i = 2 ∨ i = 3 ∨ i = 4 ∨ i = 5 ∨ i = 6 := by have : i < 7 := hi; omega
    rcases hi' with rfl | rfl | rfl | rfl | rfl | rfl | rfl
    · exact ⟨r, q, kd 0, (Option.some.inj hd).symm, by simp [kd, kinds], F.t21⟩
    · exact ⟨q, r, kd 1, (Option.some.inj hd).symm, by simp [kd, kinds], F.t12⟩
    · exact ⟨r, r, kd 2, (Option.some.inj hd).symm, by simp [kd, kinds], F.t11⟩
    · exact ⟨o, no, kd 3, (Option.some.inj hd).symm, by simp [kd, kinds], O.t22⟩
    · exact ⟨o, nq, kd 4, (Option.some.inj hd).symm, by simp [kd, kinds], O.t42⟩
    · exact ⟨r, ot, kd (5 + j), (Option.some.inj hd).symm, T5⟩
    · exact ⟨r, o, kd 7, (Option.some.inj hd).symm, by simp [kd, kinds], F.deg o O.mem⟩
  obtain ⟨one, other, k, rfl, T⟩ := fin
  exact ⟨one, other, k, a5, g5, c5, f5, call_ret (n := 8) (d := d50) rfl rfl w1, T, p9, p10⟩
end
end K56
end

section
set_option maxHeartbeats 0
set_option Elab.async false
set_option linter.all false
set_option maxRecDepth 100000
/-! K56m: the law's body. -/
namespace K56
open PySem L2 Co
theorem ex_setP {cx : Co.Ctx} {p : Pat} {e : Co.CE} {σ σ' : Co.Env} {S S1 : Store} {x : Rv} {d : D} (h : evE cx e σ S = some (x, S1)) (hx : x.d = some d) (ha : p.asg d σ = some σ') : exS cx (.setP p e) σ S = some (.nx σ' S1) := by simp only [exS, h, hx, ha]
theorem ev_orF {cx : Co.Ctx} {t u : CT} {σ : Co.Env} {S S1 : Store} {o : Option (Bool × Store)} (h : evT cx t σ S = some (false, S1)) (k : evT cx u σ S1 = o) : evT cx (.or t u) σ S = o := by rw [evT, h]; exact k
theorem ev_isB {c : Co.Ctx} {e : Co.CE} {σ : Co.Env} {S S1 : Store} {z w : Bool} (h : evE c e σ S = some (.fz (.bl z), S1)) : evE c (.cmp .is e (.const (.bl w))) σ S = some (.fz (.bl (z == w)), S1) := by
  refine ev_cmp h (y := .fz (.bl w)) (S2 := S1) (by rw [evE]) ?_
  simp only [cmpS, neIns, Bool.false_eq_true, if_false, cmpR, isBl]
abbrev A0 : CA := (.cons (.tup (.cons (.const (.int (1))) (.cons (.const (.int (1))) .nil))) (.cons (.tup (.cons (.const (.int (2))) (.cons (.const (.int (1))) .nil))) (.cons (.tup (.cons (.const (.int (1))) (.cons (.const (.int (2))) .nil))) (.cons (.tup (.cons (.const (.int (2))) (.cons (.const (.int (2))) .nil))) (.cons (.tup (.cons (.const (.int (4))) (.cons (.const (.int (2))) .nil))) (.cons (.tup (.cons (.const (.int (2))) (.cons (.const (.int (4))) .nil))) (.cons (.tup (.cons (.const (.int (3))) (.cons (.const (.int (3))) .nil))) (.cons (.tup (.cons (.const .non) (.cons (.const (.int (1))) .nil))) (.cons (.tup (.cons (.const (.bl true)) (.cons (.const (.int (1))) .nil))) (.cons (.tup (.cons (.const (.int (1))) (.cons (.const (.str "1")) .nil))) (.cons (.tup (.cons (.const (.int (0))) (.cons (.const (.int (0))) .nil))) (.cons (.tup (.cons (.tup (.cons (.const (.int (1))) .nil)) (.cons (.const (.int (1))) .nil))) .nil))))))))))))
abbrev A1 : CA := (.cons (.tup (.cons (.const (.str "degrees")) (.cons (.const (.int (0))) .nil))) (.cons (.tup (.cons (.const (.str "numbers")) (.cons (.const (.int (0))) .nil))) (.cons (.tup (.cons (.const (.str "numbers")) (.cons (.const (.int (1))) .nil))) (.cons (.tup (.cons (.const (.str "numbers")) (.cons (.const (.int (2))) .nil))) (.cons (.tup (.cons (.const (.str "degrees")) (.cons (.const (.int (1))) .nil))) (.cons (.tup (.cons (.const (.str "numbers")) (.cons (.const (.bl true)) .nil))) (.cons (.tup (.cons (.const (.str "numbers")) (.cons (.const .non) .nil))) (.cons (.tup (.cons (.const .non) (.cons (.const (.int (0))) .nil))) (.cons (.tup (.cons (.const (.str "Degrees")) (.cons (.const (.int (0))) .nil))) .nil)))))))))
theorem A0_ev {σ : Co.Env} {S : Store} : evI (C 9) true (.seq (.tup A0)) σ S = some (prs0.map fun p => D.tup [p.1, p.2], S) := by
  have z1 : ∀ a : D, ([a] : List D).length ≤ sizeLine := fun a => sz100 (show 1 ≤ 1000 by decide)
  have z2 : ∀ a b : D, ([a, b] : List D).length ≤ sizeLine := fun a b => sz100 (show 2 ≤ 1000 by decide)
  have eA : evA (C 9) A0 σ S = some (prs0.map fun p => D.tup [p.1, p.2], S) := by
    simp only [evA, evE, Rv.d, z1, z2, ↓reduceIte]
    rfl
  have zz : (prs0.map fun p => D.tup [p.1, p.2]).length ≤ sizeLine := sz100 (show 12 ≤ 1000 by decide)
  rw [evI, evE, eA]
  simp only
  rw [if_pos zz]
  rfl
theorem A1_ev {σ : Co.Env} {S : Store} : evI (C 9) true (.seq (.tup A1)) σ S = some (prs1.map fun p => D.tup [p.1, p.2], S) := by
  have z2 : ∀ a b : D, ([a, b] : List D).length ≤ sizeLine := fun a b => sz100 (show 2 ≤ 1000 by decide)
  have eA : evA (C 9) A1 σ S = some (prs1.map fun p => D.tup [p.1, p.2], S) := by
    simp only [evA, evE, Rv.d, z2, ↓reduceIte]
    rfl
  have zz : (prs1.map fun p => D.tup [p.1, p.2]).length ≤ sizeLine := sz100 (show 9 ≤ 1000 by decide)
  rw [evI, evE, eA]
  simp only
  rw [if_pos zz]
  rfl
section
variable {cs : List Int} {a g c f : Int} {R : Store} {x0 x2 x3 x4 x5 x6 x7 x8 x9 : Co.Slot}
abbrev knS : CS := .setP (.tcons (.nm 3) (.tcons (.nm 4) (.tcons (.nm 5) .tnil))) (.call 50 (.cons (.var 1) .nil))
abbrev lapB : CB := .cons [1] knS (.cons [] (.for (.tcons (.nm 6) (.tcons (.nm 7) .tnil)) (.seq (.tup A0)) B0) (.cons [] (.for (.tcons (.nm 8) (.tcons (.nm 9) .tnil)) (.seq (.tup A1)) B1) (.cons [3, 4, 1, 5] wrS .nil)))
theorem lap_ev {d : D} (ha : 0 ≤ a) (hg : 0 ≤ g) : ∃ (y3 y4 y5 y6 y7 y8 y9 : Co.Slot) (a' g' c' f' : Int) (T : Store),
    loopF 9 (.nm 2) lapB d [x0, .val (.obj 0), x2, x3, x4, x5, x6, x7, x8, x9] (St cs a g c f R) = some (.nx [x0, .val (.obj 0), .val d, y3, y4, y5, y6, y7, y8, y9] (St cs a' g' c' f' T)) ∧ 0 ≤ a' ∧ 0 ≤ g' := by
  have ea : (Pat.nm 2).asg d [x0, .val (.obj 0), x2, x3, x4, x5, x6, x7, x8, x9] = some [x0, .val (.obj 0), .val d, x3, x4, x5, x6, x7, x8, x9] := rfl
  obtain ⟨one, other, k, a1, g1, c1, f1, e1, t, h1, h2⟩ := q50 (cs := cs) (c := c) (f := f) (R := R) ha hg
  have hc : (C 9).call 50 [.obj 0] (St cs a g c f R) = some (kT one other k, St cs a1 g1 c1 f1 R) := by rw [cC]; exact e1
  have u1 := ex_setP (p := .tcons (.nm 3) (.tcons (.nm 4) (.tcons (.nm 5) .tnil))) (σ := [x0, .val (.obj 0), .val d, x3, x4, x5, x6, x7, x8, x9]) (σ' := [x0, .val (.obj 0), .val d, .val (Ip one), .val (Ip other), .val (due k), x6, x7, x8, x9]) (ev_call1 (i := 50) (ev_v (i := 1) rfl) rfl hc) rfl rfl
  obtain ⟨y6, y7, T1, e2⟩ := for0 (x0 := x0) (x1 := .val (.obj 0)) (x2 := .val d) (x8 := x8) (x9 := x9) t prs0 x6 x7 (St cs a1 g1 c1 f1 R) (fun p h => h)
  have u2 : exS (C 9) (.for (.tcons (.nm 6) (.tcons (.nm 7) .tnil)) (.seq (.tup A0)) B0) [x0, .val (.obj 0), .val d, .val (Ip one), .val (Ip other), .val (due k), x6, x7, x8, x9] (St cs a1 g1 c1 f1 R) = some (.nx [x0, .val (.obj 0), .val d, .val (Ip one), .val (Ip other), .val (due k), y6, y7, x8, x9] (St cs a1 g1 c1 f1 (R ++ T1))) := for_of A0_ev e2
  obtain ⟨y8, y9, T2, e3⟩ := for1 (x0 := x0) (x1 := .val (.obj 0)) (x2 := .val d) (x6 := y6) (x7 := y7) t prs1 x8 x9 (St cs a1 g1 c1 f1 (R ++ T1)) (fun p h => h)
  have u3 : exS (C 9) (.for (.tcons (.nm 8) (.tcons (.nm 9) .tnil)) (.seq (.tup A1)) B1) [x0, .val (.obj 0), .val d, .val (Ip one), .val (Ip other), .val (due k), y6, y7, x8, x9] (St cs a1 g1 c1 f1 (R ++ T1)) = some (.nx [x0, .val (.obj 0), .val d, .val (Ip one), .val (Ip other), .val (due k), y6, y7, y8, y9] (St cs a1 g1 c1 f1 (R ++ T1 ++ T2))) := for_of A1_ev e3
  obtain ⟨a2, g2, c2, f2, T3, u4, h3, h4⟩ := wr_ev (cs := cs) (c := c1) (f := f1) (R := R ++ T1 ++ T2) (x0 := x0) (x2 := .val d) (x6 := y6) (x7 := y7) (x8 := y8) (x9 := y9) t h1 h2
  have v4 := (st_nx (fz := [3, 4, 1, 5]) (r := .nil) (σ := [x0, .val (.obj 0), .val d, .val (Ip one), .val (Ip other), .val (due k), y6, y7, y8, y9]) rfl u4).trans (show exB (C 9) .nil _ _ = some (.nx _ _) from rfl)
  have v3 := (st_nx (fz := []) (σ := [x0, .val (.obj 0), .val d, .val (Ip one), .val (Ip other), .val (due k), y6, y7, x8, x9]) rfl u3).trans v4
  have v2 := (st_nx (fz := []) (σ := [x0, .val (.obj 0), .val d, .val (Ip one), .val (Ip other), .val (due k), x6, x7, x8, x9]) rfl u2).trans v3
  have v1 := (st_nx (fz := [1]) (σ := [x0, .val (.obj 0), .val d, x3, x4, x5, x6, x7, x8, x9]) rfl u1).trans v2
  refine ⟨.val (Ip one), .val (Ip other), .val (due k), y6, y7, y8, y9, a2, g2, c2, f2, R ++ T1 ++ T2 ++ T3, ?_, h3, h4⟩
  simp only [loopF, ea]
  exact v1
theorem laps : ∀ (ds : List D) (x2 x3 x4 x5 x6 x7 x8 x9 : Co.Slot) (a g c f : Int) (R : Store), 0 ≤ a → 0 ≤ g → ∃ (y2 y3 y4 y5 y6 y7 y8 y9 : Co.Slot) (S : Store),
    forGo (loopF 9 (.nm 2) lapB) ds [x0, .val (.obj 0), x2, x3, x4, x5, x6, x7, x8, x9] (St cs a g c f R) = some (.nx [x0, .val (.obj 0), y2, y3, y4, y5, y6, y7, y8, y9] S)
  | [], x2, x3, x4, x5, x6, x7, x8, x9, a, g, c, f, R, _, _ => ⟨_, _, _, _, _, _, _, _, _, rfl⟩
  | d :: ds, x2, x3, x4, x5, x6, x7, x8, x9, a, g, c, f, R, ha, hg => by
    obtain ⟨y3, y4, y5, y6, y7, y8, y9, a1, g1, c1, f1, T, e1, h1, h2⟩ := lap_ev (d := d) (cs := cs) (c := c) (f := f) (R := R) (x0 := x0) (x2 := x2) (x3 := x3) (x4 := x4) (x5 := x5) (x6 := x6) (x7 := x7) (x8 := x8) (x9 := x9) ha hg
    obtain ⟨z2, z3, z4, z5, z6, z7, z8, z9, S, e2⟩ := laps ds (.val d) y3 y4 y5 y6 y7 y8 y9 a1 g1 c1 f1 T h1 h2
    exact ⟨_, _, _, _, _, _, _, _, S, forGo_nx e1 e2⟩
end
/-! ### the last rows -/
theorem q24s {n : Nat} {S : Store} {i j : Nat} {m1 n1 m2 n2 : D} {z : Bool} (hi : S[i]? = some (.ins 0 [("m", m1), ("n", n1)])) (hj : S[j]? = some (.ins 0 [("m", m2), ("n", n2)])) (hz : eqD (.tup [m1, n1]) (.tup [m2, n2]) = some z) : callN L.prg (n + 1) 24 [.obj i, .obj j] S = some (.bl z, S) := by
  refine call_ret (d := d24) rfl rfl ?_
  have ty : isTy S (.fz (.obj j)) (.own 0) = some true := by simp [isTy, hj]
  have t1 := ev_tup2 (c := C n) (ev_at (σ := [.val (.obj i), .val (.obj j)]) (j := 0) (f := "m") rfl hi lk1) rfl (ev_at (j := 0) (f := "n") rfl hi (lk2 nm_ne)) rfl
  have t2 := ev_tup2 (c := C n) (ev_at (σ := [.val (.obj i), .val (.obj j)]) (j := 1) (f := "m") rfl hj lk1) rfl (ev_at (j := 1) (f := "n") rfl hj (lk2 nm_ne)) rfl
  have e := ev_andT (ev_isi (c := C n) (σ := [.val (.obj i), .val (.obj j)]) (j := 1) rfl ty) (ev_cmp (op := .eq) t1 t2 (z := z) (by simp only [cmpS, neIns, Bool.false_eq_true, if_false, cmpR, Rv.tree]; exact hz))
  exact st_ret (fz := []) (r := .nil) (σ := [.val (.obj i), .val (.obj j)]) rfl (ex_ret e rfl)
theorem q24f {n : Nat} {S : Store} {i : Nat} {v : D} (ty : isTy S (.fz v) (.own 0) = some false) : callN L.prg (n + 1) 24 [.obj i, v] S = some (.bl false, S) := by
  refine call_ret (d := d24) rfl rfl ?_
  exact st_ret (fz := []) (r := .nil) (σ := [.val (.obj i), .val v]) rfl (ex_ret (ev_andF (ev_isi (c := C n) (σ := [.val (.obj i), .val v]) (j := 1) rfl ty)) rfl)
theorem q26s {n : Nat} {S : Store} {i j : Nat} {m1 n1 m2 n2 : D} {z : Bool} (hi : S[i]? = some (.ins 1 [("why", m1), ("place", n1)])) (hj : S[j]? = some (.ins 1 [("why", m2), ("place", n2)])) (hz : eqD (.tup [m1, n1]) (.tup [m2, n2]) = some z) : callN L.prg (n + 1) 26 [.obj i, .obj j] S = some (.bl z, S) := by
  refine call_ret (d := d26) rfl rfl ?_
  have ty : isTy S (.fz (.obj j)) (.own 1) = some true := by simp [isTy, hj]
  have t1 := ev_tup2 (c := C n) (ev_at (σ := [.val (.obj i), .val (.obj j)]) (j := 0) (f := "why") rfl hi lk1) rfl (ev_at (j := 0) (f := "place") rfl hi (lk2 wp_ne)) rfl
  have t2 := ev_tup2 (c := C n) (ev_at (σ := [.val (.obj i), .val (.obj j)]) (j := 1) (f := "why") rfl hj lk1) rfl (ev_at (j := 1) (f := "place") rfl hj (lk2 wp_ne)) rfl
  have e := ev_andT (ev_isi (c := C n) (σ := [.val (.obj i), .val (.obj j)]) (j := 1) rfl ty) (ev_cmp (op := .eq) t1 t2 (z := z) (by simp only [cmpS, neIns, Bool.false_eq_true, if_false, cmpR, Rv.tree]; exact hz))
  exact st_ret (fz := []) (r := .nil) (σ := [.val (.obj i), .val (.obj j)]) rfl (ex_ret e rfl)
theorem q26f {n : Nat} {S : Store} {i : Nat} {v : D} (ty : isTy S (.fz v) (.own 1) = some false) : callN L.prg (n + 1) 26 [.obj i, v] S = some (.bl false, S) := by
  refine call_ret (d := d26) rfl rfl ?_
  exact st_ret (fz := []) (r := .nil) (σ := [.val (.obj i), .val v]) rfl (ex_ret (ev_andF (ev_isi (c := C n) (σ := [.val (.obj i), .val v]) (j := 1) rfl ty)) rfl)
theorem ev_cmpO {cx : Co.Ctx} {op : Cop} {e1 e2 : Co.CE} {σ : Co.Env} {S S1 S2 S3 : Store} {i k j : Nat} {dy : D} {fs : List (Str × D)} {t z w : Bool} (h1 : evE cx e1 σ S = some (.fz (.obj i), S1)) (h2 : evE cx e2 σ S1 = some (.fz dy, S2)) (hi : S2[i]? = some (.ins k fs))
    (hE : cx.eqs[k]? = some (some j)) (ht : isTy S2 (.fz dy) (.own k) = some t) (hc : cx.call j [.obj i, dy] S2 = some (.bl z, S3)) (hop : op = .eq ∧ w = z ∨ op = .ne ∧ w = !z) : evE cx (.cmpO op e1 e2) σ S = some (.fz (.bl w), S3) := by
  have ho : ownEq cx.eqs S2 (.fz (.obj i)) = some (k, j) := by simp [ownEq, hi, hE]
  rcases hop with ⟨rfl, rfl⟩ | ⟨rfl, rfl⟩ <;> simp only [evE, h1, h2, ho, ht, hc]
abbrev IsS (σ : Co.Env) (e : Co.CE) (a b : D) : Prop := ∀ S, evE (C 9) e σ S = some (.fz (.obj S.length), S ++ [.ins 0 [("m", a), ("n", b)]])
abbrev IsU (σ : Co.Env) (e : Co.CE) (a b : D) : Prop := ∀ S, evE (C 9) e σ S = some (.fz (.obj S.length), S ++ [.ins 1 [("why", a), ("place", b)]])
section
variable {σ : Co.Env} {S : Store} {op : Cop} {e1 e2 : Co.CE} {a b a' b' : D} {z w : Bool}
theorem cmp00 (h1 : IsS σ e1 a b) (h2 : IsS σ e2 a' b') (hz : eqD (.tup [a, b]) (.tup [a', b']) = some z) (hop : op = .eq ∧ w = z ∨ op = .ne ∧ w = !z) : ∃ S', evE (C 9) (.cmpO op e1 e2) σ S = some (.fz (.bl w), S') := by
  have hi : (S ++ [Ob.ins 0 [("m", a), ("n", b)]] ++ [Ob.ins 0 [("m", a'), ("n", b')]])[S.length]? = some (.ins 0 [("m", a), ("n", b)]) := by simp
  have hj : (S ++ [Ob.ins 0 [("m", a), ("n", b)]] ++ [Ob.ins 0 [("m", a'), ("n", b')]])[(S ++ [Ob.ins 0 [("m", a), ("n", b)]]).length]? = some (.ins 0 [("m", a'), ("n", b')]) := by simp
  exact ⟨_, ev_cmpO (h1 S) (h2 _) hi (j := 24) rfl (t := true) (by simp [isTy]) (by rw [cC]; exact q24s (n := 8) hi hj hz) hop⟩
theorem cmp11 (h1 : IsU σ e1 a b) (h2 : IsU σ e2 a' b') (hz : eqD (.tup [a, b]) (.tup [a', b']) = some z) (hop : op = .eq ∧ w = z ∨ op = .ne ∧ w = !z) : ∃ S', evE (C 9) (.cmpO op e1 e2) σ S = some (.fz (.bl w), S') := by
  have hi : (S ++ [Ob.ins 1 [("why", a), ("place", b)]] ++ [Ob.ins 1 [("why", a'), ("place", b')]])[S.length]? = some (.ins 1 [("why", a), ("place", b)]) := by simp
  have hj : (S ++ [Ob.ins 1 [("why", a), ("place", b)]] ++ [Ob.ins 1 [("why", a'), ("place", b')]])[(S ++ [Ob.ins 1 [("why", a), ("place", b)]]).length]? = some (.ins 1 [("why", a'), ("place", b')]) := by simp
  exact ⟨_, ev_cmpO (h1 S) (h2 _) hi (j := 26) rfl (t := true) (by simp [isTy]) (by rw [cC]; exact q26s (n := 8) hi hj hz) hop⟩
theorem cmp10 (h1 : IsU σ e1 a b) (h2 : IsS σ e2 a' b') : ∃ S', evE (C 9) (.cmpO .eq e1 e2) σ S = some (.fz (.bl false), S') := by
  have hi : (S ++ [Ob.ins 1 [("why", a), ("place", b)]] ++ [Ob.ins 0 [("m", a'), ("n", b')]])[S.length]? = some (.ins 1 [("why", a), ("place", b)]) := by simp
  have ty : isTy (S ++ [Ob.ins 1 [("why", a), ("place", b)]] ++ [Ob.ins 0 [("m", a'), ("n", b')]]) (.fz (.obj (S ++ [Ob.ins 1 [("why", a), ("place", b)]]).length)) (.own 1) = some false := by simp [isTy]
  exact ⟨_, ev_cmpO (h1 S) (h2 _) hi (j := 26) rfl ty (by rw [cC]; exact q26f (n := 8) ty) (.inl ⟨rfl, rfl⟩)⟩
theorem cmp0t {l : List D} (h1 : IsS σ e1 a b) (h2 : ∀ S, evE (C 9) e2 σ S = some (.fz (.tup l), S)) : ∃ S', evE (C 9) (.cmpO .eq e1 e2) σ S = some (.fz (.bl false), S') := by
  have hi : (S ++ [Ob.ins 0 [("m", a), ("n", b)]])[S.length]? = some (.ins 0 [("m", a), ("n", b)]) := by simp
  exact ⟨_, ev_cmpO (h1 S) (h2 _) hi (j := 24) rfl (t := false) rfl (by rw [cC]; exact q24f (n := 8) rfl) (.inl ⟨rfl, rfl⟩)⟩
end
theorem as_l1 : ∀ S, callN L.prg 8 8 [.lst [.int 1]] S = some (.tup [.int 1], S) := fun S => by
  have h := q8t (n := 7) (d := .lst [.int 1]) (l := [.int 1]) (l' := []) (S := S) (.inr rfl) (by simp) id (fun e he => by
    simp only [List.mem_cons, List.not_mem_nil, or_false] at he
    subst he
    exact q8a (n := 6) (.inr (.inl ⟨_, rfl⟩)))
  simpa using h
theorem kc {σ : Co.Env} {S : Store} {d : D} : evE (C 9) (.const d) σ S = some (.fz d, S) := by rw [evE]
abbrev orT : CT := (.or (.tr (.cmpO .ne (.mk 0 (.cons (.lst (.cons (.const (.int (1))) .nil)) (.cons (.const (.int (2))) .nil))) (.mk 0 (.cons (.tup (.cons (.const (.int (1))) .nil)) (.cons (.const (.int (2))) .nil))))) (.or (.tr (.cmpO .eq (.mk 0 (.cons (.const (.int (1))) (.cons (.const (.int (2))) .nil))) (.mk 0 (.cons (.const (.int (2))) (.cons (.const (.int (1))) .nil))))) (.or (.tr (.cmpO .ne (.mk 1 (.cons (.const (.str "a")) (.cons (.const (.int (1))) .nil))) (.mk 1 (.cons (.const (.str "a")) (.cons (.const (.int (1))) .nil))))) (.tr (.cmpO .eq (.mk 1 (.cons (.const (.str "a")) (.cons (.const (.int (1))) .nil))) (.mk 1 (.cons (.const (.str "b")) (.cons (.const (.int (1))) .nil))))))))
abbrev reE : Co.CE := (.andV (.cmp .is (.cmpO .eq (.mk 0 (.cons (.const (.int (1))) (.cons (.const (.int (2))) .nil))) (.tup (.cons (.const (.int (1))) (.cons (.const (.int (2))) .nil)))) (.const (.bl false))) (.cmp .is (.cmpO .eq (.mk 1 (.cons (.const (.int (1))) (.cons (.const (.int (2))) .nil))) (.mk 0 (.cons (.const (.int (1))) (.cons (.const (.int (2))) .nil)))) (.const (.bl false))))
theorem or_ev {σ : Co.Env} {S : Store} : ∃ S', evT (C 9) orT σ S = some (false, S') := by
  have z1 : ([D.int 1] : List D).length ≤ sizeLine := sz100 (show 1 ≤ 1000 by decide)
  have l1 : ∀ S, evE (C 9) (.lst (.cons (.const (.int (1))) .nil)) σ S = some (.fr [.int 1], S) := fun S => by simp only [evE, evA, Rv.d]; rw [if_pos z1]
  have t1 : ∀ S, evE (C 9) (.tup (.cons (.const (.int (1))) .nil)) σ S = some (.fz (.tup [.int 1]), S) := fun S => by simp only [evE, evA, Rv.d]; rw [if_pos z1]
  obtain ⟨S1, e1⟩ := cmp00 (σ := σ) (S := S) (op := .ne) (w := false) (z := true) (fun S => mkS (n := 8) (l1 S) rfl (kc (d := .int 2)) rfl as_l1 (as_atom at_i)) (fun S => mkS (n := 8) (t1 S) rfl (kc (d := .int 2)) rfl as_one (as_atom at_i)) (by decide +kernel) (.inr ⟨rfl, rfl⟩)
  obtain ⟨S2, e2⟩ := cmp00 (σ := σ) (S := S1) (op := .eq) (w := false) (z := false) (fun S => mkS (n := 8) (kc (d := .int 1)) rfl (kc (d := .int 2)) rfl (as_atom at_i) (as_atom at_i)) (fun S => mkS (n := 8) (kc (d := .int 2)) rfl (kc (d := .int 1)) rfl (as_atom at_i) (as_atom at_i)) (by decide +kernel) (.inl ⟨rfl, rfl⟩)
  obtain ⟨S3, e3⟩ := cmp11 (σ := σ) (S := S2) (op := .ne) (w := false) (z := true) (fun S => mkU (n := 8) (kc (d := .str "a")) rfl (kc (d := .int 1)) rfl (as_atom at_s) (as_atom at_i)) (fun S => mkU (n := 8) (kc (d := .str "a")) rfl (kc (d := .int 1)) rfl (as_atom at_s) (as_atom at_i)) (by decide +kernel) (.inr ⟨rfl, rfl⟩)
  obtain ⟨S4, e4⟩ := cmp11 (σ := σ) (S := S3) (op := .eq) (w := false) (z := false) (fun S => mkU (n := 8) (kc (d := .str "a")) rfl (kc (d := .int 1)) rfl (as_atom at_s) (as_atom at_i)) (fun S => mkU (n := 8) (kc (d := .str "b")) rfl (kc (d := .int 1)) rfl (as_atom at_s) (as_atom at_i)) (by decide +kernel) (.inl ⟨rfl, rfl⟩)
  exact ⟨S4, ev_orF (ev_tr e1 rfl) (ev_orF (ev_tr e2 rfl) (ev_orF (ev_tr e3 rfl) (ev_tr e4 rfl)))⟩
theorem re_ev {σ : Co.Env} {S : Store} : ∃ S', evE (C 9) reE σ S = some (.fz (.bl true), S') := by
  have t2 : ∀ S, evE (C 9) (.tup (.cons (.const (.int (1))) (.cons (.const (.int (2))) .nil))) σ S = some (.fz (.tup [.int 1, .int 2]), S) := fun S => ev_tup2 kc rfl kc rfl
  obtain ⟨S1, e1⟩ := cmp0t (σ := σ) (S := S) (fun S => mkS (n := 8) (kc (d := .int 1)) rfl (kc (d := .int 2)) rfl (as_atom at_i) (as_atom at_i)) t2
  obtain ⟨S2, e2⟩ := cmp10 (σ := σ) (S := S1) (fun S => mkU (n := 8) (kc (d := .int 1)) rfl (kc (d := .int 2)) rfl (as_atom at_i) (as_atom at_i)) (fun S => mkS (n := 8) (kc (d := .int 1)) rfl (kc (d := .int 2)) rfl (as_atom at_i) (as_atom at_i))
  exact ⟨S2, ev_andT (ev_isB (w := false) e1) (ev_isB (w := false) e2)⟩
theorem math : ∀ ns : List Int, ns.length ≤ 63 → ∃ S', callN L.prg 10 51 [.scr (ns.map D.int)] [] = some (.bl true, S') := by
  intro ns _
  obtain ⟨f, e1⟩ := q33 (n := 8) ns
  have hc : (C 9).call 33 [.scr (ns.map D.int)] [] = some (.obj 0, St ns 0 0 0 f []) := by rw [cC]; exact e1
  have u1 := ex_set (i := 1) (σ := [.val (.scr (ns.map D.int)), .non, .non, .non, .non, .non, .non, .non, .non, .non]) (σ' := [.val (.scr (ns.map D.int)), .val (.obj 0), .non, .non, .non, .non, .non, .non, .non, .non]) (ev_call1 (ev_v (i := 0) rfl) rfl hc) rfl
  obtain ⟨y2, y3, y4, y5, y6, y7, y8, y9, S, e2⟩ := laps (cs := ns) (x0 := .val (.scr (ns.map D.int))) [.int 0, .int 1, .int 2, .int 3] .non .non .non .non .non .non .non .non 0 0 0 f [] (by decide) (by decide)
  have ei : evI (C 9) true (.rng1 (.const (.int (4)))) [.val (.scr (ns.map D.int)), .val (.obj 0), .non, .non, .non, .non, .non, .non, .non, .non] (St ns 0 0 0 f []) = some ([.int 0, .int 1, .int 2, .int 3], St ns 0 0 0 f []) := by
    simp only [evI, evE]; rw [if_pos (by decide)]; rfl
  have u2 := for_of (n := 9) ei e2
  obtain ⟨S1, e3⟩ := or_ev (σ := [.val (.scr (ns.map D.int)), .val (.obj 0), y2, y3, y4, y5, y6, y7, y8, y9]) (S := S)
  obtain ⟨S', e4⟩ := re_ev (σ := [.val (.scr (ns.map D.int)), .val (.obj 0), y2, y3, y4, y5, y6, y7, y8, y9]) (S := S1)
  refine ⟨S', ?_⟩
  have v4 := st_ret (fz := []) (r := .nil) (σ := [.val (.scr (ns.map D.int)), .val (.obj 0), y2, y3, y4, y5, y6, y7, y8, y9]) rfl (ex_ret e4 rfl)
  have v3 := (st_nx (fz := []) (σ := [.val (.scr (ns.map D.int)), .val (.obj 0), y2, y3, y4, y5, y6, y7, y8, y9]) rfl (ex_ifF (a := .cons [] (.ret (.const (.bl false))) .nil) (b := .nil) e3 rfl)).trans v4
  have v2 := (st_nx (fz := []) (σ := [.val (.scr (ns.map D.int)), .val (.obj 0), .non, .non, .non, .non, .non, .non, .non, .non]) rfl u2).trans v3
  exact call_ret (n := 9) (d := d51) rfl rfl ((st_nx (fz := [0]) (σ := [.val (.scr (ns.map D.int)), .non, .non, .non, .non, .non, .non, .non, .non, .non]) rfl u1).trans v2)
end K56
end

section
set_option maxHeartbeats 0
set_option Elab.async false
set_option linter.all false
set_option maxRecDepth 100000
/-! the written part's words that the law needs, printed by gen.py -/
namespace K56
open PySem L2 Co
theorem at_mk {K : PySem.W.Frag} {h : Heap} {mg : Str → Option Value} {C0 C1 f0 f1 f2 f3 f4 f5 f6 f7 f8 f9 f10 f11 f12 f13 f14 f15 f16 f17 f18 f19 f20 f21 f22 f23 f24 f25 f26 f27 f28 f29 f30 f31 f32 f33 f34 f35 f36 f37 f38 f39 f40 f41 f42 f43 f44 f45 f46 f47 f48 f49 f50 f51 : Addr} {od0 an0 od1 an1 od2 an2 od3 an3 od4 an4 od5 an5 od6 an6 od7 an7 od8 an8 od9 an9 od10 an10 od11 an11 od12 an12 od13 an13 od14 an14 od15 an15 od16 an16 od17 an17 od18 an18 od19 an19 od20 an20 od21 an21 od22 an22 od23 an23 od24 an24 od25 an25 od26 an26 od27 an27 od28 an28 od29 an29 od30 an30 od31 an31 od32 an32 od33 an33 od34 an34 od35 an35 od36 an36 od37 an37 od38 an38 od39 an39 od40 an40 od41 an41 od42 an42 od43 an43 od44 an44 od45 an45 od46 an46 od47 an47 od48 an48 od49 an49 od50 an50 od51 an51 : Option Addr} {sl0 sl1 sl2 sl3 sl4 sl5 sl6 sl7 sl8 sl9 sl10 sl11 sl12 sl13 sl14 sl15 sl16 sl17 sl18 sl19 sl20 sl21 sl22 sl23 sl24 sl25 sl26 sl27 sl28 sl29 sl30 sl31 sl32 sl33 sl34 sl35 sl36 sl37 sl38 sl39 sl40 sl41 sl42 sl43 sl44 sl45 sl46 sl47 sl48 sl49 sl50 sl51 : Array (Option Value)} {oc0 kV0 dc0 pm0 cd0 ct0 oc1 kV1 dc1 pm1 cd1 ct1 oc2 kV2 dc2 pm2 cd2 ct2 oc3 kV3 dc3 pm3 cd3 ct3 oc4 kV4 dc4 pm4 cd4 ct4 oc5 kV5 dc5 pm5 cd5 ct5 oc6 kV6 dc6 pm6 cd6 ct6 oc7 kV7 dc7 pm7 cd7 ct7 oc8 kV8 dc8 pm8 cd8 ct8 oc9 kV9 dc9 pm9 cd9 ct9 oc10 kV10 dc10 pm10 cd10 ct10 oc11 kV11 dc11 pm11 cd11 ct11 oc12 kV12 dc12 pm12 cd12 ct12 oc13 kV13 dc13 pm13 cd13 ct13 oc14 kV14 dc14 pm14 cd14 ct14 oc15 kV15 dc15 pm15 cd15 ct15 oc16 kV16 dc16 pm16 cd16 ct16 oc17 kV17 dc17 pm17 cd17 ct17 oc18 kV18 dc18 pm18 cd18 ct18 oc19 kV19 dc19 pm19 cd19 ct19 oc20 kV20 dc20 pm20 cd20 ct20 oc21 kV21 dc21 pm21 cd21 ct21 oc22 kV22 dc22 pm22 cd22 ct22 oc23 kV23 dc23 pm23 cd23 ct23 oc24 kV24 dc24 pm24 cd24 ct24 oc25 kV25 dc25 pm25 cd25 ct25 oc26 kV26 dc26 pm26 cd26 ct26 oc27 kV27 dc27 pm27 cd27 ct27 oc28 kV28 dc28 pm28 cd28 ct28 oc29 kV29 dc29 pm29 cd29 ct29 oc30 kV30 dc30 pm30 cd30 ct30 oc31 kV31 dc31 pm31 cd31 ct31 oc32 kV32 dc32 pm32 cd32 ct32 oc33 kV33 dc33 pm33 cd33 ct33 oc34 kV34 dc34 pm34 cd34 ct34 oc35 kV35 dc35 pm35 cd35 ct35 oc36 kV36 dc36 pm36 cd36 ct36 oc37 kV37 dc37 pm37 cd37 ct37 oc38 kV38 dc38 pm38 cd38 ct38 oc39 kV39 dc39 pm39 cd39 ct39 oc40 kV40 dc40 pm40 cd40 ct40 oc41 kV41 dc41 pm41 cd41 ct41 oc42 kV42 dc42 pm42 cd42 ct42 oc43 kV43 dc43 pm43 cd43 ct43 oc44 kV44 dc44 pm44 cd44 ct44 oc45 kV45 dc45 pm45 cd45 ct45 oc46 kV46 dc46 pm46 cd46 ct46 oc47 kV47 dc47 pm47 cd47 ct47 oc48 kV48 dc48 pm48 cd48 ct48 oc49 kV49 dc49 pm49 cd49 ct49 oc50 kV50 dc50 pm50 cd50 ct50 oc51 kV51 dc51 pm51 cd51 ct51 : Value} {t0 t1 t2 : Tok} {X0 X1 : ClassData} (X : K.In h) (G : h.Ns mainGlobals mg)
    (aC0 : PySem.W.nsIn K mainGlobals "Shared" = some (some (.ref C0)))
    (aC1 : PySem.W.nsIn K mainGlobals "Unshared" = some (some (.ref C1)))
    (pg0 : PySem.W.plainGet K C0 Str.empty = true)
    (hd0 : PySem.W.hasDictIn K C0 = true)
    (po0 : PySem.W.plainOver K C0 = true)
    (sa0 : PySem.W.findIn K (.ref C0) "__setattr__" = some (some (.builtin "object.__setattr__")))
    (la0 : PySem.W.findIn K (.ref C0) "__class__" = some (some (.builtin "object.__class__")))
    (mo0 : PySem.W.mroIn K C0 (.type "object") = some true)
    (ty0 : PySem.W.typeIn K (.ref C0) = some (.type "type"))
    (ci0 : PySem.W.clsIn K C0 = some X0)
    (mk0 : PySem.W.makesIn K C0 = true)
    (kp0 : PySem.W.keepIn K (.ref C0) = true)
    (ee0 : PySem.W.findIn K (.ref C0) "__eq__" = some (some (.ref f24)))
    (fe0 : PySem.W.isFn K (.ref f24) = true)
    (en0 : PySem.W.findIn K (.ref C0) "__ne__" = some (some (.builtin "object.__ne__")))
    (su0int : PySem.W.subIn K (.ref C0) (.type "int") = some false)
    (su0bool : PySem.W.subIn K (.ref C0) (.type "bool") = some false)
    (su0str : PySem.W.subIn K (.ref C0) (.type "str") = some false)
    (su0tuple : PySem.W.subIn K (.ref C0) (.type "tuple") = some false)
    (su0list : PySem.W.subIn K (.ref C0) (.type "list") = some false)
    (sp0x1 : PySem.W.subIn K (.ref C0) (.ref C1) = some false)
    (na0x0 : PySem.W.findIn K (.ref C0) "m" = some none)
    (na0x1 : PySem.W.findIn K (.ref C0) "n" = some none)
    (na0x2 : PySem.W.findIn K (.ref C0) "why" = some none)
    (na0x3 : PySem.W.findIn K (.ref C0) "place" = some none)
    (in0 : PySem.W.findIn K (.ref C0) "__init__" = some (some (.ref f23)))
    (fn0 : PySem.W.isFn K (.ref f23) = true)
    (pg1 : PySem.W.plainGet K C1 Str.empty = true)
    (hd1 : PySem.W.hasDictIn K C1 = true)
    (po1 : PySem.W.plainOver K C1 = true)
    (sa1 : PySem.W.findIn K (.ref C1) "__setattr__" = some (some (.builtin "object.__setattr__")))
    (la1 : PySem.W.findIn K (.ref C1) "__class__" = some (some (.builtin "object.__class__")))
    (mo1 : PySem.W.mroIn K C1 (.type "object") = some true)
    (ty1 : PySem.W.typeIn K (.ref C1) = some (.type "type"))
    (ci1 : PySem.W.clsIn K C1 = some X1)
    (mk1 : PySem.W.makesIn K C1 = true)
    (kp1 : PySem.W.keepIn K (.ref C1) = true)
    (ee1 : PySem.W.findIn K (.ref C1) "__eq__" = some (some (.ref f26)))
    (fe1 : PySem.W.isFn K (.ref f26) = true)
    (en1 : PySem.W.findIn K (.ref C1) "__ne__" = some (some (.builtin "object.__ne__")))
    (su1int : PySem.W.subIn K (.ref C1) (.type "int") = some false)
    (su1bool : PySem.W.subIn K (.ref C1) (.type "bool") = some false)
    (su1str : PySem.W.subIn K (.ref C1) (.type "str") = some false)
    (su1tuple : PySem.W.subIn K (.ref C1) (.type "tuple") = some false)
    (su1list : PySem.W.subIn K (.ref C1) (.type "list") = some false)
    (sp1x0 : PySem.W.subIn K (.ref C1) (.ref C0) = some false)
    (na1x0 : PySem.W.findIn K (.ref C1) "m" = some none)
    (na1x1 : PySem.W.findIn K (.ref C1) "n" = some none)
    (na1x2 : PySem.W.findIn K (.ref C1) "why" = some none)
    (na1x3 : PySem.W.findIn K (.ref C1) "place" = some none)
    (in1 : PySem.W.findIn K (.ref C1) "__init__" = some (some (.ref f25)))
    (fn1 : PySem.W.isFn K (.ref f25) = true)
    (a0 : PySem.W.nsIn K mainGlobals "is_integer" = some (some (.ref f0)))
    (l0 : K.lookup f0 = some ⟨oc0, od0, .func (PySem.W.fnOf "is_integer" "is_integer" (defArgs s0) (defBody s0) (defScope s0) .none kV0 dc0 pm0 an0 cd0 ct0), sl0⟩)
    (c0 : PySem.W.codeIn K cd0 "is_integer" = true)
    (k0 : PySem.W.keepIn K (.ref f0) = true)
    (a1 : PySem.W.nsIn K mainGlobals "is_ratio" = some (some (.ref f1)))
    (l1 : K.lookup f1 = some ⟨oc1, od1, .func (PySem.W.fnOf "is_ratio" "is_ratio" (defArgs s1) (defBody s1) (defScope s1) .none kV1 dc1 pm1 an1 cd1 ct1), sl1⟩)
    (c1 : PySem.W.codeIn K cd1 "is_ratio" = true)
    (k1 : PySem.W.keepIn K (.ref f1) = true)
    (a2 : PySem.W.nsIn K mainGlobals "pair" = some (some (.ref f2)))
    (l2 : K.lookup f2 = some ⟨oc2, od2, .func (PySem.W.fnOf "pair" "pair" (defArgs s2) (defBody s2) (defScope s2) .none kV2 dc2 pm2 an2 cd2 ct2), sl2⟩)
    (c2 : PySem.W.codeIn K cd2 "pair" = true)
    (k2 : PySem.W.keepIn K (.ref f2) = true)
    (a3 : PySem.W.nsIn K mainGlobals "in_lowest" = some (some (.ref f3)))
    (l3 : K.lookup f3 = some ⟨oc3, od3, .func (PySem.W.fnOf "in_lowest" "in_lowest" (defArgs s3) (defBody s3) (defScope s3) .none kV3 dc3 pm3 an3 cd3 ct3), sl3⟩)
    (c3 : PySem.W.codeIn K cd3 "in_lowest" = true)
    (k3 : PySem.W.keepIn K (.ref f3) = true)
    (a4 : PySem.W.nsIn K mainGlobals "added" = some (some (.ref f4)))
    (l4 : K.lookup f4 = some ⟨oc4, od4, .func (PySem.W.fnOf "added" "added" (defArgs s4) (defBody s4) (defScope s4) .none kV4 dc4 pm4 an4 cd4 ct4), sl4⟩)
    (c4 : PySem.W.codeIn K cd4 "added" = true)
    (k4 : PySem.W.keepIn K (.ref f4) = true)
    (a5 : PySem.W.nsIn K mainGlobals "opposite" = some (some (.ref f5)))
    (l5 : K.lookup f5 = some ⟨oc5, od5, .func (PySem.W.fnOf "opposite" "opposite" (defArgs s5) (defBody s5) (defScope s5) .none kV5 dc5 pm5 an5 cd5 ct5), sl5⟩)
    (c5 : PySem.W.codeIn K cd5 "opposite" = true)
    (k5 : PySem.W.keepIn K (.ref f5) = true)
    (a6 : PySem.W.nsIn K mainGlobals "multiplied" = some (some (.ref f6)))
    (l6 : K.lookup f6 = some ⟨oc6, od6, .func (PySem.W.fnOf "multiplied" "multiplied" (defArgs s6) (defBody s6) (defScope s6) .none kV6 dc6 pm6 an6 cd6 ct6), sl6⟩)
    (c6 : PySem.W.codeIn K cd6 "multiplied" = true)
    (k6 : PySem.W.keepIn K (.ref f6) = true)
    (a7 : PySem.W.nsIn K mainGlobals "divided" = some (some (.ref f7)))
    (l7 : K.lookup f7 = some ⟨oc7, od7, .func (PySem.W.fnOf "divided" "divided" (defArgs s7) (defBody s7) (defScope s7) .none kV7 dc7 pm7 an7 cd7 ct7), sl7⟩)
    (c7 : PySem.W.codeIn K cd7 "divided" = true)
    (k7 : PySem.W.keepIn K (.ref f7) = true)
    (a8 : PySem.W.nsIn K mainGlobals "as_tuples" = some (some (.ref f8)))
    (l8 : K.lookup f8 = some ⟨oc8, od8, .func (PySem.W.fnOf "as_tuples" "as_tuples" (defArgs s8) (defBody s8) (defScope s8) .none kV8 dc8 pm8 an8 cd8 ct8), sl8⟩)
    (c8 : PySem.W.codeIn K cd8 "as_tuples" = true)
    (k8 : PySem.W.keepIn K (.ref f8) = true)
    (a9 : PySem.W.nsIn K mainGlobals "is_list" = some (some (.ref f9)))
    (l9 : K.lookup f9 = some ⟨oc9, od9, .func (PySem.W.fnOf "is_list" "is_list" (defArgs s9) (defBody s9) (defScope s9) .none kV9 dc9 pm9 an9 cd9 ct9), sl9⟩)
    (c9 : PySem.W.codeIn K cd9 "is_list" = true)
    (k9 : PySem.W.keepIn K (.ref f9) = true)
    (a10 : PySem.W.nsIn K mainGlobals "same_told" = some (some (.ref f10)))
    (l10 : K.lookup f10 = some ⟨oc10, od10, .func (PySem.W.fnOf "same_told" "same_told" (defArgs s10) (defBody s10) (defScope s10) .none kV10 dc10 pm10 an10 cd10 ct10), sl10⟩)
    (c10 : PySem.W.codeIn K cd10 "same_told" = true)
    (k10 : PySem.W.keepIn K (.ref f10) = true)
    (a11 : PySem.W.nsIn K mainGlobals "is_poly" = some (some (.ref f11)))
    (l11 : K.lookup f11 = some ⟨oc11, od11, .func (PySem.W.fnOf "is_poly" "is_poly" (defArgs s11) (defBody s11) (defScope s11) .none kV11 dc11 pm11 an11 cd11 ct11), sl11⟩)
    (c11 : PySem.W.codeIn K cd11 "is_poly" = true)
    (k11 : PySem.W.keepIn K (.ref f11) = true)
    (a12 : PySem.W.nsIn K mainGlobals "need_poly" = some (some (.ref f12)))
    (l12 : K.lookup f12 = some ⟨oc12, od12, .func (PySem.W.fnOf "need_poly" "need_poly" (defArgs s12) (defBody s12) (defScope s12) .none kV12 dc12 pm12 an12 cd12 ct12), sl12⟩)
    (c12 : PySem.W.codeIn K cd12 "need_poly" = true)
    (k12 : PySem.W.keepIn K (.ref f12) = true)
    (a13 : PySem.W.nsIn K mainGlobals "tidy" = some (some (.ref f13)))
    (l13 : K.lookup f13 = some ⟨oc13, od13, .func (PySem.W.fnOf "tidy" "tidy" (defArgs s13) (defBody s13) (defScope s13) .none kV13 dc13 pm13 an13 cd13 ct13), sl13⟩)
    (c13 : PySem.W.codeIn K cd13 "tidy" = true)
    (k13 : PySem.W.keepIn K (.ref f13) = true)
    (a14 : PySem.W.nsIn K mainGlobals "added_by" = some (some (.ref f14)))
    (l14 : K.lookup f14 = some ⟨oc14, od14, .func (PySem.W.fnOf "added_by" "added_by" (defArgs s14) (defBody s14) (defScope s14) .none kV14 dc14 pm14 an14 cd14 ct14), sl14⟩)
    (c14 : PySem.W.codeIn K cd14 "added_by" = true)
    (k14 : PySem.W.keepIn K (.ref f14) = true)
    (a15 : PySem.W.nsIn K mainGlobals "scaled_by" = some (some (.ref f15)))
    (l15 : K.lookup f15 = some ⟨oc15, od15, .func (PySem.W.fnOf "scaled_by" "scaled_by" (defArgs s15) (defBody s15) (defScope s15) .none kV15 dc15 pm15 an15 cd15 ct15), sl15⟩)
    (c15 : PySem.W.codeIn K cd15 "scaled_by" = true)
    (k15 : PySem.W.keepIn K (.ref f15) = true)
    (a16 : PySem.W.nsIn K mainGlobals "less_poly" = some (some (.ref f16)))
    (l16 : K.lookup f16 = some ⟨oc16, od16, .func (PySem.W.fnOf "less_poly" "less_poly" (defArgs s16) (defBody s16) (defScope s16) .none kV16 dc16 pm16 an16 cd16 ct16), sl16⟩)
    (c16 : PySem.W.codeIn K cd16 "less_poly" = true)
    (k16 : PySem.W.keepIn K (.ref f16) = true)
    (a17 : PySem.W.nsIn K mainGlobals "times_by" = some (some (.ref f17)))
    (l17 : K.lookup f17 = some ⟨oc17, od17, .func (PySem.W.fnOf "times_by" "times_by" (defArgs s17) (defBody s17) (defScope s17) .none kV17 dc17 pm17 an17 cd17 ct17), sl17⟩)
    (c17 : PySem.W.codeIn K cd17 "times_by" = true)
    (k17 : PySem.W.keepIn K (.ref f17) = true)
    (a18 : PySem.W.nsIn K mainGlobals "after_by" = some (some (.ref f18)))
    (l18 : K.lookup f18 = some ⟨oc18, od18, .func (PySem.W.fnOf "after_by" "after_by" (defArgs s18) (defBody s18) (defScope s18) .none kV18 dc18 pm18 an18 cd18 ct18), sl18⟩)
    (c18 : PySem.W.codeIn K cd18 "after_by" = true)
    (k18 : PySem.W.keepIn K (.ref f18) = true)
    (a19 : PySem.W.nsIn K mainGlobals "iterate_by" = some (some (.ref f19)))
    (l19 : K.lookup f19 = some ⟨oc19, od19, .func (PySem.W.fnOf "iterate_by" "iterate_by" (defArgs s19) (defBody s19) (defScope s19) .none kV19 dc19 pm19 an19 cd19 ct19), sl19⟩)
    (c19 : PySem.W.codeIn K cd19 "iterate_by" = true)
    (k19 : PySem.W.keepIn K (.ref f19) = true)
    (a20 : PySem.W.nsIn K mainGlobals "need_moved" = some (some (.ref f20)))
    (l20 : K.lookup f20 = some ⟨oc20, od20, .func (PySem.W.fnOf "need_moved" "need_moved" (defArgs s20) (defBody s20) (defScope s20) .none kV20 dc20 pm20 an20 cd20 ct20), sl20⟩)
    (c20 : PySem.W.codeIn K cd20 "need_moved" = true)
    (k20 : PySem.W.keepIn K (.ref f20) = true)
    (a21 : PySem.W.nsIn K mainGlobals "centre_by" = some (some (.ref f21)))
    (l21 : K.lookup f21 = some ⟨oc21, od21, .func (PySem.W.fnOf "centre_by" "centre_by" (defArgs s21) (defBody s21) (defScope s21) .none kV21 dc21 pm21 an21 cd21 ct21), sl21⟩)
    (c21 : PySem.W.codeIn K cd21 "centre_by" = true)
    (k21 : PySem.W.keepIn K (.ref f21) = true)
    (a22 : PySem.W.nsIn K mainGlobals "power_by" = some (some (.ref f22)))
    (l22 : K.lookup f22 = some ⟨oc22, od22, .func (PySem.W.fnOf "power_by" "power_by" (defArgs s22) (defBody s22) (defScope s22) .none kV22 dc22 pm22 an22 cd22 ct22), sl22⟩)
    (c22 : PySem.W.codeIn K cd22 "power_by" = true)
    (k22 : PySem.W.keepIn K (.ref f22) = true)
    (l23 : K.lookup f23 = some ⟨oc23, od23, .func (PySem.W.fnOf "__init__" "Shared.__init__" (defArgs s23) (defBody s23) (defScope s23) .none kV23 dc23 pm23 an23 cd23 ct23), sl23⟩)
    (c23 : PySem.W.codeIn K cd23 "Shared.__init__" = true)
    (k23 : PySem.W.keepIn K (.ref f23) = true)
    (l24 : K.lookup f24 = some ⟨oc24, od24, .func (PySem.W.fnOf "__eq__" "Shared.__eq__" (defArgs s24) (defBody s24) (defScope s24) .none kV24 dc24 pm24 an24 cd24 ct24), sl24⟩)
    (c24 : PySem.W.codeIn K cd24 "Shared.__eq__" = true)
    (k24 : PySem.W.keepIn K (.ref f24) = true)
    (l25 : K.lookup f25 = some ⟨oc25, od25, .func (PySem.W.fnOf "__init__" "Unshared.__init__" (defArgs s25) (defBody s25) (defScope s25) .none kV25 dc25 pm25 an25 cd25 ct25), sl25⟩)
    (c25 : PySem.W.codeIn K cd25 "Unshared.__init__" = true)
    (k25 : PySem.W.keepIn K (.ref f25) = true)
    (l26 : K.lookup f26 = some ⟨oc26, od26, .func (PySem.W.fnOf "__eq__" "Unshared.__eq__" (defArgs s26) (defBody s26) (defScope s26) .none kV26 dc26 pm26 an26 cd26 ct26), sl26⟩)
    (c26 : PySem.W.codeIn K cd26 "Unshared.__eq__" = true)
    (k26 : PySem.W.keepIn K (.ref f26) = true)
    (a27 : PySem.W.nsIn K mainGlobals "power_of" = some (some (.ref f27)))
    (l27 : K.lookup f27 = some ⟨oc27, od27, .func (PySem.W.fnOf "power_of" "power_of" (defArgs s27) (defBody s27) (defScope s27) .none kV27 dc27 pm27 an27 cd27 ct27), sl27⟩)
    (c27 : PySem.W.codeIn K cd27 "power_of" = true)
    (k27 : PySem.W.keepIn K (.ref f27) = true)
    (a28 : PySem.W.nsIn K mainGlobals "turned_about" = some (some (.ref f28)))
    (l28 : K.lookup f28 = some ⟨oc28, od28, .func (PySem.W.fnOf "turned_about" "turned_about" (defArgs s28) (defBody s28) (defScope s28) .none kV28 dc28 pm28 an28 cd28 ct28), sl28⟩)
    (c28 : PySem.W.codeIn K cd28 "turned_about" = true)
    (k28 : PySem.W.keepIn K (.ref f28) = true)
    (a29 : PySem.W.nsIn K mainGlobals "is_odd_about" = some (some (.ref f29)))
    (l29 : K.lookup f29 = some ⟨oc29, od29, .func (PySem.W.fnOf "is_odd_about" "is_odd_about" (defArgs s29) (defBody s29) (defScope s29) .none kV29 dc29 pm29 an29 cd29 ct29), sl29⟩)
    (c29 : PySem.W.codeIn K cd29 "is_odd_about" = true)
    (k29 : PySem.W.keepIn K (.ref f29) = true)
    (a30 : PySem.W.nsIn K mainGlobals "shared_by" = some (some (.ref f30)))
    (l30 : K.lookup f30 = some ⟨oc30, od30, .func (PySem.W.fnOf "shared_by" "shared_by" (defArgs s30) (defBody s30) (defScope s30) .none kV30 dc30 pm30 an30 cd30 ct30), sl30⟩)
    (c30 : PySem.W.codeIn K cd30 "shared_by" = true)
    (k30 : PySem.W.keepIn K (.ref f30) = true)
    (a31 : PySem.W.nsIn K mainGlobals "shared_or_not" = some (some (.ref f31)))
    (l31 : K.lookup f31 = some ⟨oc31, od31, .func (PySem.W.fnOf "shared_or_not" "shared_or_not" (defArgs s31) (defBody s31) (defScope s31) .none kV31 dc31 pm31 an31 cd31 ct31), sl31⟩)
    (c31 : PySem.W.codeIn K cd31 "shared_or_not" = true)
    (k31 : PySem.W.keepIn K (.ref f31) = true)
    (a32 : PySem.W.nsIn K mainGlobals "shared_holds" = some (some (.ref f32)))
    (l32 : K.lookup f32 = some ⟨oc32, od32, .func (PySem.W.fnOf "shared_holds" "shared_holds" (defArgs s32) (defBody s32) (defScope s32) .none kV32 dc32 pm32 an32 cd32 ct32), sl32⟩)
    (c32 : PySem.W.codeIn K cd32 "shared_holds" = true)
    (k32 : PySem.W.keepIn K (.ref f32) = true)
    (a33 : PySem.W.nsIn K mainGlobals "_law_pen" = some (some (.ref f33)))
    (l33 : K.lookup f33 = some ⟨oc33, od33, .func (PySem.W.fnOf "_law_pen" "_law_pen" (defArgs s33) (defBody s33) (defScope s33) .none kV33 dc33 pm33 an33 cd33 ct33), sl33⟩)
    (c33 : PySem.W.codeIn K cd33 "_law_pen" = true)
    (k33 : PySem.W.keepIn K (.ref f33) = true)
    (a34 : PySem.W.nsIn K mainGlobals "_law_draw" = some (some (.ref f34)))
    (l34 : K.lookup f34 = some ⟨oc34, od34, .func (PySem.W.fnOf "_law_draw" "_law_draw" (defArgs s34) (defBody s34) (defScope s34) .none kV34 dc34 pm34 an34 cd34 ct34), sl34⟩)
    (c34 : PySem.W.codeIn K cd34 "_law_draw" = true)
    (k34 : PySem.W.keepIn K (.ref f34) = true)
    (a35 : PySem.W.nsIn K mainGlobals "_law_pick" = some (some (.ref f35)))
    (l35 : K.lookup f35 = some ⟨oc35, od35, .func (PySem.W.fnOf "_law_pick" "_law_pick" (defArgs s35) (defBody s35) (defScope s35) .none kV35 dc35 pm35 an35 cd35 ct35), sl35⟩)
    (c35 : PySem.W.codeIn K cd35 "_law_pick" = true)
    (k35 : PySem.W.keepIn K (.ref f35) = true)
    (a36 : PySem.W.nsIn K mainGlobals "_law_is" = some (some (.ref f36)))
    (l36 : K.lookup f36 = some ⟨oc36, od36, .func (PySem.W.fnOf "_law_is" "_law_is" (defArgs s36) (defBody s36) (defScope s36) .none kV36 dc36 pm36 an36 cd36 ct36), sl36⟩)
    (c36 : PySem.W.codeIn K cd36 "_law_is" = true)
    (k36 : PySem.W.keepIn K (.ref f36) = true)
    (a37 : PySem.W.nsIn K mainGlobals "_law_says" = some (some (.ref f37)))
    (l37 : K.lookup f37 = some ⟨oc37, od37, .func (PySem.W.fnOf "_law_says" "_law_says" (defArgs s37) (defBody s37) (defScope s37) .none kV37 dc37 pm37 an37 cd37 ct37), sl37⟩)
    (c37 : PySem.W.codeIn K cd37 "_law_says" = true)
    (k37 : PySem.W.keepIn K (.ref f37) = true)
    (a38 : PySem.W.nsIn K mainGlobals "_law_divisor" = some (some (.ref f38)))
    (l38 : K.lookup f38 = some ⟨oc38, od38, .func (PySem.W.fnOf "_law_divisor" "_law_divisor" (defArgs s38) (defBody s38) (defScope s38) .none kV38 dc38 pm38 an38 cd38 ct38), sl38⟩)
    (c38 : PySem.W.codeIn K cd38 "_law_divisor" = true)
    (k38 : PySem.W.keepIn K (.ref f38) = true)
    (a39 : PySem.W.nsIn K mainGlobals "_law_low" = some (some (.ref f39)))
    (l39 : K.lookup f39 = some ⟨oc39, od39, .func (PySem.W.fnOf "_law_low" "_law_low" (defArgs s39) (defBody s39) (defScope s39) .none kV39 dc39 pm39 an39 cd39 ct39), sl39⟩)
    (c39 : PySem.W.codeIn K cd39 "_law_low" = true)
    (k39 : PySem.W.keepIn K (.ref f39) = true)
    (a40 : PySem.W.nsIn K mainGlobals "_law_pair" = some (some (.ref f40)))
    (l40 : K.lookup f40 = some ⟨oc40, od40, .func (PySem.W.fnOf "_law_pair" "_law_pair" (defArgs s40) (defBody s40) (defScope s40) .none kV40 dc40 pm40 an40 cd40 ct40), sl40⟩)
    (c40 : PySem.W.codeIn K cd40 "_law_pair" = true)
    (k40 : PySem.W.keepIn K (.ref f40) = true)
    (a41 : PySem.W.nsIn K mainGlobals "_law_plus" = some (some (.ref f41)))
    (l41 : K.lookup f41 = some ⟨oc41, od41, .func (PySem.W.fnOf "_law_plus" "_law_plus" (defArgs s41) (defBody s41) (defScope s41) .none kV41 dc41 pm41 an41 cd41 ct41), sl41⟩)
    (c41 : PySem.W.codeIn K cd41 "_law_plus" = true)
    (k41 : PySem.W.keepIn K (.ref f41) = true)
    (a42 : PySem.W.nsIn K mainGlobals "_law_times" = some (some (.ref f42)))
    (l42 : K.lookup f42 = some ⟨oc42, od42, .func (PySem.W.fnOf "_law_times" "_law_times" (defArgs s42) (defBody s42) (defScope s42) .none kV42 dc42 pm42 an42 cd42 ct42), sl42⟩)
    (c42 : PySem.W.codeIn K cd42 "_law_times" = true)
    (k42 : PySem.W.keepIn K (.ref f42) = true)
    (a43 : PySem.W.nsIn K mainGlobals "_law_poly_tidy" = some (some (.ref f43)))
    (l43 : K.lookup f43 = some ⟨oc43, od43, .func (PySem.W.fnOf "_law_poly_tidy" "_law_poly_tidy" (defArgs s43) (defBody s43) (defScope s43) .none kV43 dc43 pm43 an43 cd43 ct43), sl43⟩)
    (c43 : PySem.W.codeIn K cd43 "_law_poly_tidy" = true)
    (k43 : PySem.W.keepIn K (.ref f43) = true)
    (a44 : PySem.W.nsIn K mainGlobals "_law_poly_sum" = some (some (.ref f44)))
    (l44 : K.lookup f44 = some ⟨oc44, od44, .func (PySem.W.fnOf "_law_poly_sum" "_law_poly_sum" (defArgs s44) (defBody s44) (defScope s44) .none kV44 dc44 pm44 an44 cd44 ct44), sl44⟩)
    (c44 : PySem.W.codeIn K cd44 "_law_poly_sum" = true)
    (k44 : PySem.W.keepIn K (.ref f44) = true)
    (a45 : PySem.W.nsIn K mainGlobals "_law_poly_times" = some (some (.ref f45)))
    (l45 : K.lookup f45 = some ⟨oc45, od45, .func (PySem.W.fnOf "_law_poly_times" "_law_poly_times" (defArgs s45) (defBody s45) (defScope s45) .none kV45 dc45 pm45 an45 cd45 ct45), sl45⟩)
    (c45 : PySem.W.codeIn K cd45 "_law_poly_times" = true)
    (k45 : PySem.W.keepIn K (.ref f45) = true)
    (a46 : PySem.W.nsIn K mainGlobals "_law_poly_after" = some (some (.ref f46)))
    (l46 : K.lookup f46 = some ⟨oc46, od46, .func (PySem.W.fnOf "_law_poly_after" "_law_poly_after" (defArgs s46) (defBody s46) (defScope s46) .none kV46 dc46 pm46 an46 cd46 ct46), sl46⟩)
    (c46 : PySem.W.codeIn K cd46 "_law_poly_after" = true)
    (k46 : PySem.W.keepIn K (.ref f46) = true)
    (a47 : PySem.W.nsIn K mainGlobals "_law_poly_scaled" = some (some (.ref f47)))
    (l47 : K.lookup f47 = some ⟨oc47, od47, .func (PySem.W.fnOf "_law_poly_scaled" "_law_poly_scaled" (defArgs s47) (defBody s47) (defScope s47) .none kV47 dc47 pm47 an47 cd47 ct47), sl47⟩)
    (c47 : PySem.W.codeIn K cd47 "_law_poly_scaled" = true)
    (k47 : PySem.W.keepIn K (.ref f47) = true)
    (a48 : PySem.W.nsIn K mainGlobals "_law_poly_more" = some (some (.ref f48)))
    (l48 : K.lookup f48 = some ⟨oc48, od48, .func (PySem.W.fnOf "_law_poly_more" "_law_poly_more" (defArgs s48) (defBody s48) (defScope s48) .none kV48 dc48 pm48 an48 cd48 ct48), sl48⟩)
    (c48 : PySem.W.codeIn K cd48 "_law_poly_more" = true)
    (k48 : PySem.W.keepIn K (.ref f48) = true)
    (a49 : PySem.W.nsIn K mainGlobals "_law_c_small" = some (some (.ref f49)))
    (l49 : K.lookup f49 = some ⟨oc49, od49, .func (PySem.W.fnOf "_law_c_small" "_law_c_small" (defArgs s49) (defBody s49) (defScope s49) .none kV49 dc49 pm49 an49 cd49 ct49), sl49⟩)
    (c49 : PySem.W.codeIn K cd49 "_law_c_small" = true)
    (k49 : PySem.W.keepIn K (.ref f49) = true)
    (a50 : PySem.W.nsIn K mainGlobals "_law_known" = some (some (.ref f50)))
    (l50 : K.lookup f50 = some ⟨oc50, od50, .func (PySem.W.fnOf "_law_known" "_law_known" (defArgs s50) (defBody s50) (defScope s50) .none kV50 dc50 pm50 an50 cd50 ct50), sl50⟩)
    (c50 : PySem.W.codeIn K cd50 "_law_known" = true)
    (k50 : PySem.W.keepIn K (.ref f50) = true)
    (a51 : PySem.W.nsIn K mainGlobals "law" = some (some (.ref f51)))
    (l51 : K.lookup f51 = some ⟨oc51, od51, .func (PySem.W.fnOf "law" "law" (defArgs s51) (defBody s51) (defScope s51) .none kV51 dc51 pm51 an51 cd51 ct51), sl51⟩)
    (c51 : PySem.W.codeIn K cd51 "law" = true)
    (k51 : PySem.W.keepIn K (.ref f51) = true)
    (g0 : PySem.W.nsIn K mainGlobals "MOST_ITEMS" = some (some (.int (65) t0)))
    (g1 : PySem.W.nsIn K mainGlobals "MOST_MOVED" = some (some (.int (37) t1)))
    (g2 : PySem.W.nsIn K mainGlobals "MOST_DEGREE" = some (some (.int (64) t2)))
    (z0 : PySem.W.nsIn K mainGlobals "len" = some none)
    (z1 : PySem.W.nsIn K mainGlobals "abs" = some none)
    (z2 : PySem.W.nsIn K mainGlobals "int" = some none)
    (z3 : PySem.W.nsIn K mainGlobals "list" = some none)
    (z4 : PySem.W.nsIn K mainGlobals "tuple" = some none)
    (z5 : PySem.W.nsIn K mainGlobals "all" = some none)
    (z6 : PySem.W.nsIn K mainGlobals "max" = some none)
    (z7 : PySem.W.nsIn K mainGlobals "isinstance" = some none)
    (z8 : PySem.W.nsIn K mainGlobals "range" = some none)
    (z9 : PySem.W.nsIn K mainGlobals "enumerate" = some none)
    (z10 : PySem.W.nsIn K mainGlobals "zip" = some none)
    (z11 : PySem.W.nsIn K mainGlobals "bool" = some none)
    (z12 : PySem.W.nsIn K mainGlobals "str" = some none)
    (zg : PySem.W.nsIn K mainGlobals "gcd" = some (some (.builtin "math.gcd")))
    (clg : PySem.W.specialIn K (.builtin "object.__class__") "__get__" = some (some (.builtin "getset_descriptor.__get__")))
    (clt : PySem.W.takesIn K (.builtin "object.__class__") = some true) (nd : ([C0, C1] : List Addr).Nodup) :
    L.At K mg [f0, f1, f2, f3, f4, f5, f6, f7, f8, f9, f10, f11, f12, f13, f14, f15, f16, f17, f18, f19, f20, f21, f22, f23, f24, f25, f26, f27, f28, f29, f30, f31, f32, f33, f34, f35, f36, f37, f38, f39, f40, f41, f42, f43, f44, f45, f46, f47, f48, f49, f50, f51] [C0, C1] := by
  refine { ok := ?ok, fn := ?fn, fns := ?fns, gl := ?gl, cls := ?cls, atr := ?atr, clsOk := ?clsOk, eqn := ?eqn, gcd := ?gcd, free := ?free }
  case ok => exact List.forall_mem_cons.mpr ⟨ok0, List.forall_mem_cons.mpr ⟨ok1, List.forall_mem_cons.mpr ⟨ok2, List.forall_mem_cons.mpr ⟨ok3, List.forall_mem_cons.mpr ⟨ok4, List.forall_mem_cons.mpr ⟨ok5, List.forall_mem_cons.mpr ⟨ok6, List.forall_mem_cons.mpr ⟨ok7, List.forall_mem_cons.mpr ⟨ok8, List.forall_mem_cons.mpr ⟨ok9, List.forall_mem_cons.mpr ⟨ok10, List.forall_mem_cons.mpr ⟨ok11, List.forall_mem_cons.mpr ⟨ok12, List.forall_mem_cons.mpr ⟨ok13, List.forall_mem_cons.mpr ⟨ok14, List.forall_mem_cons.mpr ⟨ok15, List.forall_mem_cons.mpr ⟨ok16, List.forall_mem_cons.mpr ⟨ok17, List.forall_mem_cons.mpr ⟨ok18, List.forall_mem_cons.mpr ⟨ok19, List.forall_mem_cons.mpr ⟨ok20, List.forall_mem_cons.mpr ⟨ok21, List.forall_mem_cons.mpr ⟨ok22, List.forall_mem_cons.mpr ⟨ok23, List.forall_mem_cons.mpr ⟨ok24, List.forall_mem_cons.mpr ⟨ok25, List.forall_mem_cons.mpr ⟨ok26, List.forall_mem_cons.mpr ⟨ok27, List.forall_mem_cons.mpr ⟨ok28, List.forall_mem_cons.mpr ⟨ok29, List.forall_mem_cons.mpr ⟨ok30, List.forall_mem_cons.mpr ⟨ok31, List.forall_mem_cons.mpr ⟨ok32, List.forall_mem_cons.mpr ⟨ok33, List.forall_mem_cons.mpr ⟨ok34, List.forall_mem_cons.mpr ⟨ok35, List.forall_mem_cons.mpr ⟨ok36, List.forall_mem_cons.mpr ⟨ok37, List.forall_mem_cons.mpr ⟨ok38, List.forall_mem_cons.mpr ⟨ok39, List.forall_mem_cons.mpr ⟨ok40, List.forall_mem_cons.mpr ⟨ok41, List.forall_mem_cons.mpr ⟨ok42, List.forall_mem_cons.mpr ⟨ok43, List.forall_mem_cons.mpr ⟨ok44, List.forall_mem_cons.mpr ⟨ok45, List.forall_mem_cons.mpr ⟨ok46, List.forall_mem_cons.mpr ⟨ok47, List.forall_mem_cons.mpr ⟨ok48, List.forall_mem_cons.mpr ⟨ok49, List.forall_mem_cons.mpr ⟨ok50, List.forall_mem_cons.mpr ⟨ok51, List.forall_mem_nil _⟩⟩⟩⟩⟩⟩⟩⟩⟩⟩⟩⟩⟩⟩⟩⟩⟩⟩⟩⟩⟩⟩⟩⟩⟩⟩⟩⟩⟩⟩⟩⟩⟩⟩⟩⟩⟩⟩⟩⟩⟩⟩⟩⟩⟩⟩⟩⟩⟩⟩⟩⟩
  case fn => exact .cons ⟨_, fun_mk (st := s0) l0 c0 k0, (fun_mk (st := s0) l0 c0 k0).binds fun _ _ _ _ _ _ us hl => match us, hl with | [_], _ => rfl⟩ (.cons ⟨_, fun_mk (st := s1) l1 c1 k1, (fun_mk (st := s1) l1 c1 k1).binds fun _ _ _ _ _ _ us hl => match us, hl with | [_], _ => rfl⟩ (.cons ⟨_, fun_mk (st := s2) l2 c2 k2, (fun_mk (st := s2) l2 c2 k2).binds fun _ _ _ _ _ _ us hl => match us, hl with | [_], _ => rfl⟩ (.cons ⟨_, fun_mk (st := s3) l3 c3 k3, (fun_mk (st := s3) l3 c3 k3).binds fun _ _ _ _ _ _ us hl => match us, hl with | [_, _], _ => rfl⟩ (.cons ⟨_, fun_mk (st := s4) l4 c4 k4, (fun_mk (st := s4) l4 c4 k4).binds fun _ _ _ _ _ _ us hl => match us, hl with | [_, _], _ => rfl⟩ (.cons ⟨_, fun_mk (st := s5) l5 c5 k5, (fun_mk (st := s5) l5 c5 k5).binds fun _ _ _ _ _ _ us hl => match us, hl with | [_], _ => rfl⟩ (.cons ⟨_, fun_mk (st := s6) l6 c6 k6, (fun_mk (st := s6) l6 c6 k6).binds fun _ _ _ _ _ _ us hl => match us, hl with | [_, _], _ => rfl⟩ (.cons ⟨_, fun_mk (st := s7) l7 c7 k7, (fun_mk (st := s7) l7 c7 k7).binds fun _ _ _ _ _ _ us hl => match us, hl with | [_, _], _ => rfl⟩ (.cons ⟨_, fun_mk (st := s8) l8 c8 k8, (fun_mk (st := s8) l8 c8 k8).binds fun _ _ _ _ _ _ us hl => match us, hl with | [_], _ => rfl⟩ (.cons ⟨_, fun_mk (st := s9) l9 c9 k9, (fun_mk (st := s9) l9 c9 k9).binds fun _ _ _ _ _ _ us hl => match us, hl with | [_], _ => rfl⟩ (.cons ⟨_, fun_mk (st := s10) l10 c10 k10, (fun_mk (st := s10) l10 c10 k10).binds fun _ _ _ _ _ _ us hl => match us, hl with | [_, _], _ => rfl⟩ (.cons ⟨_, fun_mk (st := s11) l11 c11 k11, (fun_mk (st := s11) l11 c11 k11).binds fun _ _ _ _ _ _ us hl => match us, hl with | [_], _ => rfl⟩ (.cons ⟨_, fun_mk (st := s12) l12 c12 k12, (fun_mk (st := s12) l12 c12 k12).binds fun _ _ _ _ _ _ us hl => match us, hl with | [_, _], _ => rfl⟩ (.cons ⟨_, fun_mk (st := s13) l13 c13 k13, (fun_mk (st := s13) l13 c13 k13).binds fun _ _ _ _ _ _ us hl => match us, hl with | [_], _ => rfl⟩ (.cons ⟨_, fun_mk (st := s14) l14 c14 k14, (fun_mk (st := s14) l14 c14 k14).binds fun _ _ _ _ _ _ us hl => match us, hl with | [_, _], _ => rfl⟩ (.cons ⟨_, fun_mk (st := s15) l15 c15 k15, (fun_mk (st := s15) l15 c15 k15).binds fun _ _ _ _ _ _ us hl => match us, hl with | [_, _], _ => rfl⟩ (.cons ⟨_, fun_mk (st := s16) l16 c16 k16, (fun_mk (st := s16) l16 c16 k16).binds fun _ _ _ _ _ _ us hl => match us, hl with | [_, _], _ => rfl⟩ (.cons ⟨_, fun_mk (st := s17) l17 c17 k17, (fun_mk (st := s17) l17 c17 k17).binds fun _ _ _ _ _ _ us hl => match us, hl with | [_, _], _ => rfl⟩ (.cons ⟨_, fun_mk (st := s18) l18 c18 k18, (fun_mk (st := s18) l18 c18 k18).binds fun _ _ _ _ _ _ us hl => match us, hl with | [_, _], _ => rfl⟩ (.cons ⟨_, fun_mk (st := s19) l19 c19 k19, (fun_mk (st := s19) l19 c19 k19).binds fun _ _ _ _ _ _ us hl => match us, hl with | [_, _], _ => rfl⟩ (.cons ⟨_, fun_mk (st := s20) l20 c20 k20, (fun_mk (st := s20) l20 c20 k20).binds fun _ _ _ _ _ _ us hl => match us, hl with | [_, _], _ => rfl⟩ (.cons ⟨_, fun_mk (st := s21) l21 c21 k21, (fun_mk (st := s21) l21 c21 k21).binds fun _ _ _ _ _ _ us hl => match us, hl with | [_], _ => rfl⟩ (.cons ⟨_, fun_mk (st := s22) l22 c22 k22, (fun_mk (st := s22) l22 c22 k22).binds fun _ _ _ _ _ _ us hl => match us, hl with | [_, _], _ => rfl⟩ (.cons ⟨_, fun_mk (st := s23) l23 c23 k23, (fun_mk (st := s23) l23 c23 k23).binds fun _ _ _ _ _ _ us hl => match us, hl with | [_, _, _], _ => rfl⟩ (.cons ⟨_, fun_mk (st := s24) l24 c24 k24, (fun_mk (st := s24) l24 c24 k24).binds fun _ _ _ _ _ _ us hl => match us, hl with | [_, _], _ => rfl⟩ (.cons ⟨_, fun_mk (st := s25) l25 c25 k25, (fun_mk (st := s25) l25 c25 k25).binds fun _ _ _ _ _ _ us hl => match us, hl with | [_, _, _], _ => rfl⟩ (.cons ⟨_, fun_mk (st := s26) l26 c26 k26, (fun_mk (st := s26) l26 c26 k26).binds fun _ _ _ _ _ _ us hl => match us, hl with | [_, _], _ => rfl⟩ (.cons ⟨_, fun_mk (st := s27) l27 c27 k27, (fun_mk (st := s27) l27 c27 k27).binds fun _ _ _ _ _ _ us hl => match us, hl with | [_], _ => rfl⟩ (.cons ⟨_, fun_mk (st := s28) l28 c28 k28, (fun_mk (st := s28) l28 c28 k28).binds fun _ _ _ _ _ _ us hl => match us, hl with | [_, _], _ => rfl⟩ (.cons ⟨_, fun_mk (st := s29) l29 c29 k29, (fun_mk (st := s29) l29 c29 k29).binds fun _ _ _ _ _ _ us hl => match us, hl with | [_, _], _ => rfl⟩ (.cons ⟨_, fun_mk (st := s30) l30 c30 k30, (fun_mk (st := s30) l30 c30 k30).binds fun _ _ _ _ _ _ us hl => match us, hl with | [_, _], _ => rfl⟩ (.cons ⟨_, fun_mk (st := s31) l31 c31 k31, (fun_mk (st := s31) l31 c31 k31).binds fun _ _ _ _ _ _ us hl => match us, hl with | [_, _], _ => rfl⟩ (.cons ⟨_, fun_mk (st := s32) l32 c32 k32, (fun_mk (st := s32) l32 c32 k32).binds fun _ _ _ _ _ _ us hl => match us, hl with | [_, _, _], _ => rfl⟩ (.cons ⟨_, fun_mk (st := s33) l33 c33 k33, (fun_mk (st := s33) l33 c33 k33).binds fun _ _ _ _ _ _ us hl => match us, hl with | [_], _ => rfl⟩ (.cons ⟨_, fun_mk (st := s34) l34 c34 k34, (fun_mk (st := s34) l34 c34 k34).binds fun _ _ _ _ _ _ us hl => match us, hl with | [_, _], _ => rfl⟩ (.cons ⟨_, fun_mk (st := s35) l35 c35 k35, (fun_mk (st := s35) l35 c35 k35).binds fun _ _ _ _ _ _ us hl => match us, hl with | [_, _], _ => rfl⟩ (.cons ⟨_, fun_mk (st := s36) l36 c36 k36, (fun_mk (st := s36) l36 c36 k36).binds fun _ _ _ _ _ _ us hl => match us, hl with | [_, _], _ => rfl⟩ (.cons ⟨_, fun_mk (st := s37) l37 c37 k37, (fun_mk (st := s37) l37 c37 k37).binds fun _ _ _ _ _ _ us hl => match us, hl with | [_, _], _ => rfl⟩ (.cons ⟨_, fun_mk (st := s38) l38 c38 k38, (fun_mk (st := s38) l38 c38 k38).binds fun _ _ _ _ _ _ us hl => match us, hl with | [_, _], _ => rfl⟩ (.cons ⟨_, fun_mk (st := s39) l39 c39 k39, (fun_mk (st := s39) l39 c39 k39).binds fun _ _ _ _ _ _ us hl => match us, hl with | [_, _], _ => rfl⟩ (.cons ⟨_, fun_mk (st := s40) l40 c40 k40, (fun_mk (st := s40) l40 c40 k40).binds fun _ _ _ _ _ _ us hl => match us, hl with | [_], _ => rfl⟩ (.cons ⟨_, fun_mk (st := s41) l41 c41 k41, (fun_mk (st := s41) l41 c41 k41).binds fun _ _ _ _ _ _ us hl => match us, hl with | [_, _], _ => rfl⟩ (.cons ⟨_, fun_mk (st := s42) l42 c42 k42, (fun_mk (st := s42) l42 c42 k42).binds fun _ _ _ _ _ _ us hl => match us, hl with | [_, _], _ => rfl⟩ (.cons ⟨_, fun_mk (st := s43) l43 c43 k43, (fun_mk (st := s43) l43 c43 k43).binds fun _ _ _ _ _ _ us hl => match us, hl with | [_], _ => rfl⟩ (.cons ⟨_, fun_mk (st := s44) l44 c44 k44, (fun_mk (st := s44) l44 c44 k44).binds fun _ _ _ _ _ _ us hl => match us, hl with | [_, _], _ => rfl⟩ (.cons ⟨_, fun_mk (st := s45) l45 c45 k45, (fun_mk (st := s45) l45 c45 k45).binds fun _ _ _ _ _ _ us hl => match us, hl with | [_, _], _ => rfl⟩ (.cons ⟨_, fun_mk (st := s46) l46 c46 k46, (fun_mk (st := s46) l46 c46 k46).binds fun _ _ _ _ _ _ us hl => match us, hl with | [_, _], _ => rfl⟩ (.cons ⟨_, fun_mk (st := s47) l47 c47 k47, (fun_mk (st := s47) l47 c47 k47).binds fun _ _ _ _ _ _ us hl => match us, hl with | [_, _], _ => rfl⟩ (.cons ⟨_, fun_mk (st := s48) l48 c48 k48, (fun_mk (st := s48) l48 c48 k48).binds fun _ _ _ _ _ _ us hl => match us, hl with | [_, _], _ => rfl⟩ (.cons ⟨_, fun_mk (st := s49) l49 c49 k49, (fun_mk (st := s49) l49 c49 k49).binds fun _ _ _ _ _ _ us hl => match us, hl with | [_, _], _ => rfl⟩ (.cons ⟨_, fun_mk (st := s50) l50 c50 k50, (fun_mk (st := s50) l50 c50 k50).binds fun _ _ _ _ _ _ us hl => match us, hl with | [_], _ => rfl⟩ (.cons ⟨_, fun_mk (st := s51) l51 c51 k51, (fun_mk (st := s51) l51 c51 k51).binds fun _ _ _ _ _ _ us hl => match us, hl with | [_], _ => rfl⟩ (.nil))))))))))))))))))))))))))))))))))))))))))))))))))))
  case fns => exact List.forall_mem_cons.mpr ⟨⟨f0, rfl, PySem.W.mg_of X G a0⟩, List.forall_mem_cons.mpr ⟨⟨f1, rfl, PySem.W.mg_of X G a1⟩, List.forall_mem_cons.mpr ⟨⟨f2, rfl, PySem.W.mg_of X G a2⟩, List.forall_mem_cons.mpr ⟨⟨f3, rfl, PySem.W.mg_of X G a3⟩, List.forall_mem_cons.mpr ⟨⟨f4, rfl, PySem.W.mg_of X G a4⟩, List.forall_mem_cons.mpr ⟨⟨f5, rfl, PySem.W.mg_of X G a5⟩, List.forall_mem_cons.mpr ⟨⟨f6, rfl, PySem.W.mg_of X G a6⟩, List.forall_mem_cons.mpr ⟨⟨f7, rfl, PySem.W.mg_of X G a7⟩, List.forall_mem_cons.mpr ⟨⟨f8, rfl, PySem.W.mg_of X G a8⟩, List.forall_mem_cons.mpr ⟨⟨f9, rfl, PySem.W.mg_of X G a9⟩, List.forall_mem_cons.mpr ⟨⟨f10, rfl, PySem.W.mg_of X G a10⟩, List.forall_mem_cons.mpr ⟨⟨f11, rfl, PySem.W.mg_of X G a11⟩, List.forall_mem_cons.mpr ⟨⟨f12, rfl, PySem.W.mg_of X G a12⟩, List.forall_mem_cons.mpr ⟨⟨f13, rfl, PySem.W.mg_of X G a13⟩, List.forall_mem_cons.mpr ⟨⟨f14, rfl, PySem.W.mg_of X G a14⟩, List.forall_mem_cons.mpr ⟨⟨f15, rfl, PySem.W.mg_of X G a15⟩, List.forall_mem_cons.mpr ⟨⟨f16, rfl, PySem.W.mg_of X G a16⟩, List.forall_mem_cons.mpr ⟨⟨f17, rfl, PySem.W.mg_of X G a17⟩, List.forall_mem_cons.mpr ⟨⟨f18, rfl, PySem.W.mg_of X G a18⟩, List.forall_mem_cons.mpr ⟨⟨f19, rfl, PySem.W.mg_of X G a19⟩, List.forall_mem_cons.mpr ⟨⟨f20, rfl, PySem.W.mg_of X G a20⟩, List.forall_mem_cons.mpr ⟨⟨f21, rfl, PySem.W.mg_of X G a21⟩, List.forall_mem_cons.mpr ⟨⟨f22, rfl, PySem.W.mg_of X G a22⟩, List.forall_mem_cons.mpr ⟨⟨f27, rfl, PySem.W.mg_of X G a27⟩, List.forall_mem_cons.mpr ⟨⟨f28, rfl, PySem.W.mg_of X G a28⟩, List.forall_mem_cons.mpr ⟨⟨f29, rfl, PySem.W.mg_of X G a29⟩, List.forall_mem_cons.mpr ⟨⟨f30, rfl, PySem.W.mg_of X G a30⟩, List.forall_mem_cons.mpr ⟨⟨f31, rfl, PySem.W.mg_of X G a31⟩, List.forall_mem_cons.mpr ⟨⟨f32, rfl, PySem.W.mg_of X G a32⟩, List.forall_mem_cons.mpr ⟨⟨f33, rfl, PySem.W.mg_of X G a33⟩, List.forall_mem_cons.mpr ⟨⟨f34, rfl, PySem.W.mg_of X G a34⟩, List.forall_mem_cons.mpr ⟨⟨f35, rfl, PySem.W.mg_of X G a35⟩, List.forall_mem_cons.mpr ⟨⟨f36, rfl, PySem.W.mg_of X G a36⟩, List.forall_mem_cons.mpr ⟨⟨f37, rfl, PySem.W.mg_of X G a37⟩, List.forall_mem_cons.mpr ⟨⟨f38, rfl, PySem.W.mg_of X G a38⟩, List.forall_mem_cons.mpr ⟨⟨f39, rfl, PySem.W.mg_of X G a39⟩, List.forall_mem_cons.mpr ⟨⟨f40, rfl, PySem.W.mg_of X G a40⟩, List.forall_mem_cons.mpr ⟨⟨f41, rfl, PySem.W.mg_of X G a41⟩, List.forall_mem_cons.mpr ⟨⟨f42, rfl, PySem.W.mg_of X G a42⟩, List.forall_mem_cons.mpr ⟨⟨f43, rfl, PySem.W.mg_of X G a43⟩, List.forall_mem_cons.mpr ⟨⟨f44, rfl, PySem.W.mg_of X G a44⟩, List.forall_mem_cons.mpr ⟨⟨f45, rfl, PySem.W.mg_of X G a45⟩, List.forall_mem_cons.mpr ⟨⟨f46, rfl, PySem.W.mg_of X G a46⟩, List.forall_mem_cons.mpr ⟨⟨f47, rfl, PySem.W.mg_of X G a47⟩, List.forall_mem_cons.mpr ⟨⟨f48, rfl, PySem.W.mg_of X G a48⟩, List.forall_mem_cons.mpr ⟨⟨f49, rfl, PySem.W.mg_of X G a49⟩, List.forall_mem_cons.mpr ⟨⟨f50, rfl, PySem.W.mg_of X G a50⟩, List.forall_mem_cons.mpr ⟨⟨f51, rfl, PySem.W.mg_of X G a51⟩, List.forall_mem_nil _⟩⟩⟩⟩⟩⟩⟩⟩⟩⟩⟩⟩⟩⟩⟩⟩⟩⟩⟩⟩⟩⟩⟩⟩⟩⟩⟩⟩⟩⟩⟩⟩⟩⟩⟩⟩⟩⟩⟩⟩⟩⟩⟩⟩⟩⟩⟩⟩
  case gl => exact List.forall_mem_cons.mpr ⟨⟨_, _, .int (65), rfl, PySem.W.mg_of X G g0, ⟨_, rfl⟩, fun _ _ => is_int.mpr rfl⟩, List.forall_mem_cons.mpr ⟨⟨_, _, .int (37), rfl, PySem.W.mg_of X G g1, ⟨_, rfl⟩, fun _ _ => is_int.mpr rfl⟩, List.forall_mem_cons.mpr ⟨⟨_, _, .int (64), rfl, PySem.W.mg_of X G g2, ⟨_, rfl⟩, fun _ _ => is_int.mpr rfl⟩, List.forall_mem_nil _⟩⟩⟩
  case cls => exact List.forall_mem_cons.mpr ⟨⟨C0, rfl, PySem.W.mg_of X G aC0, ⟨mk0, kp0⟩, fun io hio => by cases hio; exact ⟨f23, rfl, in0, fn0⟩⟩, List.forall_mem_cons.mpr ⟨⟨C1, rfl, PySem.W.mg_of X G aC1, ⟨mk1, kp1⟩, fun io hio => by cases hio; exact ⟨f25, rfl, in1, fn1⟩⟩, List.forall_mem_nil _⟩⟩
  case atr =>
    intro i C f hC hf
    have q : ∀ C ∈ [C0, C1], ∀ f ∈ gAtrs, NoAttr K C f := List.forall_mem_cons.mpr ⟨List.forall_mem_cons.mpr ⟨na0x0, List.forall_mem_cons.mpr ⟨na0x1, List.forall_mem_cons.mpr ⟨na0x2, List.forall_mem_cons.mpr ⟨na0x3, List.forall_mem_nil _⟩⟩⟩⟩, List.forall_mem_cons.mpr ⟨List.forall_mem_cons.mpr ⟨na1x0, List.forall_mem_cons.mpr ⟨na1x1, List.forall_mem_cons.mpr ⟨na1x2, List.forall_mem_cons.mpr ⟨na1x3, List.forall_mem_nil _⟩⟩⟩⟩, List.forall_mem_nil _⟩⟩
    exact q C (List.mem_of_getElem? hC) f hf
  case clsOk => exact clsOk_of (List.forall_mem_cons.mpr ⟨⟨⟨pg0, hd0, po0, sa0⟩, la0, mo0, ty0, by rw [ci0]; rfl, List.forall_mem_cons.mpr ⟨su0int, List.forall_mem_cons.mpr ⟨su0bool, List.forall_mem_cons.mpr ⟨su0str, List.forall_mem_cons.mpr ⟨su0tuple, List.forall_mem_cons.mpr ⟨su0list, List.forall_mem_nil _⟩⟩⟩⟩⟩, en0⟩, List.forall_mem_cons.mpr ⟨⟨⟨pg1, hd1, po1, sa1⟩, la1, mo1, ty1, by rw [ci1]; rfl, List.forall_mem_cons.mpr ⟨su1int, List.forall_mem_cons.mpr ⟨su1bool, List.forall_mem_cons.mpr ⟨su1str, List.forall_mem_cons.mpr ⟨su1tuple, List.forall_mem_cons.mpr ⟨su1list, List.forall_mem_nil _⟩⟩⟩⟩⟩, en1⟩, List.forall_mem_nil _⟩⟩) nd clg clt (List.forall_mem_cons.mpr ⟨List.forall_mem_cons.mpr ⟨fun z => absurd rfl z, List.forall_mem_cons.mpr ⟨fun _ => sp0x1, List.forall_mem_nil _⟩⟩, List.forall_mem_cons.mpr ⟨List.forall_mem_cons.mpr ⟨fun _ => sp1x0, List.forall_mem_cons.mpr ⟨fun z => absurd rfl z, List.forall_mem_nil _⟩⟩, List.forall_mem_nil _⟩⟩)
  case eqn =>
    intro i C io hC hio
    match i with
    | 0 => cases hC; cases hio; exact ⟨f24, rfl, ee0, fe0⟩
    | 1 => cases hC; cases hio; exact ⟨f26, rfl, ee1, fe1⟩
    | _ + 2 => simp at hC
  case gcd => exact fun _ => PySem.W.mg_of X G zg
  case free => exact List.forall_mem_cons.mpr ⟨PySem.W.mg_none_of X G z0, List.forall_mem_cons.mpr ⟨PySem.W.mg_none_of X G z1, List.forall_mem_cons.mpr ⟨PySem.W.mg_none_of X G z2, List.forall_mem_cons.mpr ⟨PySem.W.mg_none_of X G z3, List.forall_mem_cons.mpr ⟨PySem.W.mg_none_of X G z4, List.forall_mem_cons.mpr ⟨PySem.W.mg_none_of X G z5, List.forall_mem_cons.mpr ⟨PySem.W.mg_none_of X G z6, List.forall_mem_cons.mpr ⟨PySem.W.mg_none_of X G z7, List.forall_mem_cons.mpr ⟨PySem.W.mg_none_of X G z8, List.forall_mem_cons.mpr ⟨PySem.W.mg_none_of X G z9, List.forall_mem_cons.mpr ⟨PySem.W.mg_none_of X G z10, List.forall_mem_cons.mpr ⟨PySem.W.mg_none_of X G z11, List.forall_mem_cons.mpr ⟨PySem.W.mg_none_of X G z12, List.forall_mem_nil _⟩⟩⟩⟩⟩⟩⟩⟩⟩⟩⟩⟩⟩
end K56
end

section
set_option maxHeartbeats 0
set_option maxHeartbeats 0
set_option Elab.async false
set_option linter.all false
set_option maxRecDepth 100000
namespace K56
open PySem L2 Co
theorem walk {l : PySem.W.OpenLaw} {q : Program} {loose : List Str} {XP : (Str → Option Value) → Heap → Prop} {YP : World → Heap → Prop} {d : DefRec} {K : Params → PySem.W.Frag} (hn : l.most = some 63) (hdf : d.params.defaults = [])
    (hY : ∀ (w : World) (h : Heap), YP w h → (K w.params).In h)
    (F : ∀ (w : World) (mg : Str → Option Value) (fa : Addr) (h : Heap), (K w.params).In h → h.Ns mainGlobals mg → mg d.name = some (.ref fa) →
      ∃ fd : FuncData, (∀ (s : Shared) (u : Value), BindsTo s fd ⟨[u], []⟩ [("script", u)]) ∧ ∀ base : Heap, (K w.params).In base → base.Ns mainGlobals mg → FnOk l.prog w (K w.params) mg base CX0 20 fa fd ["script"] (spLaw (K w.params))) :
    PySem.W.WalkO q loose XP YP l.row.toRowW d [] (fun f vs => PySem.call f vs) :=
  L2.walk_of (n := 63) (k := 20) (x := "script") (CX := fun _ => CX0) (sp := fun w => spLaw (K w.params)) hn (by decide) hdf ⟨rfl, by decide, by decide⟩ hY F (fun _ _ a ns hl _ hS => ⟨a, ns, rfl, hS, hl, fun _ => rfl⟩) fun _ _ _ _ _ z => z
theorem law_mk {l : PySem.W.OpenLaw} {w : World} {K : PySem.W.Frag} {mg : Str → Option Value} {faL : Addr} (hfa : mg "law" = some (.ref faL)) {fa cl : List Addr} (A : L.At K mg fa cl) :
    ∃ fd : FuncData, (∀ (s : Shared) (u : Value), BindsTo s fd ⟨[u], []⟩ [("script", u)]) ∧ ∀ base : Heap, K.In base → base.Ns mainGlobals mg → FnOk l.prog w K mg base CX0 20 faL fd ["script"] (spLaw K) := by
  obtain ⟨f, h1, fd, F, B⟩ := Paired.at A.fn 51 d51 rfl
  obtain ⟨f', h2, h3⟩ := A.fns (("law" : Str), 51) (by simp [L, gFns])
  have e1 : f' = f := by
    have h2 : fa[51]? = some f' := h2
    rw [h1] at h2
    exact (Option.some.inj h2).symm
  subst e1
  have e2 : f' = faL := by
    have h3 : mg "law" = some (.ref f') := h3
    rw [hfa] at h3
    cases h3
    rfl
  subst e2
  obtain ⟨oc, od, kV, doc, pm, an, cdv, ct, osl, rfl, lk, hcd⟩ := F.ex
  exact ⟨_, fun s v => .of_eq rfl, fun base _ _ => law_ok A (i := 51) rfl h1 F rfl math⟩
end K56
open PySem PySem.W PyProof.Rows
set_option maxRecDepth 100000 in
theorem PySem.Challenge.cw_roundfractions_k56_judge_shared_and_unsh_holds : PySem.Challenge.rw_roundfractions_k56_judge_shared_and_unsh.Holds := by
  w_on; o_law; k_head; (case hw => w_witness2)
  k_fill
  refine K56.walk (l := PySem.Challenge.rw_roundfractions_k56_judge_shared_and_unsh) rfl rfl (fun w h Y => PySem.W.kIn_of Y) ?F
  case F =>
    intro w mg fa h KX G hmg
    refine' K56.law_mk hmg (K56.at_mk KX G ?q_aC0 ?q_aC1 ?q_pg0 ?q_hd0 ?q_po0 ?q_sa0 ?q_la0 ?q_mo0 ?q_ty0 ?q_ci0 ?q_mk0 ?q_kp0 ?q_ee0 ?q_fe0 ?q_en0 ?q_su0int ?q_su0bool ?q_su0str ?q_su0tuple ?q_su0list ?q_sp0x1 ?q_na0x0 ?q_na0x1 ?q_na0x2 ?q_na0x3 ?q_in0 ?q_fn0 ?q_pg1 ?q_hd1 ?q_po1 ?q_sa1 ?q_la1 ?q_mo1 ?q_ty1 ?q_ci1 ?q_mk1 ?q_kp1 ?q_ee1 ?q_fe1 ?q_en1 ?q_su1int ?q_su1bool ?q_su1str ?q_su1tuple ?q_su1list ?q_sp1x0 ?q_na1x0 ?q_na1x1 ?q_na1x2 ?q_na1x3 ?q_in1 ?q_fn1 ?q_a0 ?q_l0 ?q_c0 ?q_k0 ?q_a1 ?q_l1 ?q_c1 ?q_k1 ?q_a2 ?q_l2 ?q_c2 ?q_k2 ?q_a3 ?q_l3 ?q_c3 ?q_k3 ?q_a4 ?q_l4 ?q_c4 ?q_k4 ?q_a5 ?q_l5 ?q_c5 ?q_k5 ?q_a6 ?q_l6 ?q_c6 ?q_k6 ?q_a7 ?q_l7 ?q_c7 ?q_k7 ?q_a8 ?q_l8 ?q_c8 ?q_k8 ?q_a9 ?q_l9 ?q_c9 ?q_k9 ?q_a10 ?q_l10 ?q_c10 ?q_k10 ?q_a11 ?q_l11 ?q_c11 ?q_k11 ?q_a12 ?q_l12 ?q_c12 ?q_k12 ?q_a13 ?q_l13 ?q_c13 ?q_k13 ?q_a14 ?q_l14 ?q_c14 ?q_k14 ?q_a15 ?q_l15 ?q_c15 ?q_k15 ?q_a16 ?q_l16 ?q_c16 ?q_k16 ?q_a17 ?q_l17 ?q_c17 ?q_k17 ?q_a18 ?q_l18 ?q_c18 ?q_k18 ?q_a19 ?q_l19 ?q_c19 ?q_k19 ?q_a20 ?q_l20 ?q_c20 ?q_k20 ?q_a21 ?q_l21 ?q_c21 ?q_k21 ?q_a22 ?q_l22 ?q_c22 ?q_k22 ?q_l23 ?q_c23 ?q_k23 ?q_l24 ?q_c24 ?q_k24 ?q_l25 ?q_c25 ?q_k25 ?q_l26 ?q_c26 ?q_k26 ?q_a27 ?q_l27 ?q_c27 ?q_k27 ?q_a28 ?q_l28 ?q_c28 ?q_k28 ?q_a29 ?q_l29 ?q_c29 ?q_k29 ?q_a30 ?q_l30 ?q_c30 ?q_k30 ?q_a31 ?q_l31 ?q_c31 ?q_k31 ?q_a32 ?q_l32 ?q_c32 ?q_k32 ?q_a33 ?q_l33 ?q_c33 ?q_k33 ?q_a34 ?q_l34 ?q_c34 ?q_k34 ?q_a35 ?q_l35 ?q_c35 ?q_k35 ?q_a36 ?q_l36 ?q_c36 ?q_k36 ?q_a37 ?q_l37 ?q_c37 ?q_k37 ?q_a38 ?q_l38 ?q_c38 ?q_k38 ?q_a39 ?q_l39 ?q_c39 ?q_k39 ?q_a40 ?q_l40 ?q_c40 ?q_k40 ?q_a41 ?q_l41 ?q_c41 ?q_k41 ?q_a42 ?q_l42 ?q_c42 ?q_k42 ?q_a43 ?q_l43 ?q_c43 ?q_k43 ?q_a44 ?q_l44 ?q_c44 ?q_k44 ?q_a45 ?q_l45 ?q_c45 ?q_k45 ?q_a46 ?q_l46 ?q_c46 ?q_k46 ?q_a47 ?q_l47 ?q_c47 ?q_k47 ?q_a48 ?q_l48 ?q_c48 ?q_k48 ?q_a49 ?q_l49 ?q_c49 ?q_k49 ?q_a50 ?q_l50 ?q_c50 ?q_k50 ?q_a51 ?q_l51 ?q_c51 ?q_k51 ?q_g0 ?q_g1 ?q_g2 ?q_z0 ?q_z1 ?q_z2 ?q_z3 ?q_z4 ?q_z5 ?q_z6 ?q_z7 ?q_z8 ?q_z9 ?q_z10 ?q_z11 ?q_z12 ?q_zg ?q_clg ?q_clt ?q_nd)
    (case q_aC0 => k_is)
    (case q_aC1 => k_is)
    (case q_pg0 => k_is)
    (case q_hd0 => k_is)
    (case q_po0 => k_is)
    (case q_sa0 => k_is)
    (case q_la0 => k_is)
    (case q_mo0 => k_is)
    (case q_ty0 => k_is)
    (case q_ci0 => k_is)
    (case q_mk0 => k_is)
    (case q_kp0 => k_is)
    (case q_ee0 => k_is)
    (case q_fe0 => k_is)
    (case q_en0 => k_is)
    (case q_su0int => k_is)
    (case q_su0bool => k_is)
    (case q_su0str => k_is)
    (case q_su0tuple => k_is)
    (case q_su0list => k_is)
    (case q_sp0x1 => k_is)
    (case q_na0x0 => k_is)
    (case q_na0x1 => k_is)
    (case q_na0x2 => k_is)
    (case q_na0x3 => k_is)
    (case q_in0 => k_is)
    (case q_fn0 => k_is)
    (case q_pg1 => k_is)
    (case q_hd1 => k_is)
    (case q_po1 => k_is)
    (case q_sa1 => k_is)
    (case q_la1 => k_is)
    (case q_mo1 => k_is)
    (case q_ty1 => k_is)
    (case q_ci1 => k_is)
    (case q_mk1 => k_is)
    (case q_kp1 => k_is)
    (case q_ee1 => k_is)
    (case q_fe1 => k_is)
    (case q_en1 => k_is)
    (case q_su1int => k_is)
    (case q_su1bool => k_is)
    (case q_su1str => k_is)
    (case q_su1tuple => k_is)
    (case q_su1list => k_is)
    (case q_sp1x0 => k_is)
    (case q_na1x0 => k_is)
    (case q_na1x1 => k_is)
    (case q_na1x2 => k_is)
    (case q_na1x3 => k_is)
    (case q_in1 => k_is)
    (case q_fn1 => k_is)
    (case q_a0 => k_is)
    (case q_l0 => k_is)
    (case q_c0 => k_is)
    (case q_k0 => k_is)
    (case q_a1 => k_is)
    (case q_l1 => k_is)
    (case q_c1 => k_is)
    (case q_k1 => k_is)
    (case q_a2 => k_is)
    (case q_l2 => k_is)
    (case q_c2 => k_is)
    (case q_k2 => k_is)
    (case q_a3 => k_is)
    (case q_l3 => k_is)
    (case q_c3 => k_is)
    (case q_k3 => k_is)
    (case q_a4 => k_is)
    (case q_l4 => k_is)
    (case q_c4 => k_is)
    (case q_k4 => k_is)
    (case q_a5 => k_is)
    (case q_l5 => k_is)
    (case q_c5 => k_is)
    (case q_k5 => k_is)
    (case q_a6 => k_is)
    (case q_l6 => k_is)
    (case q_c6 => k_is)
    (case q_k6 => k_is)
    (case q_a7 => k_is)
    (case q_l7 => k_is)
    (case q_c7 => k_is)
    (case q_k7 => k_is)
    (case q_a8 => k_is)
    (case q_l8 => k_is)
    (case q_c8 => k_is)
    (case q_k8 => k_is)
    (case q_a9 => k_is)
    (case q_l9 => k_is)
    (case q_c9 => k_is)
    (case q_k9 => k_is)
    (case q_a10 => k_is)
    (case q_l10 => k_is)
    (case q_c10 => k_is)
    (case q_k10 => k_is)
    (case q_a11 => k_is)
    (case q_l11 => k_is)
    (case q_c11 => k_is)
    (case q_k11 => k_is)
    (case q_a12 => k_is)
    (case q_l12 => k_is)
    (case q_c12 => k_is)
    (case q_k12 => k_is)
    (case q_a13 => k_is)
    (case q_l13 => k_is)
    (case q_c13 => k_is)
    (case q_k13 => k_is)
    (case q_a14 => k_is)
    (case q_l14 => k_is)
    (case q_c14 => k_is)
    (case q_k14 => k_is)
    (case q_a15 => k_is)
    (case q_l15 => k_is)
    (case q_c15 => k_is)
    (case q_k15 => k_is)
    (case q_a16 => k_is)
    (case q_l16 => k_is)
    (case q_c16 => k_is)
    (case q_k16 => k_is)
    (case q_a17 => k_is)
    (case q_l17 => k_is)
    (case q_c17 => k_is)
    (case q_k17 => k_is)
    (case q_a18 => k_is)
    (case q_l18 => k_is)
    (case q_c18 => k_is)
    (case q_k18 => k_is)
    (case q_a19 => k_is)
    (case q_l19 => k_is)
    (case q_c19 => k_is)
    (case q_k19 => k_is)
    (case q_a20 => k_is)
    (case q_l20 => k_is)
    (case q_c20 => k_is)
    (case q_k20 => k_is)
    (case q_a21 => k_is)
    (case q_l21 => k_is)
    (case q_c21 => k_is)
    (case q_k21 => k_is)
    (case q_a22 => k_is)
    (case q_l22 => k_is)
    (case q_c22 => k_is)
    (case q_k22 => k_is)
    (case q_l23 => k_is)
    (case q_c23 => k_is)
    (case q_k23 => k_is)
    (case q_l24 => k_is)
    (case q_c24 => k_is)
    (case q_k24 => k_is)
    (case q_l25 => k_is)
    (case q_c25 => k_is)
    (case q_k25 => k_is)
    (case q_l26 => k_is)
    (case q_c26 => k_is)
    (case q_k26 => k_is)
    (case q_a27 => k_is)
    (case q_l27 => k_is)
    (case q_c27 => k_is)
    (case q_k27 => k_is)
    (case q_a28 => k_is)
    (case q_l28 => k_is)
    (case q_c28 => k_is)
    (case q_k28 => k_is)
    (case q_a29 => k_is)
    (case q_l29 => k_is)
    (case q_c29 => k_is)
    (case q_k29 => k_is)
    (case q_a30 => k_is)
    (case q_l30 => k_is)
    (case q_c30 => k_is)
    (case q_k30 => k_is)
    (case q_a31 => k_is)
    (case q_l31 => k_is)
    (case q_c31 => k_is)
    (case q_k31 => k_is)
    (case q_a32 => k_is)
    (case q_l32 => k_is)
    (case q_c32 => k_is)
    (case q_k32 => k_is)
    (case q_a33 => k_is)
    (case q_l33 => k_is)
    (case q_c33 => k_is)
    (case q_k33 => k_is)
    (case q_a34 => k_is)
    (case q_l34 => k_is)
    (case q_c34 => k_is)
    (case q_k34 => k_is)
    (case q_a35 => k_is)
    (case q_l35 => k_is)
    (case q_c35 => k_is)
    (case q_k35 => k_is)
    (case q_a36 => k_is)
    (case q_l36 => k_is)
    (case q_c36 => k_is)
    (case q_k36 => k_is)
    (case q_a37 => k_is)
    (case q_l37 => k_is)
    (case q_c37 => k_is)
    (case q_k37 => k_is)
    (case q_a38 => k_is)
    (case q_l38 => k_is)
    (case q_c38 => k_is)
    (case q_k38 => k_is)
    (case q_a39 => k_is)
    (case q_l39 => k_is)
    (case q_c39 => k_is)
    (case q_k39 => k_is)
    (case q_a40 => k_is)
    (case q_l40 => k_is)
    (case q_c40 => k_is)
    (case q_k40 => k_is)
    (case q_a41 => k_is)
    (case q_l41 => k_is)
    (case q_c41 => k_is)
    (case q_k41 => k_is)
    (case q_a42 => k_is)
    (case q_l42 => k_is)
    (case q_c42 => k_is)
    (case q_k42 => k_is)
    (case q_a43 => k_is)
    (case q_l43 => k_is)
    (case q_c43 => k_is)
    (case q_k43 => k_is)
    (case q_a44 => k_is)
    (case q_l44 => k_is)
    (case q_c44 => k_is)
    (case q_k44 => k_is)
    (case q_a45 => k_is)
    (case q_l45 => k_is)
    (case q_c45 => k_is)
    (case q_k45 => k_is)
    (case q_a46 => k_is)
    (case q_l46 => k_is)
    (case q_c46 => k_is)
    (case q_k46 => k_is)
    (case q_a47 => k_is)
    (case q_l47 => k_is)
    (case q_c47 => k_is)
    (case q_k47 => k_is)
    (case q_a48 => k_is)
    (case q_l48 => k_is)
    (case q_c48 => k_is)
    (case q_k48 => k_is)
    (case q_a49 => k_is)
    (case q_l49 => k_is)
    (case q_c49 => k_is)
    (case q_k49 => k_is)
    (case q_a50 => k_is)
    (case q_l50 => k_is)
    (case q_c50 => k_is)
    (case q_k50 => k_is)
    (case q_a51 => k_is)
    (case q_l51 => k_is)
    (case q_c51 => k_is)
    (case q_k51 => k_is)
    (case q_g0 => k_is)
    (case q_g1 => k_is)
    (case q_g2 => k_is)
    (case q_z0 => k_is)
    (case q_z1 => k_is)
    (case q_z2 => k_is)
    (case q_z3 => k_is)
    (case q_z4 => k_is)
    (case q_z5 => k_is)
    (case q_z6 => k_is)
    (case q_z7 => k_is)
    (case q_z8 => k_is)
    (case q_z9 => k_is)
    (case q_z10 => k_is)
    (case q_z11 => k_is)
    (case q_z12 => k_is)
    (case q_zg => k_is)
    (case q_clg => k_is)
    (case q_clt => k_is)
    (case q_nd => decide)
#print axioms PySem.Challenge.cw_roundfractions_k56_judge_shared_and_unsh_holds
end
