import PyProof.Rows.All
import Wide.All
import OpenK.AllK
import Wide.FinOn
import KE.KOpsOwn
import HandS.Style
import HandS.TupAny
import KE.GoesMore
import KE.GoesEnum
import HandS.Iter
import PyProof.AutoSeq1
import HandS.List
import HandS.ForMost
import HandS.Wide
import PyProof.InstEq
import HandS.Flow
import HandS.ClsMeth
import HandS.TupMul
import HandS.Star
import HandS.Property
import HandS.CallRecv
import HandS.MakeKw
import HandS.IterVal
import HandS.SortInts
import HandS.Text
import HandS.IsInst
import HandS.FStr
import HandS.DictComp
import HandS.TupLe
import HandS.Zip
import HandS.Dict
import KE.KOwnIter
import HandS.Codes
import HandS.Defaults
import HandS.HeadHook4
import HandS.Head2
import HandS.HeadEnd
import PySem.Challenge.RW_pagefloor_k15_whole_books_in_order_of_wh
section
set_option Elab.async false
set_option linter.all false
set_option maxRecDepth 100000
set_option maxHeartbeats 4000000
namespace PySem.W
open PySem PySem.Calls PyProof.Rows
variable {K : Frag} {M : Model} {h : Heap} {C : Addr} {nm : String} {f x L : Addr} {h₀ : Heap} {m : Str → Option Value} {ox : Obj} {od : Option Obj} {E : Value → Shared → Prop} {s : Shared} {A : Around} {prog : Program} {w : World}
/-- no __iadd__ and its like -/
def noIn (K : Frag) (C : Addr) (nm : String) : Bool := (clsIn K C).any fun cd => cd.mro.all fun c => findIn K c (dunderI nm) == some none
theorem looks_anyM_false {add : Bool} (X : K.In h) : ∀ (l : List Value), (∀ c ∈ l, findIn K c (dunderI nm) = some none) → Looks M h (l.anyM fun c => do
    let some x ← typeLookup c (dunderI nm) | return false
    if let .type _ := c then return !isSeqSlot (some x)
    if !ownNameWrapper x (dunderI nm) then return true
    if !(← inheritsSeqSlot c (dunderI nm)) then return true
    if add then return (← seqSlot? c (dunderI nm)).isSome
    return false) false
  | [], _ => .now
  | c :: l, hl => by
    intro A Q E s k q
    have X' : K.In s.heap := X.keeps k
    have L1 : Looks M s.heap (typeLookup c (dunderI nm)) none := looks_findIn X' (hl c (by simp))
    rw [List.anyM_cons]
    refine wpAny_bind ?_
    refine wpAny_bind (L1.here ?_)
    refine wpAny_pure ?_
    exact looks_anyM_false X l (fun d hd => hl d (List.mem_cons_of_mem _ hd)) A Q E s k q
theorem fills_not {add : Bool} (X : K.In h) (hn : noIn K C nm = true) : Looks M h (fillsInplaceSlot (.ref C) nm add) false := by
  obtain ⟨cd, hc, hm⟩ := any_some hn
  intro A Q E s k q
  have Lm : Looks M h (mroOf (.ref C)) cd.mro := (looks_clsIn X hc).andThen (f := fun cd => pure cd.mro) .now
  have hall : ∀ c ∈ cd.mro, findIn K c (dunderI nm) = some none := fun c hc => by
    have := List.all_eq_true.mp hm c hc
    exact beq_iff_eq.mp this
  unfold fillsInplaceSlot
  refine wpAny_bind (Lm.keeps k |>.here ?_)
  exact looks_anyM_false X cd.mro hall A Q E s k q
/-- x op= b, x's class without a method of that kind: as x op b -/
theorem inplace_own {op : Operator} {b : Value} {Q : Value → Shared → Prop} (F : Fr h₀ L s.heap m) (X₀ : K.In h₀) (I : InstAt s.heap x ox C od) (hb : Looks (model prog w) s.heap (typeOf b) (.ref C)) (hc : selfFirst K C = true) (hn : noIn K C op.info.2 = true)
    (hs : findIn K (.ref C) (PySem.dunder op.info.2) = some (some (.ref f))) (hf : isFn K (.ref f) = true)
    (h : wpAny (model prog w) A (call (.ref f) [.ref x, b]) (CmpBack Q) E s) : wpAny (model prog w) A (inplaceOp op (.ref x) b) Q E s := by
  have X := X₀.keeps F.keep
  obtain ⟨cd, rest, hcd, hm⟩ := ksp_first hc
  unfold inplaceOp
  refine wpAny_holding ?_
  refine wpAny_bind (I.type.here ?_)
  refine wpAny_bind ((fills_not X hn).here ?_)
  simp only [Bool.false_eq_true, if_false]
  refine wpAny_bind ?_
  unfold binaryOp1
  refine wpAny_bind (I.type.here (wpAny_bind (hb.here (wpAny_bind ((fills_K X hcd hm hs).here ?_)))))
  simp only [beq_self_eq_true, if_true]
  refine wpAny_bind (wpAny_pure ?_)
  simp only [Bool.and_false, Bool.false_eq_true, if_false, Bool.false_and]
  refine wpAny_bind (wpAny_pure ?_)
  simp only [Bool.false_eq_true, if_false]
  refine wpAny_bind (m := tryMethod (.ref x) _ b) ?_
  unfold tryMethod
  refine wpAny_bind (special_fn X I hs (beq_iff_eq.mp hf) (wpAny_mono h (fun v s' hv => ?_) fun _ _ e => e))
  cases v <;> first | exact hv.elim | exact wpAny_pure (wpAny_pure (wpAny_pure hv))
end PySem.W
end
section
set_option Elab.async false
set_option linter.all false
set_option maxRecDepth 100000
namespace HT
open PySem PySem.Spec PyProof.Rows
section
variable {prog : Program} {w : World} {A : Around} {E : Value → Shared → Prop} {s : Shared}
theorem sliceApplied_rev {sl : Addr} {u : Tok} {n : Nat} {Q : Int × Int × Nat → Shared → Prop} (hs : s.heap.IsSliceOf sl .none .none (.int (-1) u))
    (h : Q ((n : Int) - 1, -1, n) s) : wpAny (model prog w) A (Builtin.Slice.sliceApplied (.ref sl) (pure (n : Int))) Q E s := by
  obtain ⟨os, hos, hcs, hds⟩ := id hs
  unfold Builtin.Slice.sliceApplied Builtin.Slice.sliceFields
  refine wpAny_bind (wpAny_bind (wpAny_field hos hds (x := .none) rfl (wpAny_bind (wpAny_field hos hds (x := .none) rfl (wpAny_bind (wpAny_field hos hds (x := .int (-1) u) rfl (wpAny_pure ?_)))))))
  refine wpAny_bind (slicePart_int ?_)
  show wpAny _ _ (if ((-1 : Int) == 0) = true then _ else _) _ _ s
  rw [if_neg (by decide)]
  refine wpAny_bind (slicePart_none (wpAny_bind (slicePart_none (wpAny_bind (wpAny_pure ?_)))))
  show wpAny _ _ (pure ((n : Int) - 1, (-1 : Int), Builtin.Slice.slicePlaces ((n : Int) - 1) (-1) (-1))) _ _ s
  have e : Builtin.Slice.slicePlaces ((n : Int) - 1) (-1) (-1) = n := by
    unfold Builtin.Slice.slicePlaces
    have h1 : ¬ ((-1 : Int) > 0) := by decide
    simp only [h1, if_false]
    rw [show (- -1 : Int) = 1 by decide, Int.ediv_one]
    split <;> omega
  rw [e]
  exact wpAny_pure h
theorem pick_rev (items : Array Value) : (List.range items.size).filterMap (fun (k : Nat) => items[((items.size : Int) - 1 + (k : Int) * (-1)).toNat]?) = items.toList.reverse := by
  have e : (List.range items.size).filterMap (fun (k : Nat) => items[((items.size : Int) - 1 + (k : Int) * (-1)).toNat]?) = ((List.range items.size).map fun k => items.size - 1 - k).filterMap (items[·]?) := by
    rw [List.filterMap_map]
    have g : ∀ l : List Nat, (∀ k ∈ l, k < items.size) → l.filterMap (fun (k : Nat) => items[((items.size : Int) - 1 + (k : Int) * (-1)).toNat]?) = l.filterMap ((items[·]?) ∘ fun k => items.size - 1 - k) := by
      intro l
      induction l with
      | nil => intro _; rfl
      | cons k l ih =>
        intro h
        have hk := h k List.mem_cons_self
        have z : ((items.size : Int) - 1 + (k : Int) * (-1)).toNat = items.size - 1 - k := by omega
        rw [List.filterMap_cons, List.filterMap_cons, ih fun x hx => h x (List.mem_cons_of_mem _ hx), z]
        rfl
    exact g _ fun k hk => List.mem_range.mp hk
  rw [e, PySem.W.krv_range, List.filterMap_reverse, PySem.W.krv_all]
theorem getItem_tuple_rev {t sl : Addr} {items : Array Value} {u : Tok} {Q : Value → Shared → Prop} (ht : IsTup s.heap t items) (hs : s.heap.IsSliceOf sl .none .none (.int (-1) u))
    (h : Q (.ref s.heap.objs.size) { s with heap := s.heap.push { cls := .type "tuple", data := .seq items.toList.reverse.toArray } })
    (hsz : items.size ≤ sizeLine) : wpAny (model prog w) A (getItem (.ref t) (.ref sl)) Q E s := by
  have htake : sizeOk (.seq items.toList.reverse.toArray) := by
    show items.toList.reverse.toArray.size ≤ sizeLine
    rw [List.size_toArray, List.length_reverse, Array.length_toList]
    exact hsz
  obtain ⟨os, hos, hcs, hds⟩ := id hs
  have hTs : s.TypeIs (.ref sl) "slice" := ⟨os, hos, hcs⟩
  unfold getItem
  try with_reducible refine wpAny_holding ?_
  first | refine wpAny_bind (wpAny_pure ?_) | skip
  refine wpAny_bind (wpAny_sequenceKey ht.typeIs (by decide) ?_)
  refine wpAny_bind (wpAny_callSpecial?_slot (name := Str.ofString "__getitem__") ht.typeIs PyProof.Rows.slot_tuple_getitem
    (wpAny_call_entry PyProof.Rows.slot_tuple_getitem ht.typeIs entry_tuple_getitem ?_ (args_tuple_getitem _ _)))
  show wpAny _ _ (Builtin.Tuple.tupleItemsOf (.ref t) >>= _) _ _ s
  refine wpAny_bind (tupleItemsOf_ ht ?_)
  refine wpAny_bind (wpAny_typeOf hTs ?_)
  rw [if_pos (by decide)]
  refine wpAny_bind (sliceApplied_rev hs ?_)
  have hno : ¬ ((((items.size : Int) - 1) == 0 && (-1 : Int) == 1 && items.size == items.size) = true) := by simp
  show wpAny _ _ (if (((items.size : Int) - 1) == 0 && (-1 : Int) == 1 && items.size == items.size) = true then _ else _) _ _ s
  rw [if_neg hno, pick_rev]
  first
    | exact wpAny_bind (m := Builtin.Tuple.tupleExact _) (wpAny_newObj_type (wpAny_pure ⟨_, rfl, wpAny_pure h⟩) htake)
    | exact wpAny_bind (m := Builtin.Tuple.tupleExact _) (wpAny_newObj_type (wpAny_bind (wpAny_pure (wpAny_pure ⟨_, rfl, wpAny_pure h⟩))) htake)
    | exact wpAny_bind (wpAny_bind (m := Builtin.Tuple.tupleExact _) (wpAny_newObj_type (wpAny_pure (wpAny_pure ⟨_, rfl, wpAny_pure h⟩)) htake))
    | exact wpAny_bind (wpAny_bind (m := Builtin.Tuple.tupleExact _) (wpAny_newObj_type (wpAny_pure ⟨_, rfl, wpAny_pure h⟩) htake))
end
end HT
namespace L2
open PySem PySem.Spec PyProof.Rows
variable {X : Cx}
/-- x[::-1] of a list or a tuple -/
def tRevA (K : PySem.W.Frag) (te : TE) : TE := fun σ H Q => te σ H fun x H1 => ∃ a xs, x = .ref a ∧ ((SqL K H1 a xs ∧ ∀ p, H1 p = none → Q (.ref p) (upd H1 p (.lst xs.reverse))) ∨ (SqT K H1 a xs ∧ ∀ p, H1 p = none → Q (.ref p) (upd H1 p (.tup xs.reverse))))
theorem pe_revA {e : Expr} {te : TE} {k : Nat} {p1 p2 p3 pos : Pos} (he : PE X e te) : PE X (.Subscript e (.Slice none none (some (.UnaryOp .USub (.Constant (.int 1) k p1) p2)) p3) pos) (tRevA X.K te) := by
  refine ⟨fun pins s σ H Q I h => ?_⟩
  refine Subscript_ (thn (he.run pins s σ H _ I h) fun v s1 ⟨x, H1, I1, r1, q1⟩ => ?_)
  obtain ⟨a, xs, ex, q1⟩ := q1
  subst ex
  cases r1
  have hst : PO X (some (.UnaryOp .USub (.Constant (.int 1) k p1) p2)) (tPart (tUn (rU fun i => .int (-i)) (tC (.int 1)))) := po_some (pe_un un_neg pe_int)
  refine wpAny_Slice (thn (po_none.run pins s1 σ H1 (fun o H2 => o = none ∧ H2 = H1) I1 ⟨rfl, rfl⟩) fun vl s2 ⟨l, H2, I2, pl, el, e2⟩ => ?_)
  subst el e2
  refine thn (po_none.run pins s2 σ H2 (fun o H3 => o = none ∧ H3 = H2) I2 ⟨rfl, rfl⟩) fun vu s3 ⟨u, H3, I3, pu, eu, e3⟩ => ?_
  subst eu e3
  refine thn (hst.run pins s3 σ H3 (fun o H4 => o = some (-1) ∧ H4 = H3) I3 ⟨1, rfl, -1, rfl, rfl, rfl⟩) fun vs s4 ⟨o, H4, I4, ps, eo, e4⟩ => ?_
  subst eo e4
  have I5 : Inv X pins σ H4 { s4 with heap := s4.heap.push { cls := .type "slice", data := .fields #[vl, vu, vs] } } := I4.kept (t' := s4.toks) fun b ob q => Heap.get?_push_of_some _ q
  show wpAny (model X.prog X.w) X.A (subscriptTail e (.Slice none none (some (.UnaryOp .USub (.Constant (.int 1) k p1) p2)) p3) (.ref a) (.ref s4.heap.objs.size)) (EP X pins σ Q) X.xe { s4 with heap := s4.heap.push { cls := .type "slice", data := .fields #[vl, vu, vs] } }
  rcases q1 with ⟨hx, q⟩ | ⟨hx, q⟩
  · obtain ⟨its, r, ht, hz⟩ := I5.list hx
    have hlen := r.length
    refine tail_any (ops := [.ref a, .ref s4.heap.objs.size]) ht.isList.typeIs (PySem.slot_list_getitem.lookup) ?_ (by with_unfolding_all rfl)
    refine wpAny_getItem_list_slice ht.isList (Heap.IsSliceOf.new _ vl vu vs) pl pu ps (by decide) ?_ (by rw [List.size_toArray]; omega)
    rw [PySem.W.krv_pick]
    refine ⟨.ref _, _, I5.laid (t' := s4.toks) (o := .lst xs.reverse) (fun b ob q => Heap.get?_push_of_some _ q) (Nat.le_refl _) ?_, rfl, q _ (I5.hok.fresh (Nat.le_refl _))⟩
    exact ⟨by rw [List.length_reverse]; exact hz, _, 0, r.reverse, Heap.get?_push_size _ rfl⟩
  · obtain ⟨its, r, ht, hz⟩ := I5.tuple hx
    have hlen := r.length
    refine tail_any (ops := [.ref a, .ref s4.heap.objs.size]) ht.typeIs (PyProof.Rows.slot_tuple_getitem.lookup) ?_ (by with_unfolding_all rfl)
    cases pl
    cases pu
    cases ps with
    | int i t =>
      refine HT.getItem_tuple_rev ht (Heap.IsSliceOf.new _ .none .none _) ?_ (by rw [List.size_toArray]; omega)
      refine ⟨.ref _, _, I5.laid (t' := s4.toks) (o := .tup xs.reverse) (fun b ob q => Heap.get?_push_of_some _ q) (Nat.le_refl _) ?_, rfl, q _ (I5.hok.fresh (Nat.le_refl _))⟩
      exact ⟨by rw [List.length_reverse]; exact hz, _, r.reverse, ⟨_, Heap.get?_push_size _ rfl, rfl, 0, by simp⟩⟩
end L2
end
section
set_option Elab.async false
set_option linter.all false
set_option maxRecDepth 100000
set_option maxHeartbeats 4000000
namespace PySem
open PySem.Spec PyProof.Rows
theorem meets_enumerate_newT {v : Value} {o : Obj} {H : Heap → Prop} (B : Begins v o H) :
    Meets (Builtin.«enumerate.__new__» ⟨[.type "enumerate", v], []⟩) (fun _ R s => H s.heap ∧
      R (.ok (.ret (.ref (s.heap.push o).objs.size))) { s with heap := (s.heap.push o).push { cls := .type "enumerate", data := .fields #[.none, .bool false, .ref s.heap.objs.size, rawInt 0, .none, .none] } }) :=
  .of_wp fun prog w A R s h => by
    obtain ⟨hp, g, d, tk, os⟩ := s; obtain ⟨h1, h⟩ := h
    have hsub := sub_enumerate
    have q1 : ∀ {A' : Around} {E : Value → Shared → Prop} {Q : Value → Shared → Prop}, Q (.ref hp.objs.size) ⟨hp.push o, g, d, tk, os⟩ → wpAny (model prog w) A' (pyIter v) Q E ⟨hp, g, d, tk, os⟩ :=
      fun q => B.iter prog w _ _ ⟨hp, g, d, tk, os⟩ _ h1 q
    wp_walk using q1
    refine wpAny_stack_any fun st => wpAny_pure ?_
    split
    · rename_i c _ _ _ _ _
      cases (c == Value.type "enumerate")
      · wp_walk using q1
        exact ⟨_, rfl, h⟩
      · wp_walk using q1
        exact ⟨_, rfl, h⟩
    · wp_walk using q1
      exact ⟨_, rfl, h⟩
section
variable {prog : Program} {w : World} {A : Around} {E : Value → Shared → Prop} {s : Shared}
theorem call_enumerate_tuple {l : Addr} {items : Array Value} {Q : Value → Shared → Prop} (hL : s.heap.IsTuple l items)
    (h : ∀ h', IsEnum h' (s.heap.objs.size + 1) s.heap.objs.size 0 .none → h'.IsTupleIter s.heap.objs.size l 0 → h'.objs.size = s.heap.objs.size + 2 →
      (∀ b o, s.heap.get? b = some o → h'.get? b = some o) → Q (.ref (s.heap.objs.size + 1)) { s with heap := h' }) :
    wpAny (model prog w) A (call (.type "enumerate") [.ref l]) Q E s := by
  refine callType_new F.called_enumerate (by decide) (F.typeCall_enumerate_1 _) (F.newCall_enumerate_1 _) (fun obj => F.args_object_init_2 obj _) F.entry_enumerate_new
    (meets_enumerate_newT (begins_tuple l items)) ⟨hL, ?_⟩
  have hz : (s.heap.push { cls := .type "tuple_iterator", data := .fields #[.ref l, .int 0 0] }).objs.size = s.heap.objs.size + 1 := Heap.size_push ..
  show _ ∧ _
  rw [hz]
  have he : IsEnum ((s.heap.push { cls := .type "tuple_iterator", data := .fields #[.ref l, .int 0 0] }).push
      { cls := .type "enumerate", data := .fields #[.none, .bool false, .ref s.heap.objs.size, rawInt 0, .none, .none] }) (s.heap.objs.size + 1) s.heap.objs.size 0 .none := by
    have := Heap.get?_push_size (s.heap.push { cls := .type "tuple_iterator", data := .fields #[.ref l, .int 0 0] })
      (o := { cls := .type "enumerate", data := .fields #[.none, .bool false, .ref s.heap.objs.size, rawInt 0, .none, .none] }) rfl
    rw [hz] at this; exact this
  refine ⟨⟨_, he, rfl⟩, h _ he ⟨_, Heap.get?_push_of_some _ (Heap.get?_push_size _ rfl), rfl, rfl⟩ (by rw [Heap.size_push, hz]) fun b o x => Heap.get?_push_of_some _ (Heap.get?_push_of_some _ x)⟩
end
end PySem
namespace L2
open PySem PySem.Spec PyProof.Rows
/-- the tuple at a, each item in a new pair -/
def IteT (K : PySem.W.Frag) (a : Addr) : It :=
  ⟨fun i H => ∃ (xs : List V) (x : V), SqT K H a xs ∧ xs[i]? = some x, fun i H v H' => ∃ T x, v = .ref T ∧ H T = none ∧ H' = upd H T (.tup [.int (i : Nat), x]) ∧ ∀ xs, SqT K H a xs → xs[i]? = some x, fun i H => ∃ xs : List V, SqT K H a xs ∧ xs.length ≤ i⟩
theorem turn_enumT {P : Program} {w : World} {K : PySem.W.Frag} {elts : List Expr} {kk : Nat} {tpos : Pos} (a e it : Addr) :
    Turn P w K (.Tuple elts kk tpos) (IteT K a) [e, it] e (fun i h => (∃ old, IsEnum h e it ((i : Nat) : Int) old) ∧ h.IsTupleIter it a i ∧ e ≠ it) where
  mem := by simp
  obj := fun i h st b hb => by
    obtain ⟨⟨old, he⟩, ⟨o, ho, hc, hd⟩, _⟩ := st
    have e' : b = e ∨ b = it := by simpa using hb
    rcases e' with z | z
    · rw [z]; exact ⟨_, he, fun v q => nomatch q⟩
    · rw [z]; exact ⟨o, ho, fun v q => by rw [hd] at q; cases q⟩
  keep := fun i h h' st k => let ⟨⟨old, he⟩, hi, hne⟩ := st; ⟨⟨old, k e (by simp) _ he⟩, hi.at fun o q => k it (by simp) o q, hne⟩
  item := by
    intro X hP hw hK hc i pins s σ H E I hf st hg
    subst hP hw hK
    obtain ⟨⟨old, he⟩, hit, hne⟩ := st
    obtain ⟨xs, x, hq, hx⟩ := hg
    obtain ⟨its, rv, p, hz⟩ := I.tuple hq
    obtain ⟨u, hu, ru⟩ := rv.get hx
    have hel : e < s.heap.objs.size := Heap.lt_size he
    have hil : it < s.heap.objs.size := by obtain ⟨_, q, _⟩ := hit; exact Heap.lt_size q
    have pT : s.heap.IsTuple a its.toArray := p
    have hai : a ≠ it := by
      intro z
      subst z
      obtain ⟨o1, h1, c1, _⟩ := hit
      obtain ⟨o2, h2, c2, _⟩ := id p
      rw [h1] at h2
      cases h2
      rw [c1] at c2
      exact absurd c2 (by decide)
    have hae : a ≠ e := by
      intro z
      subst z
      obtain ⟨o2, h2, c2, _⟩ := id p
      have h1 : s.heap.get? a = some _ := he
      rw [h1] at h2
      cases h2
      have c3 : Value.type "enumerate" = Value.type "tuple" := c2
      exact absurd c3 (by decide)
    have hiN : i < its.toArray.size := by
      rw [List.size_toArray]
      exact (List.getElem?_eq_some_iff.mp hu).1
    have D := Draws.tuple (prog := X.prog) (w := X.w) (A := X.A.in1) (I.ok.hd hc) it a hai its.toArray
    refine wpAny_pyNext_enum_itemD D he ⟨hit, pT⟩ hiN hne (by simp; exact ⟨hne, fun z => hae z.symm⟩) fun y h' tk hP ho hs' hT hsz hk => ?_
    obtain rfl : u = y := by
      have z1 : its.toArray[i]? = some u := by simpa using hu
      rw [z1] at hP
      exact Option.some.inj hP
    refine ⟨_, rfl, wpAny_letOwnedTupleGo_enum (s := { s with heap := h', toks := tk + 1 }) ho fun h'' he' sb => ?_⟩
    have hT2 : h''.get? s.heap.objs.size = some { cls := .type "tuple", data := .seq #[.int i tk, u] } := (sb.2 _ (Nat.ne_of_gt hel)).trans hT
    have new : ObjOk X.prog X.w (upd H s.heap.objs.size (.tup [.int (i : Nat), x])) h'' s.heap.objs.size (.tup [.int (i : Nat), x]) :=
      ⟨by show 2 ≤ sizeLine; decide, [.int i tk, u], .cons ⟨_, rfl⟩ (.cons ru .nil), ⟨_, hT2, rfl, _, rfl⟩⟩
    have I1 : Inv X pins σ (upd H s.heap.objs.size (.tup [.int (i : Nat), x])) { s with heap := h'', toks := tk + 1 } :=
      I.turnedNew (ch := [e, it]) (fun b ob hb q => (sb.2 b (fun z => hb (by simp [z]))).trans (hk b ob (fun z => hb (by simp [z])) (fun z => hb (by simp [z])) q)) hf (Nat.le_refl _) new
    refine ⟨.ref s.heap.objs.size, _, I1, rfl, ⟨_, x, rfl, I.hok.fresh (Nat.le_refl _), rfl, fun ys hy => by rw [I.tuple_inj hy hq]; exact hx⟩, ⟨⟨u, ?_⟩, hs'.1.at fun o q => (sb.2 it (Ne.symm hne)).trans q, hne⟩, fun b hb => ?_⟩
    · have e1 : ((i + 1 : Nat) : Int) = (i : Int) + 1 := by omega
      rw [e1]; exact he'
    · have hb' : b < s.heap.objs.size := by
        have e' : b = e ∨ b = it := by simpa using hb
        rcases e' with z | z
        · rw [z]; exact hel
        · rw [z]; exact hil
      rw [upd_ne (Nat.ne_of_lt hb')]
      exact (hf b hb).1
  done := by
    intro X hP hw hK hc i pins s σ H E I hf st hg
    subst hP hw hK
    obtain ⟨⟨old, he⟩, hit, hne⟩ := st
    obtain ⟨xs, hq, hx⟩ := hg
    obtain ⟨its, rv, p, hz⟩ := I.tuple hq
    obtain ⟨f0, f1, f2, f3, f4, f5⟩ := hf it (by simp)
    have hl := rv.length
    have hT : s.TypeIs (.ref e) "enumerate" := ⟨_, he, rfl⟩
    have pT : s.heap.IsTuple a its.toArray := p
    unfold pyNext
    refine wpAny_bind (wpAny_attempt (wpAny_callSpecial?_slot (name := Str.ofString "__next__") hT F.slot_enumerate_next
      (wpAny_call_entry F.slot_enumerate_next hT F.entry_enumerate_next ?_ (F.args_enumerate_next_1 _))))
    show wpAny _ _ (field (.ref e) 2 >>= _) _ _ _
    refine wpAny_bind (wpAny_field he rfl (x := .ref it) rfl ?_)
    refine wpAny_bind (wpAny_nextOf_tuple_end (I.ok.hd hc) hit pT (by simp; omega) fun h' x he' hx' => ?_)
    obtain ⟨o, ho, hc'⟩ := hx'
    refine wpAny_bind (wpAny_isInstance (T := "StopIteration") (b := true) ⟨o, ho, hc'⟩ isSubtype_stop ?_)
    exact wpAny_pure ⟨rfl, I.turned (t' := s.toks) (fun b o hb q => he' b o hb q) f0 f1 f3 f4 f5⟩
  self := fun A i s Q E st h => let ⟨⟨_, he⟩, _⟩ := st; wpAny_pyIter_enum he h
/-- enumerate of a list or a tuple -/
def iEnumA (K : PySem.W.Frag) (ta : TA) : TI := fun σ H R => ta σ H fun vs H1 => ∃ a xs, vs = [.ref a] ∧ ((SqL K H1 a xs ∧ R (Ite K a) H1) ∨ (SqT K H1 a xs ∧ R (IteT K a) H1))
theorem pi_enumA {X : Cx} {e : Expr} {ta : TA} {p pos tpos : Pos} {elts : List Expr} {kk : Nat} (hg : Gl X "enumerate") (hm : X.mg "enumerate" = none) (ha : PA X [e] ta) (hs : starEach [e] X.env = [(false, eval e X.env)]) :
    PI X (.Tuple elts kk tpos) (.Call (.Name "enumerate" p) [e] [] pos) (iEnumA X.K ta) := by
  refine ⟨fun pins s σ H R I h => ?_⟩
  refine Call_ (ld_blt I hg hm boot_enumerate (PyProof.Rows.callWith_type1 (thn (ha.run pos pins s σ H _ I h) fun us s1 ⟨vs, H1, I1, r1, q1⟩ => ?_) hs rfl))
  obtain ⟨a, xs, ex, hq⟩ := q1
  subst ex
  cases r1 with
  | cons r rr =>
    cases rr
    cases r
    rcases hq with ⟨hq, q⟩ | ⟨hq, q⟩
    · obtain ⟨its, rv, p', hz⟩ := I1.list hq
      refine call_enumerate_list p'.isList fun h' he hit hsz hk => wpAny_pyIter_enum he ?_
      have I2 : Inv X pins σ H1 { s1 with heap := h' } := I1.kept (t' := s1.toks) hk
      refine ⟨s1.heap.objs.size + 1, [s1.heap.objs.size + 1, s1.heap.objs.size], _, _, H1, rfl, I2, turn_enum a (s1.heap.objs.size + 1) s1.heap.objs.size, ⟨⟨.none, he⟩, hit, Nat.succ_ne_self _⟩, fun b hb => ?_, q⟩
      have e' : b = s1.heap.objs.size + 1 ∨ b = s1.heap.objs.size := by simpa using hb
      have hle : s1.heap.objs.size ≤ b := by
        rcases e' with z | z
        · rw [z]; exact Nat.le_add_right _ _
        · rw [z]; exact Nat.le_refl _
      exact I1.fpOk hle (I1.hok.fresh hle)
    · obtain ⟨its, rv, p', hz⟩ := I1.tuple hq
      refine call_enumerate_tuple (show s1.heap.IsTuple a its.toArray from p') fun h' he hit hsz hk => wpAny_pyIter_enum he ?_
      have I2 : Inv X pins σ H1 { s1 with heap := h' } := I1.kept (t' := s1.toks) hk
      refine ⟨s1.heap.objs.size + 1, [s1.heap.objs.size + 1, s1.heap.objs.size], _, _, H1, rfl, I2, turn_enumT a (s1.heap.objs.size + 1) s1.heap.objs.size, ⟨⟨.none, he⟩, hit, Nat.succ_ne_self _⟩, fun b hb => ?_, q⟩
      have e' : b = s1.heap.objs.size + 1 ∨ b = s1.heap.objs.size := by simpa using hb
      have hle : s1.heap.objs.size ≤ b := by
        rcases e' with z | z
        · rw [z]; exact Nat.le_add_right _ _
        · rw [z]; exact Nat.le_refl _
      exact I1.fpOk hle (I1.hok.fresh hle)
end L2
end
section
set_option Elab.async false
set_option linter.all false
set_option maxRecDepth 100000
set_option maxHeartbeats 4000000
namespace PySem
open PyProof PySem.AutoSeq1
theorem extend_tupA (l : Addr) (items : Array Value) (n : Nat) (b : Addr) (items2 : Array Value) (n2 : Nat) (dd : Option Addr) (sl : Array (Option Value)) (hs0 : ¬(!items.isEmpty && Builtin.List.listTooLong (items.size + items2.size)) = true) (hs1 : items.size ≤ sizeLine) (hs2 : items.size + items2.size ≤ sizeLine + 1) :
    Meets (Builtin.«list.extend» ⟨[.ref l, .ref b], []⟩) (fun _ R s => s.heap.get? l = some { cls := .type "list", dict := none, data := .seq items n, slots := #[] } ∧ s.heap.get? b = some { cls := .type "tuple", dict := dd, data := .seq items2 n2, slots := sl } ∧ R (.ok (.ret Value.none)) { s with heap := s.heap.update l (Obj.mapSeq fun x => x ++ items2), toks := s.toks }) :=
  .of_wp fun prog w A R s h => by
    obtain ⟨hp, g, d, tk, os⟩ := s; obtain ⟨hl, hb, h⟩ := h; have f1 := idx_int; have f2 := sub_tuple_tuple; have f3 := sub_list_list; have f4 := sub_tuple_list; have f5 := sub_list_tuple;
    have hz' : (items ++ items2).size ≤ sizeLine + 1 := by rw [Array.size_append]; exact hs2
    wp_walk using (wpAny_updateSeq hl rfl (hz := hs1) (_hz' := hz')), wpAny_loadPart' hl, wpAny_loadPart' hb; exact ⟨_, rfl, h⟩
end PySem
namespace L2
open PySem PySem.Spec PyProof.Rows
variable {X : Cx}
/-- xs.extend(a list or a tuple) -/
def rExtA (K : PySem.W.Frag) : V → List V → Hp → VK → Prop := fun x vs H Q => ∃ l b xs zs, x = .ref l ∧ vs = [.ref b] ∧ H l = some (.lst xs) ∧ (H b = some (.lst zs) ∨ SqT K H b zs) ∧ xs.length + zs.length ≤ sizeLine ∧ Q .non (upd H l (.lst (xs ++ zs)))
theorem mt_extA : MtR X "list.extend" (rExtA X.K) := by
  intro pins s σ H x vs v us Q I rx rv h
  obtain ⟨l, b, xs, zs, rfl, rfl, hH, hB | hB, hz, q⟩ := h
  · exact mt_extend pins s σ H _ _ v us Q I rx rv ⟨l, b, xs, zs, rfl, rfl, hH, hB, hz, q⟩
  · cases rx
    obtain ⟨u, rfl, ru⟩ := rv.one
    cases ru
    obtain ⟨z, its, n, r, hl, e⟩ := I.lstM hH
    obtain ⟨its2, r2, ⟨⟨oc, od, dt, sl⟩, ho, hc, n2, hd⟩, hz2⟩ := I.tuple hB
    simp only at hc hd
    subst hc hd
    have hl2 := r2.length
    have hsz : its.toArray.size + its2.toArray.size ≤ sizeLine := by rw [List.size_toArray, List.size_toArray]; omega
    have hlong : ¬ (!its.toArray.isEmpty && Builtin.List.listTooLong (its.toArray.size + its2.toArray.size)) = true := by
      rw [notLongL hsz, Bool.and_false]
      exact Bool.false_ne_true
    refine call_meets F.slot_list_extend ⟨_, e, rfl⟩ F.entry_list_extend (F.args_list_extend_2 _ _)
      (PySem.extend_tupA l its.toArray n b its2.toArray n2 od sl hlong (by rw [List.size_toArray]; omega) (by omega)) ⟨e, ho, ?_⟩
    refine ⟨.non, _, I.lset (its' := its ++ its2) hH e (by simp) (r.append r2) ?_, rfl, q⟩
    rw [List.length_append]
    omega
end L2
end
section
set_option Elab.async false
set_option linter.all false
set_option maxRecDepth 100000
set_option maxHeartbeats 4000000
/-! Dv: a small evaluator over data with value semantics. -/
namespace Dv
open PySem L2

inductive D where
  | non | bl (b : Bool) | int (i : Int) | str (x : Str)
  | tup (ds : List D) | lst (ds : List D) | dic (kvs : List (Key × D))
  | ins (c : Nat) (fs : List (Nat × D))
  | cell (n : Nat)
  | scr (ds : List D)
  | cls (c : Nat)
  deriving Inhabited
/-- what a cell holds: something that may change -/
inductive Cell where
  | lst (ds : List D) | ins (c : Nat) (fs : List (Nat × D))
  deriving Inhabited
abbrev Cells := List Cell
inductive Slot where
  | emp | val (d : D) | own (d : D)
  deriving Inhabited
abbrev Env := List Slot
inductive Res (α : Type) where
  | ok (a : α) (cs : Cells) | exc (e : D) (cs : Cells) | bad
  deriving Inhabited
/-- a value that simp leaves as it stands: what depends on it bars the way -/
inductive Fx {α : Type} (a : α) : Type where
  | mk
def Res.bind {α β : Type} (r : Res α) (k : α → Cells → Res β) (_w : Fx k := .mk) : Res β := match r with
  | .ok a cs => k a cs
  | .exc e cs => .exc e cs
  | .bad => .bad
theorem bind_kk {α β : Type} {r : Res α} {k k' : α → Cells → Res β} (h : k = k') : r.bind k = r.bind k' := by subst h; rfl
@[simp] theorem bind_ok {α β : Type} (a : α) (cs : Cells) (k : α → Cells → Res β) : (Res.ok a cs).bind k = k a cs := (rfl)
@[simp] theorem bind_exc {α β : Type} (e : D) (cs : Cells) (k : α → Cells → Res β) : (Res.exc e cs : Res α).bind k = .exc e cs := (rfl)
@[simp] theorem bind_bad {α β : Type} (k : α → Cells → Res β) : (Res.bad : Res α).bind k = .bad := (rfl)

inductive Bop where
  | add | sub | mul | fdiv | mod | pow | bor | band
  deriving DecidableEq
inductive Cop where
  | eq | ne | lt | le | gt | ge | isin | notin
  deriving DecidableEq
inductive Ty where
  | int | bool | str | list | tuple | dict | cls (c : Nat)
  deriving DecidableEq
inductive Blt where
  | len | int | bool | str | sum | all | any | abs | tuple | list | sorted | max | min | max2 | min2
  deriving DecidableEq
inductive Ex where
  | var (i : Nat) | int (i : Int) | str (x : Str) | bl (b : Bool) | non | glob (j : Nat)
  | bin (op : Bop) (a b : Ex) | neg (a : Ex) | not (a : Ex) | inv (a : Ex)
  | and (a b : Ex) | or (a b : Ex)
  | cmp (op : Cop) (a b : Ex) | cmpB (op : Cop) (a b : Ex) | chain (o p : Cop) (a b c : Ex) | isn (a : Ex) | notn (a : Ex)
  | ifx (c a b : Ex)
  | nil | cons (a r : Ex) | star (a r : Ex)
  | tup (as : Ex) | lst (as : Ex)
  | sub (a i : Ex) | slice (a lo hi : Ex) | rev (a : Ex)
  | attr (a : Ex) (j : Nat) | prop (a : Ex) (j : Nat)
  | call (f : Nat) (as : Ex) | callk (f : Nat) (as kas : Ex) (perm : List Nat)
  | isb (neg : Bool) (a : Ex) (b : Bool) | callv (i : Nat) (as : Ex) | cval (c j : Nat) | cmeth (c m : Nat) (as : Ex) | newv (i : Nat) (as : Ex)
  | new (c : Nat) (as : Ex) | newk (c : Nat) (as kas : Ex) (perm : List Nat)
  | meth (m : Nat) (o as : Ex) | methk (m : Nat) (o as kas : Ex) (perm : List Nat)
  | blt (b : Blt) (as : Ex) | isi (a : Ex) (ts : List Ty)
  | fstr (as : Ex) | fmt (a : Ex) | split (a b : Ex) | join (a b : Ex)
  | comp (elt : Ex) (tg : List Nat) (one : Bool) (src cond : Ex)
  | dkeys (j : Nat) (src : Ex) | compO (elt : Ex) (tg : List Nat) (one : Bool) (i : Nat) (cond : Ex)
  | rng (a : Ex) | rng2 (a b : Ex) | enum (a : Ex) | zip (a b : Ex)
  | dct | walk (a : Ex)
  | dsub (a : Ex) (x : Str) | dks (a : Ex) | dctA (a st : Ex) (kjs : List (Str × Nat)) | methw (m : Nat) (o : Ex) (ks : List Str) (as : Ex)
inductive Sm where
  | skip | seq (a b : Sm) | frz (i : Nat) (b : Sm)
  | set (i : Nat) (e : Ex) | own (i : Nat) (as : Ex) | setT (is : List Nat) (e : Ex) | par (is : List Nat) (as : Ex)
  | setA (i j : Nat) (e : Ex) | setI (v : Nat) (k e : Ex)
  | aug (i : Nat) (op : Bop) (e : Ex)
  | ex (e : Ex) | app (i : Nat) (e : Ex) | ext (i : Nat) (e : Ex)
  | ite (c : Ex) (a b : Sm) | for_ (tg : List Nat) (one : Bool) (src : Ex) (body : Sm) | while_ (c : Ex) (body : Sm)
  | ret (e : Ex) | retC (as : Ex) | brk | cnt | never
structure Fn where
  np : Nat
  star : Bool
  n : Nat
  dfl : List D
  ini : Option Nat
  body : Sm
structure Cl where
  init : Option Nat
  mutb : Bool
  meths : List (Nat × Nat)
  props : List (Nat × Nat)
  anc : List Nat
  atr : List Nat
  cms : List (Nat × Nat)
  cvs : List (Nat × D)
  its : Option Nat
structure Tab where
  fns : List Fn
  cls : List Cl
  consts : List D
/-- a def's call; one of an __init__ (true): a thing's making -/
abbrev Orc := Bool → Nat → List D → Cells → Res D
/-! ### names of methods that Python itself asks for -/
abbrev nEq : Nat := 0
abbrev nAdd : Nat := 1
abbrev nInv : Nat := 2
abbrev nStr : Nat := 3
abbrev nLen : Nat := 4
abbrev nIter : Nat := 5
abbrev nBool : Nat := 6
abbrev nCont : Nat := 7
abbrev nGet : Nat := 8
abbrev nCall : Nat := 9
abbrev nOr : Nat := 10
abbrev nAnd : Nat := 11
abbrev nSub : Nat := 12

section
variable (T : Tab) (O : Orc)
/-! ### operations on values -/
mutual
def toPy : D → Option PyData
  | .non => some .none
  | .bl b => some (.bool b)
  | .int i => some (.int i)
  | .str x => some (.str x)
  | .tup ds => match toPys ds with
    | some xs => some (.tuple xs)
    | none => none
  | .lst ds => match toPys ds with
    | some xs => some (.list xs)
    | none => none
  | _ => none
def toPys : List D → Option (List PyData)
  | [] => some []
  | d :: ds => match toPy d, toPys ds with
    | some x, some xs => some (x :: xs)
    | _, _ => none
end
def ofRes {α : Type} (cs : Cells) : Option α → Res α
  | some a => .ok a cs
  | none => .bad
/-- what stands there, a cell being looked into -/
def deref (d : D) (cs : Cells) : D := match d with
  | .cell n => (match cs[n]? with
    | some (.lst ds) => .lst ds
    | some (.ins c fs) => .ins c fs
    | none => d)
  | d => d
def clsOf (d : D) (cs : Cells) : Option Nat := match deref d cs with
  | .ins c _ => some c
  | _ => none
def okAt (c j : Nat) : Bool := match T.cls[c]? with
  | some k => k.atr.contains j
  | none => false
def methOf (c m : Nat) : Option Nat := (T.cls[c]?).bind fun k => k.meths.lookup m
def methF (m : Nat) (d : D) (cs : Cells) : Option Nat := match clsOf d cs with
  | some c => methOf T c m
  | none => none
/-- d.m(args) -/
def callM (m : Nat) (d : D) (args : List D) (cs : Cells) : Res D := match clsOf d cs with
  | some c => (match methOf T c m with
    | some f => O false f (d :: args) cs
    | none => .bad)
  | none => .bad
def isBl : D → Cells → Res Bool
  | .bl b, cs => .ok b cs
  | _, _ => .bad
/-- its type is known -/
def tyOk (d : D) (cs : Cells) : Bool := match deref d cs with
  | .scr _ => false
  | .cls _ => false
  | .cell _ => false
  | .ins c _ => (T.cls[c]?).isSome
  | .dic (_ :: _) => false
  | _ => true
def truth (d : D) (cs : Cells) : Res Bool := match deref d cs with
  | .non => .ok false cs
  | .bl b => .ok b cs
  | .int i => .ok (i != 0) cs
  | .str x => if x.length ≤ sizeLine then .ok ((x.length : Int) != 0) cs else .bad
  | .tup ds => .ok (!ds.isEmpty) cs
  | .lst ds => .ok (!ds.isEmpty) cs
  | _ => .bad
def flatD : D → Option V
  | .non => some .non
  | .bl b => some (.bl b)
  | .int i => some (.int i)
  | .str x => some (.str x)
  | _ => none
def flats : List D → Option (List V)
  | [] => some []
  | d :: ds => match flatD d, flats ds with
    | some x, some xs => some (x :: xs)
    | _, _ => none
def isIn1 (a : D) : D → Option Bool
  | .str y => (match a with
    | .str x => if x.cps.size = 1 then some (decide (x.cps.getD 0 0 ∈ y.cps.toList)) else none
    | _ => none)
  | .lst ds => (match flatD a, flats ds with
    | some x, some xs => some (inV x xs)
    | _, _ => none)
  | .tup ds => (match flatD a, flats ds with
    | some x, some xs => some (inV x xs)
    | _, _ => none)
  | _ => none
/-- == of data, nothing being called -/
def eqP (a b : D) (cs : Cells) : Res Bool := match toPy a, toPy b with
  | some x, some y => if SeqAt.shaped x = true ∧ SeqAt.shaped y = true then .ok (PyData.eqv x y) cs else .bad
  | _, _ => .bad
/-- == by the left one's own method -/
def eqO (a b : D) (cs : Cells) : Res Bool := if tyOk T b cs = true then (callM T O nEq a [b] cs).bind isBl else .bad
def eqD (a b : D) (cs : Cells) : Res Bool := match clsOf a cs with
  | some _ => eqO T O a b cs
  | none => eqP a b cs
def cmpI (op : Cop) (a b : D) (cs : Cells) : Res D := match op, a, b with
  | .lt, .int i, .int j => .ok (.bl (decide (i < j))) cs
  | .le, .int i, .int j => .ok (.bl (decide (i ≤ j))) cs
  | .gt, .int i, .int j => .ok (.bl (decide (j < i))) cs
  | .ge, .int i, .int j => .ok (.bl (decide (j ≤ i))) cs
  | _, _, _ => .bad
def cmpD (op : Cop) (a b : D) (cs : Cells) : Res D := match op with
  | .eq => (eqD T O a b cs).bind fun r cs => .ok (.bl r) cs
  | .ne => (eqD T O a b cs).bind fun r cs => .ok (.bl (!r)) cs
  | .isin => (match clsOf b cs with
    | some _ => (callM T O nCont b [a] cs).bind fun r cs => (truth r cs).bind fun k cs => .ok (.bl k) cs
    | none => ofRes cs ((isIn1 a (deref b cs)).map .bl))
  | .notin => (match clsOf b cs with
    | some _ => (callM T O nCont b [a] cs).bind fun r cs => (truth r cs).bind fun k cs => .ok (.bl (!k)) cs
    | none => ofRes cs ((isIn1 a (deref b cs)).map fun r => .bl (!r)))
  | op => cmpI op a b cs
/-- a comparison that calls nothing -/
def cmpBD (op : Cop) (a b : D) (cs : Cells) : Res D := match op with
  | .eq => (eqP a b cs).bind fun r cs => .ok (.bl r) cs
  | .ne => (eqP a b cs).bind fun r cs => .ok (.bl (!r)) cs
  | .isin => ofRes cs ((isIn1 a (deref b cs)).map .bl)
  | .notin => ofRes cs ((isIn1 a (deref b cs)).map fun r => .bl (!r))
  | op => cmpI op a b cs
/-! bounds as tests that a kernel stops at when it does not know the number -/
def okMul (i j : Int) : Bool := Nat.ble i.natAbs 18446744073709551615 || Nat.ble j.natAbs 18446744073709551615
def okPow (i j : Int) : Bool := match j with
  | .ofNat m => Nat.ble m 1000000 && Nat.ble i.natAbs 18446744073709551615
  | _ => false
def okDiv (j : Int) : Bool := match j with
  | .ofNat (m + 1) => Nat.ble m 18446744073709551614
  | _ => false
def okLen (n : Int) : Bool := match n with
  | .ofNat m => Nat.ble m 9223372036854775807
  | _ => false
def ok62 (n : Int) : Bool := Nat.ble n.natAbs 4611686018427387903
theorem okMul_iff {i j : Int} : okMul i j = true ↔ CMul i j := by
  unfold okMul CMul
  rw [Bool.or_eq_true, Nat.ble_eq, Nat.ble_eq]
  omega
theorem okPow_iff {i j : Int} : okPow i j = true ↔ CPow i j := by
  unfold okPow CPow
  cases j with
  | ofNat m =>
    simp only [Bool.and_eq_true, Nat.ble_eq]
    have : Int.ofNat m = (m : Int) := rfl
    omega
  | negSucc m =>
    simp
theorem okDiv_ok {j : Int} (h : okDiv j = true) (i : Int) : CDivW i j := by
  unfold okDiv at h
  cases j with
  | ofNat m =>
    cases m with
    | zero => cases h
    | succ m =>
      have h : m ≤ 18446744073709551614 := Nat.le_of_ble_eq_true h
      refine ⟨by show (0 : Int) < ((m + 1 : Nat) : Int); omega, ?_⟩
      show (m + 1).log2 < 9000
      exact Nat.lt_trans ((Nat.log2_lt (by omega)).2 (show m + 1 < 2 ^ 64 by omega)) (by decide)
  | negSucc m => cases h
theorem okDiv_of {j : Int} (h : 0 < j) (h2 : j < 18446744073709551616) : okDiv j = true := by
  obtain ⟨m, rfl⟩ : ∃ m : Nat, j = ((m + 1 : Nat) : Int) := ⟨(j - 1).toNat, by omega⟩
  show Nat.ble m _ = true
  rw [Nat.ble_eq]
  omega
theorem okLen_iff {n : Int} : okLen n = true ↔ 0 ≤ n ∧ n < 2 ^ 63 := by
  unfold okLen
  cases n with
  | ofNat m =>
    simp only [Nat.ble_eq]
    have : Int.ofNat m = (m : Int) := rfl
    omega
  | negSucc m =>
    simp
theorem ok62_iff {n : Int} : ok62 n = true ↔ -4611686018427387904 < n ∧ n < 4611686018427387904 := by
  unfold ok62
  rw [Nat.ble_eq]
  omega
def binD (op : Bop) (a b : D) (cs : Cells) : Res D := match op with
  | .add => (match a, b with
    | .int i, .int j => .ok (.int (i + j)) cs
    | .str x, .str y => if x.length + y.length ≤ sizeLine then .ok (.str (x ++ y)) cs else .bad
    | .lst xs, .lst ys => if xs.length + ys.length ≤ sizeLine then .ok (.lst (xs ++ ys)) cs else .bad
    | .tup xs, .tup ys => if xs.length + ys.length ≤ sizeLine then .ok (.tup (xs ++ ys)) cs else .bad
    | .ins c fs, .ins c' fs' => if c' = c then callM T O nAdd (.ins c fs) [.ins c' fs'] cs else .bad
    | _, _ => .bad)
  | .sub => (match a, b with
    | .int i, .int j => .ok (.int (i - j)) cs
    | .ins c fs, .ins c' fs' => if c' = c then callM T O nSub (.ins c fs) [.ins c' fs'] cs else .bad
    | _, _ => .bad)
  | .mul => (match a, b with
    | .int i, .int j => if okMul i j = true then .ok (.int (i * j)) cs else .bad
    | _, _ => .bad)
  | .fdiv => (match a, b with
    | .int i, .int j => if okDiv j = true then .ok (.int (i / j)) cs else .bad
    | _, _ => .bad)
  | .mod => (match a, b with
    | .int i, .int j => if 0 < j then .ok (.int (i % j)) cs else .bad
    | _, _ => .bad)
  | .pow => (match a, b with
    | .int i, .int j => if okPow i j = true then .ok (.int (i ^ j.toNat)) cs else .bad
    | _, _ => .bad)
  | .bor => (match a, b with
    | .ins c fs, .ins c' fs' => if c' = c then callM T O nOr (.ins c fs) [.ins c' fs'] cs else .bad
    | _, _ => .bad)
  | .band => (match a, b with
    | .ins c fs, .ins c' fs' => if c' = c then callM T O nAnd (.ins c fs) [.ins c' fs'] cs else .bad
    | _, _ => .bad)
def tyThere (t : Ty) : Bool := match t with
  | .cls c => (T.cls[c]?).isSome
  | _ => true
def isTy (d : D) (cs : Cells) (t : Ty) : Bool := match deref d cs, t with
  | .bl _, .int => true
  | .bl _, .bool => true
  | .int _, .int => true
  | .str _, .str => true
  | .tup _, .tuple => true
  | .lst _, .list => true
  | .dic _, .dict => true
  | .ins c _, .cls k => (match T.cls[c]? with
    | some cl => cl.anc.contains k
    | none => false)
  | _, _ => false
/-- an index from either end -/
abbrev atD (xs : List D) (i : Int) : Option D := atI xs i
/-- a slice -/
def cutG {α : Type} (xs : List α) (lo hi : Option Int) : List α := (xs.drop (HT.sIx xs.length 0 lo)).take (HT.sIx xs.length xs.length hi - HT.sIx xs.length 0 lo)
abbrev cutD (xs : List D) (lo hi : Option Int) : List D := cutG xs lo hi
def intsD : List D → Option (List Int)
  | [] => some []
  | .int i :: ds => (intsD ds).map (i :: ·)
  | _ => none
def boolsD : List D → Option (List Bool)
  | [] => some []
  | .bl b :: ds => (boolsD ds).map (b :: ·)
  | _ => none
def strsD : List D → Option (List Str)
  | [] => some []
  | .str b :: ds => (strsD ds).map (b :: ·)
  | _ => none
def chars (x : Str) : List D := x.cps.toList.map fun c => .str ⟨#[c]⟩
/-- what a for walks -/
def items (d : D) : Option (List D) := match d with
  | .tup ds => some ds
  | .lst ds => some ds
  | _ => none
/-- what a for walks, a text's signs too -/
def itemsI (d : D) : Option (List D) := match d with
  | .str x => some (chars x)
  | d => items d
def seqOf (d : D) (cs : Cells) : Option (List D) := match deref d cs with
  | .tup ds => some ds
  | .lst ds => some ds
  | _ => none
def bLen (args : List D) (cs : Cells) : Res D := match args with
  | [d] => (match deref d cs with
    | .tup ds => .ok (.int ds.length) cs
    | .lst ds => .ok (.int ds.length) cs
    | .str x => if x.length ≤ sizeLine then .ok (.int x.length) cs else .bad
    | .ins _ _ => (callM T O nLen d [] cs).bind fun r cs => (match r with
      | .int n => if okLen n = true then .ok (.int n) cs else .bad
      | _ => .bad)
    | _ => .bad)
  | _ => .bad
def bInt (args : List D) (cs : Cells) : Res D := match args with
  | [.int i] => .ok (.int i) cs
  | [.bl b] => .ok (.int (if b then 1 else 0)) cs
  | [.str x] => if x.length ≤ 640 then ofRes cs ((PySem.intText? x).map .int) else .bad
  | _ => .bad
def bStr (args : List D) (cs : Cells) : Res D := match args with
  | [.int i] => if i.natAbs.log2 < 1920 then .ok (.str (toString i)) cs else .bad
  | [.ins c fs] => (callM T O nStr (.ins c fs) [] cs).bind fun r cs => (match r with
    | .str x => .ok (.str x) cs
    | _ => .bad)
  | _ => .bad
def bSum (args : List D) (cs : Cells) : Res D := match args with
  | [d] => (match deref d cs with
    | .lst ds => ofRes cs ((intsD ds).map fun ns => .int ns.sum)
    | _ => .bad)
  | _ => .bad
def bAll (args : List D) (cs : Cells) : Res D := match args with
  | [d] => (match deref d cs with
    | .lst ds => ofRes cs ((boolsD ds).map fun ns => .bl (ns.all id))
    | _ => .bad)
  | _ => .bad
def bAny (args : List D) (cs : Cells) : Res D := match args with
  | [d] => (match deref d cs with
    | .lst ds => ofRes cs ((boolsD ds).map fun ns => .bl (ns.any id))
    | _ => .bad)
  | _ => .bad
def bAbs (args : List D) (cs : Cells) : Res D := match args with
  | [.int i] => .ok (.int (if i < 0 then -i else i)) cs
  | _ => .bad
def bTuple (args : List D) (cs : Cells) : Res D := match args with
  | [d] => ofRes cs ((seqOf d cs).map .tup)
  | _ => .bad
def bList (args : List D) (cs : Cells) : Res D := match args with
  | [d] => ofRes cs ((seqOf d cs).map .lst)
  | _ => .bad
def bTwo (f : Int → Int → Int) (args : List D) (cs : Cells) : Res D := match args with
  | [.int i, .int j] => .ok (.int (f i j)) cs
  | _ => .bad
def bSorted (args : List D) (cs : Cells) : Res D := match args with
  | [d] => (match deref d cs with
    | .lst ds => ofRes cs ((intsD ds).map fun ns => .lst ((ns.mergeSort fun a b => decide (a ≤ b)).map .int))
    | _ => .bad)
  | _ => .bad
def bBest (f : List Int → Option Int) (args : List D) (cs : Cells) : Res D := match args with
  | [d] => (match deref d cs with
    | .lst ds => ofRes cs (((intsD ds).bind f).map .int)
    | _ => .bad)
  | _ => .bad
def bltD (b : Blt) (args : List D) (cs : Cells) : Res D := match b with
  | .len => bLen T O args cs
  | .int => bInt args cs
  | .str => bStr T O args cs
  | .sum => bSum args cs
  | .all => bAll args cs
  | .any => bAny args cs
  | .abs => bAbs args cs
  | .tuple => bTuple args cs
  | .list => bList args cs
  | .sorted => bSorted args cs
  | .max => bBest (fun ns => ns.max?) args cs
  | .min => bBest (fun ns => ns.min?) args cs
  | .max2 => bTwo (fun i j => if j > i then j else i) args cs
  | .min2 => bTwo (fun i j => if j < i then j else i) args cs
  | _ => .bad
def fmtD (d : D) (cs : Cells) : Res D := match d with
  | .str x => if x.length ≤ sizeLine then .ok (.str x) cs else .bad
  | .int i => if i.natAbs.log2 < 1920 then .ok (.str (toString i)) cs else .bad
  | _ => .bad
def joinD (s : Str) (y : D) (cs : Cells) : Res D := match seqOf y cs with
  | some ds => (match strsD ds with
    | some ss => if (ss.map (·.length)).sum + ss.length * s.length ≤ 16777216 then .ok (.str (Txt.join s ss)) cs else .bad
    | none => .bad)
  | none => .bad
def splitD (s : Str) (y : D) (cs : Cells) : Res D := match y with
  | .str t => if t.length = 0 ∨ sizeLine < s.length + 2 then .bad else .ok (.lst ((Txt.split s t).map .str)) cs
  | _ => .bad
/-- the values put to the parameters' places -/
def permD {α : Type} : List Nat → List α → Option (List α)
  | [], _ => some []
  | i :: p, ds => match ds[i]?, permD p ds with
    | some d, some es => some (d :: es)
    | _, _ => none
def freshE (F : Fn) (args : List D) : Option Env :=
  let given := args.map Slot.val
  if F.star then (if F.np ≤ args.length ∧ args.length ≤ sizeLine then some ((args.take F.np).map Slot.val ++ Slot.val (.tup (args.drop F.np)) :: List.replicate (F.n - (F.np + 1)) .emp) else none)
  else if args.length = F.np then some (given ++ List.replicate (F.n - F.np) .emp)
  else none
/-- the slots of an __init__: its self a new thing -/
def freshI (F : Fn) (c : Nat) (args : List D) : Option Env := (freshE { F with np := F.np - 1, n := F.n - 1 } args).map fun ρ => .own (.ins c []) :: ρ
/-- what a def's last parameters are where nothing is written -/
def dflT (f : Nat) : List D := match T.fns[f]? with
  | some F => F.dfl
  | none => []
/-- the things of an own class that is walked by the tuple that it holds -/
def itemsT (d : D) : Option (List D) := match d with
  | .ins c fs => (match T.cls[c]? with
    | some k => (match k.its with
      | some j => if okAt T c j = true ∧ (k.meths.lookup nIter).isSome = true then (match fs.lookup j with
        | some (.tup ds) => some ds
        | _ => none) else none
      | none => none)
    | none => none)
  | _ => none
/-! dicts -/
def kD : Key → D
  | .inl i => .int i
  | .inr x => .str x
def valD (kvs : List (Key × D)) (k : Key) : Option D := (kvs.find? fun p => decide (p.1 = k)).map (·.2)
def putD (kvs : List (Key × D)) (k : Key) (d : D) : List (Key × D) := if (kvs.any fun p => decide (p.1 = k)) = true then kvs.map fun p => if p.1 = k then (p.1, d) else p else kvs ++ [(k, d)]
def mergeD (kvs more : List (Key × D)) : List (Key × D) := more.foldl (fun acc p => putD acc p.1 p.2) kvs
def kwD (ks : List Str) (ds : List D) : List (Key × D) := (ks.zip ds).map fun (p : Str × D) => ((.inr p.1 : Key), p.2)
def subK (d : D) (x : Str) (cs : Cells) : Res D := match d with
  | .dic (p :: r) => ofRes cs (valD (p :: r) (.inr x))
  | _ => .bad
def keysD (d : D) (cs : Cells) : Res (List D) := match d with
  | .dic (p :: r) => .ok ((p :: r).map fun q => kD q.1) cs
  | _ => .bad
def dispD (ks : List Str) (ds : List D) (d : D) (cs : Cells) : Res D := match d with
  | .dic (p :: r) => if r.length < 1000 then (match mergeD (mergeD [] (kwD ks ds)) (p :: r) with
    | q :: t => .ok (.dic (q :: t)) cs
    | [] => .bad) else .bad
  | _ => .bad
def attrV (f : Env → Cells → Res D) (j : Nat) : Env → Cells → Res D := fun ρ cs => (f ρ cs).bind fun x cs => (match deref x cs with
    | .ins c fs => if okAt T c j = true then ofRes cs (fs.lookup j) else .bad
    | _ => .bad)
def attrsD (f : Env → Cells → Res D) : List Nat → Env → Cells → Res (List D)
  | [], _, cs => .ok [] cs
  | j :: js, ρ, cs => (attrV T f j ρ cs).bind fun x cs => (attrsD f js ρ cs).bind fun xs cs => .ok (x :: xs) cs
def kwM : Nat := 1000000
def subD (x y : D) (cs : Cells) : Res D := match deref x cs, y with
  | .lst ds, .int k => ofRes cs (atD ds k)
  | .tup ds, .int k => ofRes cs (atD ds k)
  | .str z, .int k => if z.length ≤ sizeLine then ofRes cs ((atI z.cps.toList k).map fun c => .str ⟨#[c]⟩) else .bad
  | .ins _ _, _ => callM T O nGet x [y] cs
  | _, _ => .bad
def isiD (ts : List Ty) (x : D) (cs : Cells) : Res D := if tyOk T x cs = true ∧ ts.all (tyThere T) = true then .ok (.bl (ts.any (isTy T x cs))) cs else .bad
/-- x op= y -/
def isbD (neg b : Bool) (x : D) (cs : Cells) : Res D := match x with
  | .bl c => .ok (.bl (if neg = true then !decide (c = b) else decide (c = b))) cs
  | _ => .bad
def augD (op : Bop) (x y : D) (cs : Cells) : Res D := match op, x, y with
  | .add, .int i, .int j => .ok (.int (i + j)) cs
  | .sub, .int i, .int j => .ok (.int (i - j)) cs
  | .add, .str a, .str b => if a.length + b.length ≤ sizeLine then .ok (.str (a ++ b)) cs else .bad
  | .add, .ins c fs, .ins c' fs' => if c' = c then callM T O nAdd (.ins c fs) [.ins c' fs'] cs else .bad
  | _, _, _ => .bad
/-! ### expressions -/
def getV (ρ : Env) (i : Nat) : Option D := match ρ[i]? with
  | some (.val d) => some d
  | _ => none
def getB (ρ : Env) (i : Nat) : Option D := match ρ[i]? with
  | some (.val d) => some d
  | some (.own (.lst ds)) => some (.lst ds)
  | _ => none
/-- what an attribute is read of -/
def getA (ρ : Env) (i : Nat) : Option D := match ρ[i]? with
  | some (.val d) => some d
  | some (.own (.ins c fs)) => some (.ins c fs)
  | _ => none
def baseA (a : Ex) (f : Env → Cells → Res D) : Env → Cells → Res D := match a with
  | .var i => fun ρ cs => ofRes cs (getA ρ i)
  | _ => f
def setAll : List Nat → List D → Env → Option Env
  | [], [], ρ => some ρ
  | i :: is, d :: ds, ρ => if i < ρ.length then setAll is ds (ρ.set i (.val d)) else none
  | _, _, _ => none
def setTg (tg : List Nat) (one : Bool) (d : D) (ρ : Env) : Option Env :=
  if one then setAll tg [d] ρ
  else match d with
    | .tup ds => setAll tg ds ρ
    | _ => none
/-- the target's slots forgotten -/
def wipeE (ρ : Env) : List Nat → Env
  | [] => ρ
  | v :: vs => (wipeE ρ vs).set v .emp
def enumD (i : Nat) : List D → List D
  | [] => []
  | d :: ds => .tup [.int i, d] :: enumD (i + 1) ds
/-- a comprehension's turns -/
def compL (turn : D → Cells → Res (Option D)) : List D → List D → Cells → Res (List D)
  | acc, [], cs => .ok acc cs
  | acc, x :: xs, cs => match turn x cs with
    | .ok (some d) cs => if acc.length < sizeLine then compL turn (acc ++ [d]) xs cs else .bad
    | .ok none cs => compL turn acc xs cs
    | _ => .bad
def compF (turn : D → Cells → Res (Option D)) (acc xs : List D) (cs : Cells) (_w : Fx turn := .mk) : Res (List D) := compL turn acc xs cs
def turnD (tg : List Nat) (one : Bool) (fc : Env → Cells → Res Bool) (fe : Env → Cells → Res D) (ρ : Env) (x : D) (cs : Cells) : Res (Option D) := match setTg tg one x (wipeE ρ tg) with
  | some ρ' => (fc ρ' cs).bind fun t cs => if t then (fe ρ' cs).bind fun d cs => .ok (some d) cs else .ok none cs
  | none => .bad
def zipD (x y : D) : Option (List D) := match x, y with
  | .lst xs, .lst ys => some ((xs.zip ys).map fun p => .tup [p.1, p.2])
  | .tup xs, .tup ys => some ((xs.zip ys).map fun p => .tup [p.1, p.2])
  | _, _ => none
/-- the items of a list of one's own -/
def ownD (ρ : Env) (i : Nat) (cs : Cells) : Res (List D) := match ρ[i]? with
  | some (.own (.lst ds)) => .ok ds cs
  | _ => .bad
/-- each once, in the order of their first places -/
def ddp : List Int → List Int → List Int
  | acc, [] => acc
  | acc, n :: ns => if n ∈ acc then ddp acc ns else ddp (acc ++ [n]) ns
def dkD (xs : List D) (cs : Cells) : Res (List D) := match intsD xs with
  | some ns => if ns.length < sizeLine then .ok ((ddp [] ns).map .int) cs else .bad
  | none => .bad
def rngD (x : D) (cs : Cells) : Res (List D) := match x with
  | .int n => if ok62 n = true then .ok ((List.range n.toNat).map fun (i : Nat) => .int (i : Int)) cs else .bad
  | _ => .bad
def rng2D (x y : D) (cs : Cells) : Res (List D) := match x, y with
  | .int m, .int n => if ok62 m = true ∧ ok62 n = true then .ok ((List.range (n - m).toNat).map fun (i : Nat) => .int (m + (i : Int))) cs else .bad
  | _, _ => .bad
/-- what an expression means: as a value; read as it stands, without a name of its own; as a test; as what is walked; as a part of a slice; as arguments; as arguments read as they stand; as a comprehension's if -/
structure Den where
  v : Env → Cells → Res D
  b : Env → Cells → Res D
  t : Env → Cells → Res Bool
  it : Env → Cells → Res (List D)
  o : Env → Cells → Res (Option Int)
  as : Env → Cells → Res (List D)
  bs : Env → Cells → Res (List D)
  c : Env → Cells → Res Bool
  f : Str → Env → Cells → Res Str
def ofVB (f g : Env → Cells → Res D) : Den where
  v := f
  b := g
  t := fun ρ cs => (f ρ cs).bind fun x cs => truth x cs
  it := fun ρ cs => (f ρ cs).bind fun x cs => ofRes cs (itemsI x)
  o := fun ρ cs => (f ρ cs).bind fun x cs => (match x with
    | .int i => .ok (some i) cs
    | _ => .bad)
  as := fun _ _ => .bad
  bs := fun _ _ => .bad
  c := fun ρ cs => (f ρ cs).bind fun x cs => truth x cs
  f := fun _ _ _ => .bad
abbrev ofV (f : Env → Cells → Res D) : Den := ofVB f f
/-- a value that is a test of its own kind -/
def ofVT (f : Env → Cells → Res D) (t : Env → Cells → Res Bool) : Den := { ofVB f f with t := t, c := t }
def noDen : Den := ofV fun _ _ => .bad
def den : Ex → Den
  | .var i => ofVB (fun ρ cs => ofRes cs (getV ρ i)) (fun ρ cs => ofRes cs (getB ρ i))
  | .int i => ofV fun _ cs => .ok (.int i) cs
  | .str x => ofV fun _ cs => .ok (.str x) cs
  | .bl b => ofV fun _ cs => .ok (.bl b) cs
  | .non => ofV fun _ cs => .ok .non cs
  | .glob j => ofV fun _ cs => ofRes cs T.consts[j]?
  | .bin op a b => ofV fun ρ cs => ((den a).v ρ cs).bind fun x cs => ((den b).v ρ cs).bind fun y cs => binD T O op x y cs
  | .neg a => ofV fun ρ cs => ((den a).v ρ cs).bind fun x cs => (match x with
    | .int i => .ok (.int (-i)) cs
    | _ => .bad)
  | .not a => ofVT (fun ρ cs => ((den a).v ρ cs).bind fun x cs => (truth x cs).bind fun b cs => .ok (.bl (!b)) cs) (fun ρ cs => ((den a).t ρ cs).bind fun b cs => .ok (!b) cs)
  | .inv a => ofV fun ρ cs => ((den a).v ρ cs).bind fun x cs => callM T O nInv x [] cs
  | .and a b => ofVT (fun ρ cs => ((den a).v ρ cs).bind fun x cs => (truth x cs).bind fun k cs => if k = true then (den b).v ρ cs else .ok x cs) (fun ρ cs => ((den a).t ρ cs).bind fun k cs => if k = true then (den b).t ρ cs else .ok false cs)
  | .or a b => ofVT (fun ρ cs => ((den a).v ρ cs).bind fun x cs => (truth x cs).bind fun k cs => if k = true then .ok x cs else (den b).v ρ cs) (fun ρ cs => ((den a).t ρ cs).bind fun k cs => if k = true then .ok true cs else (den b).t ρ cs)
  | .cmp op a b => ofV fun ρ cs => ((den a).v ρ cs).bind fun x cs => ((den b).v ρ cs).bind fun y cs => cmpD T O op x y cs
  | .cmpB op a b => ofV fun ρ cs => ((den a).b ρ cs).bind fun x cs => ((den b).b ρ cs).bind fun y cs => cmpBD op x y cs
  | .chain o p a b c => ofV fun ρ cs => ((den a).v ρ cs).bind fun x cs => ((den b).v ρ cs).bind fun y cs => (cmpD T O o x y cs).bind fun r cs => (match r with
    | .bl true => ((den c).v ρ cs).bind fun z cs => cmpD T O p y z cs
    | .bl false => .ok (.bl false) cs
    | _ => .bad)
  | .isn a => ofV fun ρ cs => ((den a).v ρ cs).bind fun x cs => .ok (.bl (match x with
    | .non => true
    | _ => false)) cs
  | .notn a => ofV fun ρ cs => ((den a).v ρ cs).bind fun x cs => .ok (.bl (match x with
    | .non => false
    | _ => true)) cs
  | .ifx c a b => ofVT (fun ρ cs => ((den c).t ρ cs).bind fun k cs => if k = true then (den a).v ρ cs else (den b).v ρ cs) (fun ρ cs => ((den c).t ρ cs).bind fun k cs => if k = true then (den a).t ρ cs else (den b).t ρ cs)
  | .nil => { noDen with o := fun _ cs => .ok none cs, as := fun _ cs => .ok [] cs, bs := fun _ cs => .ok [] cs, c := fun _ cs => .ok true cs, f := fun acc _ cs => .ok acc cs }
  | .cons a r => { noDen with
      as := fun ρ cs => ((den a).v ρ cs).bind fun x cs => ((den r).as ρ cs).bind fun xs cs => .ok (x :: xs) cs
      bs := fun ρ cs => ((den a).b ρ cs).bind fun x cs => ((den r).bs ρ cs).bind fun xs cs => .ok (x :: xs) cs
      f := fun acc ρ cs => ((den a).v ρ cs).bind fun x cs => (match x with
        | .str y => if (acc ++ y).length ≤ sizeLine then (den r).f (acc ++ y) ρ cs else .bad
        | _ => .bad) }
  | .star a r => { noDen with
      as := fun ρ cs => ((den a).b ρ cs).bind fun x cs => (match seqOf x cs with
        | some ds => ((den r).as ρ cs).bind fun xs cs => .ok (ds ++ xs) cs
        | none => .bad) }
  | .tup as => ofV fun ρ cs => ((den as).as ρ cs).bind fun ds cs => if ds.length ≤ sizeLine then .ok (.tup ds) cs else .bad
  | .lst as => ofV fun ρ cs => ((den as).as ρ cs).bind fun ds cs => if ds.length ≤ sizeLine then .ok (.lst ds) cs else .bad
  | .sub a i => ofV fun ρ cs => ((den a).b ρ cs).bind fun x cs => ((den i).v ρ cs).bind fun y cs => subD T O x y cs
  | .slice a lo hi => ofV fun ρ cs => ((den a).b ρ cs).bind fun x cs => ((den lo).o ρ cs).bind fun l cs => ((den hi).o ρ cs).bind fun h cs => (match deref x cs with
    | .lst ds => .ok (.lst (cutD ds l h)) cs
    | .tup ds => .ok (.tup (cutD ds l h)) cs
    | .scr ds => .ok (.lst (cutD ds l h)) cs
    | _ => .bad)
  | .rev a => ofV fun ρ cs => ((den a).b ρ cs).bind fun x cs => (match deref x cs with
    | .lst ds => .ok (.lst ds.reverse) cs
    | .tup ds => .ok (.tup ds.reverse) cs
    | _ => .bad)
  | .attr a j => ofV fun ρ cs => (baseA a (den a).v ρ cs).bind fun x cs => (match deref x cs with
    | .ins c fs => if okAt T c j = true then ofRes cs (fs.lookup j) else .bad
    | _ => .bad)
  | .prop a j => ofV fun ρ cs => ((den a).v ρ cs).bind fun x cs => (match clsOf x cs with
    | some c => (match (T.cls[c]?).bind fun k => k.props.lookup j with
      | some f => O false f [x] cs
      | none => .bad)
    | none => .bad)
  | .call f as => ofV fun ρ cs => ((den as).as ρ cs).bind fun ds cs => O false f ds cs
  | .callk f as kas perm => ofV fun ρ cs => ((den as).as ρ cs).bind fun ds cs => ((den kas).as ρ cs).bind fun ks cs => (match permD perm (ds ++ ks ++ dflT T f) with
    | some es => O false f es cs
    | none => .bad)
  | .isb neg a b => ofV fun ρ cs => ((den a).v ρ cs).bind fun x cs => isbD neg b x cs
  | .callv i as => ofV fun ρ cs => (match getV ρ i with
    | some (.ins c fs) => ((den as).as ρ cs).bind fun ds cs => callM T O nCall (.ins c fs) ds cs
    | _ => .bad)
  | .cval c j => ofV fun _ cs => ofRes cs ((T.cls[c]?).bind fun k => k.cvs.lookup j)
  | .cmeth c m as => ofV fun ρ cs => ((den as).as ρ cs).bind fun ds cs => (match (T.cls[c]?).bind fun k => k.cms.lookup m with
    | some f => O false f (.cls c :: ds) cs
    | none => .bad)
  | .newv i as => ofV fun ρ cs => (match getV ρ i with
    | some (.cls c) => (match T.cls[c]? with
      | some k => (match k.init with
        | some f => ((den as).as ρ cs).bind fun ds cs => O true f ds cs
        | none => .bad)
      | none => .bad)
    | _ => .bad)
  | .new c as => ofV fun ρ cs => ((den as).as ρ cs).bind fun ds cs => (match T.cls[c]? with
    | some k => (match k.init with
      | some f => O true f ds cs
      | none => .bad)
    | none => .bad)
  | .newk c as kas perm => ofV fun ρ cs => ((den as).as ρ cs).bind fun ds cs => ((den kas).as ρ cs).bind fun ks cs => (match T.cls[c]? with
    | some k => (match k.init with
      | some f => (match permD perm (ds ++ ks ++ dflT T f) with
        | some es => O true f es cs
        | none => .bad)
      | none => .bad)
    | none => .bad)
  | .dct => ofV fun _ cs => .ok (.dic []) cs
  | .walk a => { noDen with it := fun ρ cs => ((den a).v ρ cs).bind fun x cs => ofRes cs (itemsT T x) }
  | .dsub a x => ofV fun ρ cs => ((den a).v ρ cs).bind fun d cs => subK d x cs
  | .dks a => { noDen with it := fun ρ cs => ((den a).v ρ cs).bind fun d cs => keysD d cs }
  | .dctA a st kjs => ofV fun ρ cs => (attrsD T (baseA a (den a).v) (kjs.map (·.2)) ρ cs).bind fun ds cs => ((den st).v ρ cs).bind fun d cs => dispD (kjs.map (·.1)) ds d cs
  | .methw m o ks as => ofV fun ρ cs => ((den o).v ρ cs).bind fun x cs => (match methF T m x cs with
    | some f => ((den as).as ρ cs).bind fun ds cs => if ds.length = ks.length ∧ ks ≠ [] then O true f [x, .dic (kwD ks ds)] cs else .bad
    | none => .bad)
  | .meth m o as => ofV fun ρ cs => ((den o).v ρ cs).bind fun x cs => (match methF T m x cs with
    | some f => ((den as).as ρ cs).bind fun ds cs => O false f (x :: ds) cs
    | none => .bad)
  | .methk m o as kas perm => ofV fun ρ cs => ((den o).v ρ cs).bind fun x cs => (match methF T m x cs with
    | some f => ((den as).as ρ cs).bind fun ds cs => ((den kas).as ρ cs).bind fun ks cs => (match permD perm (ds ++ ks ++ dflT T f) with
      | some es => O false f (x :: es) cs
      | none => .bad)
    | none => .bad)
  | .blt b as => ofV fun ρ cs => ((den as).bs ρ cs).bind fun ds cs => bltD T O b ds cs
  | .isi a ts => ofV fun ρ cs => ((den a).v ρ cs).bind fun x cs => isiD T ts x cs
  | .fmt a => ofV fun ρ cs => ((den a).v ρ cs).bind fun x cs => fmtD x cs
  | .fstr as => ofV fun ρ cs => ((den as).f Str.empty ρ cs).bind fun x cs => .ok (.str x) cs
  | .join a b => ofV fun ρ cs => ((den a).v ρ cs).bind fun x cs => (match x with
    | .str s => ((den b).b ρ cs).bind fun y cs => joinD s y cs
    | _ => .bad)
  | .split a b => ofV fun ρ cs => ((den a).v ρ cs).bind fun x cs => (match x with
    | .str s => ((den b).v ρ cs).bind fun y cs => splitD s y cs
    | _ => .bad)
  | .comp elt tg one src cond => ofV fun ρ cs => ((den src).it ρ cs).bind fun xs cs => (compF (turnD tg one (den cond).c (den elt).v ρ) [] xs cs).bind fun ds cs => .ok (.lst ds) cs
  | .compO elt tg one i cond => ofV fun ρ cs => (ownD ρ i cs).bind fun xs cs => (compF (turnD tg one (den cond).c (den elt).v ρ) [] xs cs).bind fun ds cs => .ok (.lst ds) cs
  | .dkeys j src => { noDen with it := fun ρ cs => ((den src).it ρ cs).bind fun xs cs => if j < ρ.length then dkD xs cs else .bad }
  | .rng a => { noDen with it := fun ρ cs => ((den a).v ρ cs).bind rngD }
  | .rng2 a b => { noDen with it := fun ρ cs => ((den a).v ρ cs).bind fun x cs => ((den b).v ρ cs).bind fun y cs => rng2D x y cs }
  | .enum a => { noDen with it := fun ρ cs => ((den a).v ρ cs).bind fun x cs => ofRes cs ((items x).map (enumD 0)) }
  | .zip a b => { noDen with it := fun ρ cs => ((den a).v ρ cs).bind fun x cs => ((den b).v ρ cs).bind fun y cs => ofRes cs (zipD x y) }
/-! ### statements -/
inductive Flw where
  | nx (ρ : Env) | ret (d : D) | brk (ρ : Env) | cnt (ρ : Env)
def putA (j : Nat) (d : D) : List (Nat × D) → List (Nat × D)
  | [] => [(j, d)]
  | (k, x) :: r => if k = j then (k, d) :: r else (k, x) :: putA j d r
def setIt (ds : List D) (k : Int) (d : D) : Option (List D) := (ixN ds.length k).map fun j => ds.set j d
/-- what comes behind a statement, where it goes on -/
def thenF (k : Env → Cells → Res Flw) (f : Flw) (cs : Cells) : Res Flw := match f with
  | .nx ρ => k ρ cs
  | f => .ok f cs
@[simp] theorem thenF_nx (k : Env → Cells → Res Flw) (ρ : Env) (cs : Cells) : thenF k (.nx ρ) cs = k ρ cs := (rfl)
@[simp] theorem thenF_ret (k : Env → Cells → Res Flw) (d : D) (cs : Cells) : thenF k (.ret d) cs = .ok (.ret d) cs := (rfl)
@[simp] theorem thenF_brk (k : Env → Cells → Res Flw) (d : Env) (cs : Cells) : thenF k (.brk d) cs = .ok (.brk d) cs := (rfl)
@[simp] theorem thenF_cnt (k : Env → Cells → Res Flw) (d : Env) (cs : Cells) : thenF k (.cnt d) cs = .ok (.cnt d) cs := (rfl)
def forL (body : Env → Cells → Res Flw) (tg : List Nat) (one : Bool) : List D → Env → Cells → Res Flw
  | [], ρ, cs => .ok (.nx ρ) cs
  | x :: xs, ρ, cs => match setTg tg one x ρ with
    | none => .bad
    | some ρ => (body ρ cs).bind fun f cs => match f with
      | .nx ρ => forL body tg one xs ρ cs
      | .cnt ρ => forL body tg one xs ρ cs
      | .brk ρ => .ok (.nx ρ) cs
      | .ret d => .ok (.ret d) cs
def forF (body : Env → Cells → Res Flw) (tg : List Nat) (one : Bool) (xs : List D) (ρ : Env) (cs : Cells) (_w : Fx body := .mk) : Res Flw := forL body tg one xs ρ cs
def whileL (test : Env → Cells → Res Bool) (body : Env → Cells → Res Flw) : Nat → Env → Cells → Res Flw
  | 0, _, _ => .bad
  | n + 1, ρ, cs => (test ρ cs).bind fun t cs => if t then (body ρ cs).bind fun f cs => (match f with
      | .nx ρ => whileL test body n ρ cs
      | .cnt ρ => whileL test body n ρ cs
      | .brk ρ => .ok (.nx ρ) cs
      | .ret d => .ok (.ret d) cs) else .ok (.nx ρ) cs
def whileF (test : Env → Cells → Res Bool) (body : Env → Cells → Res Flw) (n : Nat) (ρ : Env) (cs : Cells) (_w : Fx test := .mk) (_u : Fx body := .mk) : Res Flw := whileL test body n ρ cs
def turns : Nat := 1000000
def sm : Sm → Env → Cells → Res Flw
  | .skip, ρ, cs => .ok (.nx ρ) cs
  | .seq a b, ρ, cs => (sm a ρ cs).bind (thenF fun ρ cs => sm b ρ cs)
  | .frz i b, ρ, cs => match ρ[i]? with
    | some (.own d) => sm b (ρ.set i (.val d)) cs
    | _ => sm b ρ cs
  | .set i e, ρ, cs => ((den T O e).v ρ cs).bind fun d cs => if i < ρ.length then .ok (.nx (ρ.set i (.val d))) cs else .bad
  | .own i as, ρ, cs => ((den T O as).as ρ cs).bind fun ds cs => if ds.length ≤ sizeLine ∧ i < ρ.length then .ok (.nx (ρ.set i (.own (.lst ds)))) cs else .bad
  | .setT is e, ρ, cs => ((den T O e).v ρ cs).bind fun d cs => (match setTg is false d ρ with
    | some ρ => .ok (.nx ρ) cs
    | none => .bad)
  | .par is as, ρ, cs => ((den T O as).as ρ cs).bind fun ds cs => (match setAll is ds ρ with
    | some ρ => .ok (.nx ρ) cs
    | none => .bad)
  | .setA i j e, ρ, cs => ((den T O e).v ρ cs).bind fun d cs => (match ρ[i]? with
      | some (.own (.ins c fs)) => if okAt T c j = true ∧ fs.length < 1000 then .ok (.nx (ρ.set i (.own (.ins c (putA j d fs))))) cs else .bad
      | some (.val (.cell n)) => (match cs[n]? with
        | some (.ins c fs) => if okAt T c j = true ∧ fs.length < 1000 then .ok (.nx ρ) (cs.set n (.ins c (putA j d fs))) else .bad
        | _ => .bad)
      | _ => .bad)
  | .setI v i e, ρ, cs => ((den T O e).v ρ cs).bind fun d cs => (match ρ[v]? with
    | some (.own (.lst ds)) => ((den T O i).v ρ cs).bind fun k cs => (match k with
      | .int k => (match setIt ds k d with
        | some ds => .ok (.nx (ρ.set v (.own (.lst ds)))) cs
        | none => .bad)
      | _ => .bad)
    | some (.val (.cell n)) => ((den T O i).v ρ cs).bind fun k cs => (match k with
      | .int k => (match cs[n]? with
        | some (.lst ds) => (match setIt ds k d with
          | some ds => .ok (.nx ρ) (cs.set n (.lst ds))
          | none => .bad)
        | _ => .bad)
      | _ => .bad)
    | _ => .bad)
  | .aug i op e, ρ, cs => (match getV ρ i with
    | some x => ((den T O e).v ρ cs).bind fun y cs => (augD T O op x y cs).bind fun d cs => .ok (.nx (ρ.set i (.val d))) cs
    | none => .bad)
  | .ex e, ρ, cs => ((den T O e).v ρ cs).bind fun _ cs => .ok (.nx ρ) cs
  | .app i e, ρ, cs => (match ρ[i]? with
    | some (.own (.lst ds)) => ((den T O e).v ρ cs).bind fun d cs => if ds.length < sizeLine then .ok (.nx (ρ.set i (.own (.lst (ds ++ [d]))))) cs else .bad
    | _ => .bad)
  | .ext i e, ρ, cs => (match ρ[i]? with
    | some (.own (.lst ds)) => ((den T O e).v ρ cs).bind fun d cs => (match items d with
      | some es => if ds.length + es.length ≤ sizeLine then .ok (.nx (ρ.set i (.own (.lst (ds ++ es))))) cs else .bad
      | none => .bad)
    | _ => .bad)
  | .ite c a b, ρ, cs => ((den T O c).t ρ cs).bind fun t cs => if t then sm a ρ cs else sm b ρ cs
  | .for_ tg one src body, ρ, cs => ((den T O src).it ρ cs).bind fun xs cs => forF (fun ρ cs => sm body ρ cs) tg one xs ρ cs
  | .while_ c body, ρ, cs => whileF (fun ρ cs => (den T O c).t ρ cs) (fun ρ cs => sm body ρ cs) turns ρ cs
  | .ret e, ρ, cs => ((den T O e).v ρ cs).bind fun d cs => .ok (.ret d) cs
  | .retC as, ρ, cs => ((den T O as).as ρ cs).bind fun ds cs => if ds.length ≤ sizeLine then .ok (.ret (.cell cs.length)) (cs ++ [.lst ds]) else .bad
  | .brk, ρ, cs => .ok (.brk ρ) cs
  | .cnt, ρ, cs => .ok (.cnt ρ) cs
  | .never, _, _ => .bad
end
def endF : Flw → Cells → Res D
  | .nx _, cs => .ok .non cs
  | .ret d, cs => .ok d cs
  | _, _ => .bad
/-- behind an __init__: what was made -/
def endI (mutb : Bool) : Flw → Cells → Res D
  | .nx ρ, cs => (match ρ[0]? with
    | some (Slot.own (D.ins c fs)) => if mutb then .ok (.cell cs.length) (cs ++ [.ins c fs]) else .ok (.ins c fs) cs
    | _ => .bad)
  | _, _ => .bad
def mutOf (T : Tab) (c : Nat) : Bool := match T.cls[c]? with
  | some k => k.mutb
  | none => false
/-- a function's call, so many calls deep -/
def run (T : Tab) : Nat → Orc
  | 0, _, _, _, _ => .bad
  | k + 1, false, f, args, cs => (match T.fns[f]? with
    | none => .bad
    | some F => (match F.ini with
      | some _ => .bad
      | none => (match freshE F args with
        | none => .bad
        | some ρ => (sm T (run T k) F.body ρ cs).bind endF)))
  | k + 1, true, f, args, cs => (match T.fns[f]? with
    | none => .bad
    | some F => (match F.ini with
      | none => .bad
      | some c => if c = kwM then (match freshE F args with
        | none => .bad
        | some ρ => (sm T (run T k) F.body ρ cs).bind endF)
        else (match freshI F c args with
        | none => .bad
        | some ρ => (sm T (run T k) F.body ρ cs).bind (endI (mutOf T c)))))
end Dv
end
section
set_option Elab.async false
set_option linter.all false
set_option maxRecDepth 100000
set_option maxHeartbeats 4000000
/-! x != y where the class of x has its own __eq__ and object's __ne__. -/
namespace Dv
open PySem PySem.Spec PySem.Calls PyProof.Rows
section
variable {prog : Program} {w : World} {A : Around} {E : Value → Shared → Prop} {s : Shared} {K : PySem.W.Frag} {x C L f : Addr} {h₀ : Heap} {m : Str → Option Value} {ox : Obj} {od : Option Obj} {b tb : Value}
theorem ifBoundB {M : Model} {name : Str} {id T : String} {args : List Value} {Q : Option Value → Shared → Prop} (X : K.In s.heap) (I : PySem.W.InstAt s.heap x ox C od) (hs : PySem.W.findIn K (.ref C) name = some (some (.builtin id))) (S : PySem.Slot T name id)
    (h : wpAny M A (call (.builtin id) (.ref x :: args)) (fun v => Q (some v)) E s) : wpAny M A (callSpecialIfBound? (.ref x) name args) Q E s := by
  simp only [callSpecialIfBound?, bindSpecialIfBound?]
  refine wpAny_holding (wpAny_bind (wpAny_bind (wpAny_bind (I.type.here ((PySem.W.looks_findIn X hs).here ?_)))))
  simp only [S.bind]
  refine wpAny_bind (wpAny_askSetting (wpAny_ite ?_))
  have fin : wpAny M A (call (.builtin id) ([.ref x] ++ args) >>= fun v => pure (some v)) Q E s := wpAny_bind (wpAny_mono h (fun v s' h' => wpAny_pure h') fun _ _ h' => h')
  split
  · exact wpAny_bind (wpAny_pure (wpAny_pure fin))
  · exact wpAny_tryCatch (wpAny_bind (wpAny_pure (wpAny_pure fin)))
theorem check_own {M : Model} {id owner n : String} {rest : List Value} {Q : Unit → Shared → Prop} (X : K.In s.heap) (I : PySem.W.InstAt s.heap x ox C od) (hk : builtinKind id = some .slot) (hs : splitId id = some (owner, n))
    (ha : argsOk id ⟨.ref x :: rest, []⟩) (hm : PySem.W.mroIn K C (.type owner) = some true) (hq : Q () s) : wpAny M A (checkBuiltinCall id ⟨.ref x :: rest, []⟩) Q E s := by
  simp only [checkBuiltinCall, hk, hs]
  refine wpAny_bind ?_
  have L1 : PySem.W.Looks M s.heap (isInstance (.ref x) (.type owner)) true := I.type.andThen (PySem.W.looks_mroIn X hm)
  refine L1.here ?_
  rw [if_neg (by simp)]
  cases hsig : Manifest.signature? id with
  | none => exact wpAny_pure hq
  | some sig =>
    simp only [argsOk, hsig] at ha
    have h2 : Bind.checkArgs id sig ⟨.ref x :: rest, []⟩ = pure () := ha
    show wpAny M A (Bind.checkArgs id sig ⟨.ref x :: rest, []⟩) Q E _
    rw [h2]; exact wpAny_pure hq
/-- richCompare .NotEq: __eq__'s answer, turned -/
theorem ne_K {Q : Value → Shared → Prop} (hu : A.units + 1 < cLine) (X : K.In s.heap) (I : PySem.W.InstAt s.heap x ox C od) (hb : PySem.W.Looks (model prog w) s.heap (typeOf b) tb) (hn : PySem.W.notFirst K C tb = true)
    (hs : PySem.W.findIn K (.ref C) "__eq__" = some (some (.ref f))) (hf : PySem.W.isFn K (.ref f) = true) (hne : PySem.W.findIn K (.ref C) "__ne__" = some (some (.builtin "object.__ne__"))) (hm : PySem.W.mroIn K C (.type "object") = some true)
    (h : wpAny (model prog w) A.in1 (call (.ref f) [.ref x, b]) (fun v s' => ∃ k : Bool, v = .bool k ∧ Q (.bool (!k)) s') E s) : wpAny (model prog w) A (richCompare .NotEq (.ref x) b) Q E s := by
  have entry : wpAny (model prog w) A.in1 (Builtin.«object.__ne__» ⟨[.ref x, b], []⟩) (fun fin s' => ∃ v, fin = .done (.ret v) ∧ v ≠ .notImplemented ∧ Q v s') E s := by
    unfold Builtin.«object.__ne__»
    have sp : wpAny (model prog w) A.in1 (callSpecialIfBound? (.ref x) "__eq__" [b]) (fun r s' => ∃ k : Bool, r = some (.bool k) ∧ Q (.bool (!k)) s') E s := by
      refine PySem.W.ifBound_K X I hs hf (wpAny_mono h (fun v s' hv => ?_) fun _ _ e => e)
      obtain ⟨k, rfl, q⟩ := hv
      exact ⟨k, rfl, q⟩
    refine wpAny_bind (wpAny_of_eq (show _ = pure _ from rfl) ?_)
    refine wpAny_bind (wpAny_cRoomFor (by exact hu) ?_)
    refine wpAny_bind (wpAny_mono sp (fun r s' hr => ?_) fun _ _ e => e)
    obtain ⟨k, rfl, q⟩ := hr
    refine wpAny_bind (wpAny_truthy_bool ?_)
    exact wpAny_pure ⟨_, rfl, (fun z => nomatch z), q⟩
  have one : wpAny (model prog w) A (tryCompare (.ref x) "__ne__" b) (fun r s' => ∃ v, r = some v ∧ Q v s') E s := by
    unfold tryCompare
    refine wpAny_bind (ifBoundB X I hne F.cmp_object.ne (wpAny_call (codeAny_call_builtin F.cmp_object.ne.plain F.cmpEntry_ne (check_own X I F.cmpKind_ne F.cmpSplit_ne (F.cmpArgs_ne _ _) hm ?_))))
    refine wpAny_mono entry (fun fin s' z => ?_) fun _ _ e => e
    obtain ⟨v, rfl, hv, q⟩ := z
    show wpAny (model prog w) A (match some v with
      | some .notImplemented => pure none
      | none => pure none
      | some v => pure (some v)) _ E s'
    cases v <;> first | exact absurd rfl hv | exact wpAny_pure ⟨_, rfl, q⟩
  unfold richCompare
  simp only [oneThing_ref]
  refine wpAny_holding (wpAny_bind (wpAny_cRoomFor (Nat.lt_of_succ_lt hu) ?_))
  refine wpAny_bind (I.type.here (wpAny_bind (hb.here ?_)))
  split
  · rename_i q
    have e : PySem.W.subIn K tb (.ref C) = some false := by
      rcases Bool.or_eq_true_iff.mp hn with e | e
      · rw [beq_iff_eq.mp e] at q; simp at q
      · exact beq_iff_eq.mp e
    refine wpAny_bind ((PySem.W.looks_subIn X e).here ?_)
    simp only [Bool.false_eq_true, if_false]
    refine wpAny_bind (wpAny_mono one (fun r s' z => ?_) fun _ _ e => e)
    obtain ⟨v, rfl, hq⟩ := z
    exact wpAny_pure hq
  · refine wpAny_bind (wpAny_pure ?_)
    simp only [Bool.false_eq_true, if_false]
    refine wpAny_bind (wpAny_mono one (fun r s' z => ?_) fun _ _ e => e)
    obtain ⟨v, rfl, hq⟩ := z
    exact wpAny_pure hq
end
end Dv
end
section
set_option Elab.async false
set_option linter.all false
set_option maxRecDepth 100000
set_option maxHeartbeats 4000000
namespace Dv
open PySem L2
/-! ### how data lie in the heap -/
/-- the ghost: which objects never change any more; where the cells stand -/
structure Gh where
  fz : Addr → Prop
  io : List Addr
/-- the text's own: where its classes stand, what its attributes are called -/
structure Nm where
  ca : Nat → Addr
  at_ : Nat → Str
  fa : Nat → Addr
  mt : Nat → Str
  kw : Nat → Nat → List Str → List Nat → Bool
section
variable (K : PySem.W.Frag) (nm : Nm)
mutual
inductive Rep (g : Gh) (H : Hp) : D → V → Prop
  | non : Rep g H .non .non
  | bl (b : Bool) : Rep g H (.bl b) (.bl b)
  | int (i : Int) : Rep g H (.int i) (.int i)
  | str (x : Str) : Rep g H (.str x) (.str x)
  | tup {a : Addr} {vs : List V} {ds : List D} : g.fz a → H a = some (.tup vs) → Reps g H ds vs → Rep g H (.tup ds) (.ref a)
  | tupK {a : Addr} {vs : List V} {ds : List D} : (∀ H, SqT K H a vs) → Reps g H ds vs → Rep g H (.tup ds) (.ref a)
  | lst {a : Addr} {vs : List V} {ds : List D} : g.fz a → H a = some (.lst vs) → Reps g H ds vs → Rep g H (.lst ds) (.ref a)
  | scr {a : Addr} {o : Obj} {vs : List V} {ds : List D} : g.fz a → H a = some (.frz o (.lst vs)) → Reps g H ds vs → Rep g H (.scr ds) (.ref a)
  | scrK {a : Addr} {vs : List V} {ds : List D} : (∀ H, SqL K H a vs) → Reps g H ds vs → Rep g H (.scr ds) (.ref a)
  | ins {a dx : Addr} {c : Nat} {fs : List (Nat × D)} {vs : List (Str × V)} : g.fz a → H a = some (.ins (nm.ca c) dx vs) → Repf g H fs vs → Rep g H (.ins c fs) (.ref a)
  | cell {n : Nat} {a : Addr} : g.io[n]? = some a → Rep g H (.cell n) (.ref a)
  | cls (c : Nat) : Rep g H (.cls c) (.ref (nm.ca c))
  | dic {a : Addr} : g.fz a → H a = some (.dK []) → Rep g H (.dic []) (.ref a)
  | dicF {a : Addr} {o : Obj} {p : Key × D} {kvs : List (Key × D)} {vs : List (Key × V)} : g.fz a → H a = some (.frz o (.dK vs)) → Repd g H (p :: kvs) vs → Rep g H (.dic (p :: kvs)) (.ref a)
inductive Reps (g : Gh) (H : Hp) : List D → List V → Prop
  | nil : Reps g H [] []
  | cons {d : D} {v : V} {ds : List D} {vs : List V} : Rep g H d v → Reps g H ds vs → Reps g H (d :: ds) (v :: vs)
inductive Repd (g : Gh) (H : Hp) : List (Key × D) → List (Key × V) → Prop
  | nil : Repd g H [] []
  | cons {k : Key} {d : D} {v : V} {fs : List (Key × D)} {vs : List (Key × V)} : Rep g H d v → Repd g H fs vs → Repd g H ((k, d) :: fs) ((k, v) :: vs)
inductive Repf (g : Gh) (H : Hp) : List (Nat × D) → List (Str × V) → Prop
  | nil : Repf g H [] []
  | cons {j : Nat} {d : D} {v : V} {fs : List (Nat × D)} {vs : List (Str × V)} : Rep g H d v → Repf g H fs vs → Repf g H ((j, d) :: fs) ((nm.at_ j, v) :: vs)
end
/-- what is there later: more objects, more cells; only cells have changed -/
structure Ext (g : Gh) (H : Hp) (g' : Gh) (H' : Hp) : Prop where
  io : ∃ t, g'.io = g.io ++ t ∧ ∀ a ∈ t, H a = none
  fz : ∀ a, g.fz a → g'.fz a
  fzn : ∀ a, g'.fz a → g.fz a ∨ H a = none
  keep : ∀ a o, H a = some o → a ∉ g.io → H' a = some o
  there : ∀ a, H' a = none → H a = none
end
section
variable {K : PySem.W.Frag} {nm : Nm} {g g' g2 : Gh} {H H' H2 : Hp}
theorem Ext.refl : Ext g H g H := ⟨⟨[], by simp, by simp⟩, fun _ h => h, fun _ h => .inl h, fun _ _ h _ => h, fun _ h => h⟩
theorem Ext.trans (e : Ext g H g' H') (f : Ext g' H' g2 H2) : Ext g H g2 H2 := by
  obtain ⟨t, e1, e2⟩ := e.io
  obtain ⟨u, f1, f2⟩ := f.io
  refine ⟨⟨t ++ u, by rw [f1, e1, List.append_assoc], fun a ha => ?_⟩, fun a h => f.fz a (e.fz a h), fun a h => ?_, fun a o h n => ?_, fun a h => e.there a (f.there a h)⟩
  · rcases List.mem_append.mp ha with h | h
    · exact e2 a h
    · exact e.there a (f2 a h)
  · rcases f.fzn a h with h | h
    · exact e.fzn a h
    · exact .inr (e.there a h)
  · have h1 := e.keep a o h n
    refine f.keep a o h1 fun hm => ?_
    rw [e1] at hm
    rcases List.mem_append.mp hm with q | q
    · exact n q
    · have := e2 a q
      rw [h] at this
      cases this
/-- the ghost goes with the heap -/
structure GOk (g : Gh) (H : Hp) : Prop where
  fzt : ∀ a, g.fz a → H a ≠ none
  iot : ∀ a ∈ g.io, H a ≠ none
  dis : ∀ a ∈ g.io, ¬ g.fz a
  nd : g.io.Nodup
theorem Ext.ioGet (e : Ext g H g' H') {n : Nat} {a : Addr} (h : g.io[n]? = some a) : g'.io[n]? = some a := by
  obtain ⟨t, e1, _⟩ := e.io
  rw [e1]
  have hn : n < g.io.length := by
    rcases Nat.lt_or_ge n g.io.length with q | q
    · exact q
    · rw [List.getElem?_eq_none q] at h
      cases h
  rw [List.getElem?_append_left hn, h]
theorem Ext.kf (e : Ext g H g' H') (ok : GOk g H) {a : Addr} {o : HO} (h : g.fz a) (q : H a = some o) : H' a = some o := e.keep a o q fun hm => ok.dis a hm h
mutual
theorem Rep.mono (e : Ext g H g' H') (ok : GOk g H) : ∀ {d : D} {v : V}, Rep K nm g H d v → Rep K nm g' H' d v
  | _, _, .non => .non
  | _, _, .bl b => .bl b
  | _, _, .int i => .int i
  | _, _, .str x => .str x
  | _, _, .tup h1 h2 h3 => .tup (e.fz _ h1) (e.kf ok h1 h2) (Reps.mono e ok h3)
  | _, _, .tupK h1 h3 => .tupK h1 (Reps.mono e ok h3)
  | _, _, .lst h1 h2 h3 => .lst (e.fz _ h1) (e.kf ok h1 h2) (Reps.mono e ok h3)
  | _, _, .scr h1 h2 h3 => .scr (e.fz _ h1) (e.kf ok h1 h2) (Reps.mono e ok h3)
  | _, _, .scrK h1 h3 => .scrK h1 (Reps.mono e ok h3)
  | _, _, .ins h1 h2 h3 => .ins (e.fz _ h1) (e.kf ok h1 h2) (Repf.mono e ok h3)
  | _, _, .cell h => .cell (e.ioGet h)
  | _, _, .cls c => .cls c
  | _, _, .dic h1 h2 => .dic (e.fz _ h1) (e.kf ok h1 h2)
  | _, _, .dicF h1 h2 h3 => .dicF (e.fz _ h1) (e.kf ok h1 h2) (Repd.mono e ok h3)
theorem Repd.mono (e : Ext g H g' H') (ok : GOk g H) : ∀ {fs : List (Key × D)} {vs : List (Key × V)}, Repd K nm g H fs vs → Repd K nm g' H' fs vs
  | _, _, .nil => .nil
  | _, _, .cons h t => .cons (Rep.mono e ok h) (Repd.mono e ok t)
theorem Reps.mono (e : Ext g H g' H') (ok : GOk g H) : ∀ {ds : List D} {vs : List V}, Reps K nm g H ds vs → Reps K nm g' H' ds vs
  | _, _, .nil => .nil
  | _, _, .cons h t => .cons (Rep.mono e ok h) (Reps.mono e ok t)
theorem Repf.mono (e : Ext g H g' H') (ok : GOk g H) : ∀ {fs : List (Nat × D)} {vs : List (Str × V)}, Repf K nm g H fs vs → Repf K nm g' H' fs vs
  | _, _, .nil => .nil
  | _, _, .cons h t => .cons (Rep.mono e ok h) (Repf.mono e ok t)
end
theorem Reps.length : ∀ {ds : List D} {vs : List V}, Reps K nm g H ds vs → ds.length = vs.length
  | _, _, .nil => rfl
  | _, _, .cons _ t => by rw [List.length_cons, List.length_cons, t.length]
theorem Reps.append : ∀ {ds es : List D} {vs ws : List V}, Reps K nm g H ds vs → Reps K nm g H es ws → Reps K nm g H (ds ++ es) (vs ++ ws)
  | _, _, _, _, .nil, q => q
  | _, _, _, _, .cons h t, q => .cons h (t.append q)
theorem Reps.get : ∀ {ds : List D} {vs : List V} {i : Nat} {d : D}, Reps K nm g H ds vs → ds[i]? = some d → ∃ v, vs[i]? = some v ∧ Rep K nm g H d v
  | _, _, _, _, .nil, h => by simp at h
  | _, _, 0, _, .cons h t, e => by simp at e; subst e; exact ⟨_, rfl, h⟩
  | _, _, i + 1, _, .cons h t, e => by
    obtain ⟨v, h1, h2⟩ := Reps.get (i := i) t (by simpa using e)
    exact ⟨v, by simpa using h1, h2⟩
theorem Reps.take : ∀ {ds : List D} {vs : List V} (n : Nat), Reps K nm g H ds vs → Reps K nm g H (ds.take n) (vs.take n)
  | _, _, 0, _ => .nil
  | _, _, _ + 1, .nil => .nil
  | _, _, n + 1, .cons h t => .cons h (t.take n)
theorem Reps.drop : ∀ {ds : List D} {vs : List V} (n : Nat), Reps K nm g H ds vs → Reps K nm g H (ds.drop n) (vs.drop n)
  | _, _, 0, h => h
  | _, _, _ + 1, .nil => .nil
  | _, _, n + 1, .cons h t => t.drop n
theorem Reps.reverse : ∀ {ds : List D} {vs : List V}, Reps K nm g H ds vs → Reps K nm g H ds.reverse vs.reverse
  | _, _, .nil => .nil
  | _, _, .cons h t => by
    rw [List.reverse_cons, List.reverse_cons]
    exact t.reverse.append (.cons h .nil)
theorem Reps.set : ∀ {ds : List D} {vs : List V} (i : Nat) {d : D} {v : V}, Reps K nm g H ds vs → Rep K nm g H d v → Reps K nm g H (ds.set i d) (vs.set i v)
  | _, _, _, _, _, .nil, _ => .nil
  | _, _, 0, _, _, .cons _ t, r => .cons r t
  | _, _, i + 1, _, _, .cons h t, r => .cons h (t.set i r)
theorem Repf.length : ∀ {fs : List (Nat × D)} {vs : List (Str × V)}, Repf K nm g H fs vs → fs.length = vs.length
  | _, _, .nil => rfl
  | _, _, .cons _ t => by rw [List.length_cons, List.length_cons, t.length]
/-- the attributes' names are unlike -/
def NmOk (nm : Nm) : Prop := ∀ i j, nm.at_ i = nm.at_ j → i = j
theorem Repf.look (hn : NmOk nm) : ∀ {fs : List (Nat × D)} {vs : List (Str × V)} {j : Nat} {d : D}, Repf K nm g H fs vs → fs.lookup j = some d → ∃ v, vs.lookup (nm.at_ j) = some v ∧ Rep K nm g H d v
  | _, _, _, _, .nil, h => by simp at h
  | (i, x) :: fs, (_, v) :: vs, j, d, .cons h t, e => by
    by_cases q : j = i
    · subst q
      simp [List.lookup] at e
      subst e
      exact ⟨v, by simp [List.lookup], h⟩
    · have e2 : (j == i) = false := beq_eq_false_iff_ne.mpr q
      have e3 : (nm.at_ j == nm.at_ i) = false := beq_eq_false_iff_ne.mpr fun z => q (hn j i z)
      simp only [List.lookup, e2] at e
      simp only [List.lookup, e3]
      exact Repf.look hn t e
theorem Repf.put (hn : NmOk nm) : ∀ {fs : List (Nat × D)} {vs : List (Str × V)} {j : Nat} {d : D} {v : V}, Repf K nm g H fs vs → Rep K nm g H d v → Repf K nm g H (putA j d fs) (putF (nm.at_ j) v vs)
  | _, _, _, _, _, .nil, r => .cons r .nil
  | (i, x) :: fs, (_, y) :: vs, j, d, v, .cons h t, r => by
    by_cases q : i = j
    · subst q
      simp only [putA, putF, if_true]
      exact .cons r t
    · have e3 : ¬ nm.at_ i = nm.at_ j := fun z => q (hn i j z)
      simp only [putA, putF, if_neg q, if_neg e3]
      exact .cons h (Repf.put hn t r)
/-- attributes' names from a list; beyond it names that no text has -/
def mkAt (l : List Str) (j : Nat) : Str := l.getD j ⟨#[1114112 + j]⟩
theorem mkAt_inj {l : List Str} {ca fa : Nat → Addr} {mt : Nat → Str} {kw : Nat → Nat → List Str → List Nat → Bool} (h : l.Nodup) (h2 : ∀ x ∈ l, x.cps.all (· < 1114112) = true) : NmOk ⟨ca, mkAt l, fa, mt, kw⟩ := by
  have old : ∀ i, i < l.length → mkAt l i ∈ l := fun i hi => by
    unfold mkAt
    rw [List.getD_eq_getElem?_getD, List.getElem?_eq_getElem hi]
    exact List.getElem_mem hi
  have new : ∀ i, l.length ≤ i → mkAt l i = ⟨#[1114112 + i]⟩ := fun i hi => by
    unfold mkAt
    rw [List.getD_eq_getElem?_getD, List.getElem?_eq_none hi]
    rfl
  have bad : ∀ i, (⟨#[1114112 + i]⟩ : Str) ∉ l := fun i hm => by
    have := h2 _ hm
    simp at this
    omega
  intro i j e
  show i = j
  have e : mkAt l i = mkAt l j := e
  rcases Nat.lt_or_ge i l.length with hi | hi
  · rcases Nat.lt_or_ge j l.length with hj | hj
    · unfold mkAt at e
      rw [List.getD_eq_getElem?_getD, List.getElem?_eq_getElem hi, List.getD_eq_getElem?_getD, List.getElem?_eq_getElem hj] at e
      exact (List.getElem_inj h).mp e
    · rw [new j hj] at e
      exact absurd (e ▸ old i hi) (bad j)
  · rcases Nat.lt_or_ge j l.length with hj | hj
    · rw [new i hi] at e
      exact absurd (e ▸ old j hj) (bad i)
    · rw [new i hi, new j hj] at e
      injection e with e
      simp at e
      omega
/-! ### a thing that has one holder alone; cells; a frame's slots -/
/-- at v: data that nobody else holds -/
def Own (K : PySem.W.Frag) (nm : Nm) (g : Gh) (H : Hp) (d : D) (v : V) : Prop := ∃ a, v = .ref a ∧ ¬ g.fz a ∧ a ∉ g.io ∧ match d with
  | .lst ds => ∃ vs, H a = some (.lst vs) ∧ Reps K nm g H ds vs
  | .ins c fs => ∃ dx vs, H a = some (.ins (nm.ca c) dx vs) ∧ Repf K nm g H fs vs
  | _ => False
def CellOk (K : PySem.W.Frag) (nm : Nm) (g : Gh) (H : Hp) (a : Addr) : Cell → Prop
  | .lst ds => ∃ vs, H a = some (.lst vs) ∧ Reps K nm g H ds vs
  | .ins c fs => ∃ dx vs, H a = some (.ins (nm.ca c) dx vs) ∧ Repf K nm g H fs vs
structure CsOk (K : PySem.W.Frag) (nm : Nm) (g : Gh) (H : Hp) (cs : Cells) : Prop where
  ok : GOk g H
  len : cs.length = g.io.length
  at_ : ∀ (n : Nat) (c : Cell) (a : Addr), cs[n]? = some c → g.io[n]? = some a → CellOk K nm g H a c
def SlotOk (K : PySem.W.Frag) (nm : Nm) (g : Gh) (H : Hp) : Slot → Option (Option V) → Prop
  | .emp, _ => True
  | .val d, o => ∃ v, o = some (some v) ∧ Rep K nm g H d v
  | .own d, o => ∃ v, o = some (some v) ∧ Own K nm g H d v
structure EnvOk (K : PySem.W.Frag) (nm : Nm) (g : Gh) (H : Hp) (σ : L2.St) (ρ : Env) : Prop where
  len : σ.length = ρ.length
  sl : ∀ (i : Nat) (s : Slot), ρ[i]? = some s → SlotOk K nm g H s σ[i]?
  ap : ∀ (i j : Nat) (d e : D) (v : V), ρ[i]? = some (.own d) → ρ[j]? = some (.own e) → σ[i]? = some (some v) → σ[j]? = some (some v) → i = j
theorem Own.there {d : D} {a : Addr} (h : Own K nm g H d (.ref a)) : ∃ o, H a = some o := by
  obtain ⟨b, e, _, _, m⟩ := h
  cases e
  cases d with
  | lst ds => obtain ⟨vs, q, _⟩ := m; exact ⟨_, q⟩
  | ins c fs => obtain ⟨dx, vs, q, _⟩ := m; exact ⟨_, q⟩
  | _ => exact m.elim
theorem Own.mono (e : Ext g H g' H') (ok : GOk g H) {d : D} {v : V} (h : Own K nm g H d v) : Own K nm g' H' d v := by
  have h0 := h
  obtain ⟨a, rfl, h1, h2, m⟩ := h
  obtain ⟨o, ho⟩ := h0.there
  refine ⟨a, rfl, fun q => ?_, fun q => ?_, ?_⟩
  · rcases e.fzn a q with z | z
    · exact h1 z
    · rw [ho] at z; cases z
  · obtain ⟨t, e1, e2⟩ := e.io
    rw [e1] at q
    rcases List.mem_append.mp q with z | z
    · exact h2 z
    · rw [e2 a z] at ho; cases ho
  · cases d with
    | lst ds => obtain ⟨vs, q, r⟩ := m; exact ⟨vs, e.keep a _ q h2, r.mono e ok⟩
    | ins c fs => obtain ⟨dx, vs, q, r⟩ := m; exact ⟨dx, vs, e.keep a _ q h2, r.mono e ok⟩
    | _ => exact m.elim
theorem EnvOk.mono {σ : L2.St} {ρ : Env} (e : Ext g H g' H') (ok : GOk g H) (h : EnvOk K nm g H σ ρ) : EnvOk K nm g' H' σ ρ := by
  refine ⟨h.len, fun i s hs => ?_, h.ap⟩
  have := h.sl i s hs
  cases s with
  | emp => exact True.intro
  | val d => obtain ⟨v, q, r⟩ := this; exact ⟨v, q, r.mono e ok⟩
  | own d => obtain ⟨v, q, r⟩ := this; exact ⟨v, q, r.mono e ok⟩
/-- as it stands: a value, or data of one holder -/
def BRep (K : PySem.W.Frag) (nm : Nm) (g : Gh) (H : Hp) (d : D) (v : V) : Prop := Rep K nm g H d v ∨ ((∃ ds, d = .lst ds) ∧ Own K nm g H d v)
theorem BRep.mono (e : Ext g H g' H') (ok : GOk g H) {d : D} {v : V} (h : BRep K nm g H d v) : BRep K nm g' H' d v := by
  rcases h with h | h
  · exact .inl (h.mono e ok)
  · exact .inr ⟨h.1, h.2.mono e ok⟩
/-- a new object that never changes -/
def Gh.add (g : Gh) (a : Addr) : Gh := ⟨fun b => g.fz b ∨ b = a, g.io⟩
theorem ext_new {p : Addr} {o : HO} (h : H p = none) : Ext g H (g.add p) (upd H p o) := by
  refine ⟨⟨[], by simp [Gh.add], by simp⟩, fun a q => .inl q, fun a q => ?_, fun a u q _ => ?_, fun a q => ?_⟩
  · rcases q with q | q
    · exact .inl q
    · subst q; exact .inr h
  · rw [upd_ne (ne_of_none q h)]; exact q
  · by_cases e : a = p
    · subst e; exact h
    · rw [upd_ne e] at q; exact q
theorem gok_new {p : Addr} {o : HO} (h : H p = none) (ok : GOk g H) : GOk (g.add p) (upd H p o) := by
  refine ⟨fun a q => ?_, fun a q => ?_, fun a q z => ?_, ok.nd⟩
  · by_cases e : a = p
    · subst e; rw [upd_same]; simp
    · rw [upd_ne e]
      rcases q with q | q
      · exact ok.fzt a q
      · exact absurd q e
  · by_cases e : a = p
    · subst e; rw [upd_same]; simp
    · rw [upd_ne e]; exact ok.iot a q
  · rcases z with z | z
    · exact ok.dis a q z
    · subst z; exact ok.iot a q h
/-- a new object of which nothing is said yet -/
theorem ext_laid {p : Addr} {o : HO} (h : H p = none) : Ext g H g (upd H p o) := by
  refine ⟨⟨[], by simp, by simp⟩, fun a q => q, fun a q => .inl q, fun a u q _ => ?_, fun a q => ?_⟩
  · rw [upd_ne (ne_of_none q h)]; exact q
  · by_cases e : a = p
    · subst e; exact h
    · rw [upd_ne e] at q; exact q
theorem gok_laid {p : Addr} {o : HO} (h : H p = none) (ok : GOk g H) : GOk g (upd H p o) := by
  have k : ∀ a, H a ≠ none → upd H p o a ≠ none := fun a q => by
    by_cases e : a = p
    · subst e; exact absurd h q
    · rw [upd_ne e]; exact q
  exact ⟨fun a q => k a (ok.fzt a q), fun a q => k a (ok.iot a q), ok.dis, ok.nd⟩
theorem CellOk.mono (e : Ext g H g' H') (ok : GOk g H) {a : Addr} {c : Cell} (k : H' a = H a) (h : CellOk K nm g H a c) : CellOk K nm g' H' a c := by
  cases c with
  | lst ds => obtain ⟨vs, q, r⟩ := h; exact ⟨vs, k.trans q, r.mono e ok⟩
  | ins c fs => obtain ⟨dx, vs, q, r⟩ := h; exact ⟨dx, vs, k.trans q, r.mono e ok⟩
theorem CsOk.new {p : Addr} {o : HO} {cs : Cells} (h : H p = none) (c : CsOk K nm g H cs) : CsOk K nm (g.add p) (upd H p o) cs := by
  refine ⟨gok_new h c.ok, c.len, fun n x a hn ha => (c.at_ n x a hn ha).mono (ext_new h) c.ok ?_⟩
  exact upd_ne fun e => c.ok.iot a (List.mem_of_getElem? ha) (by rw [e]; exact h)
theorem CsOk.laid {p : Addr} {o : HO} {cs : Cells} (h : H p = none) (c : CsOk K nm g H cs) : CsOk K nm g (upd H p o) cs := by
  refine ⟨gok_laid h c.ok, c.len, fun n x a hn ha => (c.at_ n x a hn ha).mono (ext_laid h) c.ok ?_⟩
  exact upd_ne fun e => c.ok.iot a (List.mem_of_getElem? ha) (by rw [e]; exact h)
end
end Dv
end
section
set_option Elab.async false
set_option linter.all false
set_option maxRecDepth 100000
set_option maxHeartbeats 4000000
namespace Dv
open PySem L2
/-! ### what is wanted of a result -/
/-- an error in the air: its class, its own dict -/
def RepE (K : PySem.W.Frag) (nm : Nm) (g : Gh) (H : Hp) (e : D) (cls : Value) (dx : Option Addr) : Prop := match e with
  | .ins c fs => cls = .ref (nm.ca c) ∧ ((fs = [] ∧ dx = none) ∨ ∃ d vs, dx = some d ∧ g.fz d ∧ H d = some (.xd vs) ∧ Repf K nm g H fs vs)
  | _ => False
section
variable (K : PySem.W.Frag) (nm : Nm)
def Post {α β : Type} (W : XK) (R : Gh → Hp → α → β → Prop) (g : Gh) (H : Hp) (r : Res α) (Q : β → Hp → Prop) : Prop := match r with
  | .ok a cs => ∀ b g' H', Ext g H g' H' → CsOk K nm g' H' cs → R g' H' a b → Q b H'
  | .exc e cs => ∀ cls dx g' H', Ext g H g' H' → CsOk K nm g' H' cs → RepE K nm g' H' e cls dx → W cls dx H'
  | .bad => False
/-- a reading by what is meant -/
def tG {α β : Type} (W : XK) (R : Gh → Hp → α → β → Prop) (f : Env → Cells → Res α) : L2.St → Hp → (β → Hp → Prop) → Prop := fun σ H Q => ∃ g ρ cs, EnvOk K nm g H σ ρ ∧ CsOk K nm g H cs ∧ Post K nm W R g H (f ρ cs) Q
abbrev tV (W : XK) (f : Env → Cells → Res D) : TE := tG K nm W (Rep K nm) f
abbrev tBr (W : XK) (f : Env → Cells → Res D) : TE := tG K nm W (BRep K nm) f
abbrev tT (W : XK) (f : Env → Cells → Res Bool) : TT := tG K nm W (fun _ _ a b => a = b) f
abbrev tAs (W : XK) (f : Env → Cells → Res (List D)) : TA := tG K nm W (Reps K nm) f
inductive BReps (g : Gh) (H : Hp) : List D → List V → Prop
  | nil : BReps g H [] []
  | cons {d : D} {v : V} {ds : List D} {vs : List V} : BRep K nm g H d v → BReps g H ds vs → BReps g H (d :: ds) (v :: vs)
abbrev tBs (W : XK) (f : Env → Cells → Res (List D)) : TA := tG K nm W (BReps K nm) f
abbrev tO (W : XK) (f : Env → Cells → Res (Option Int)) : TO := tG K nm W (fun _ _ a b => a = b) f
/-- an operation on two values, by what is meant -/
def rD (W : XK) (Ra Rb : Gh → Hp → D → V → Prop) (h : D → D → Cells → Res D) : R2 := fun x y H Q => ∃ g cs a b, CsOk K nm g H cs ∧ Ra g H a x ∧ Rb g H b y ∧ Post K nm W (Rep K nm) g H (h a b cs) Q
end
section
variable {K : PySem.W.Frag} {nm : Nm} {W : XK} {g g' g2 : Gh} {H H' H2 : Hp} {α β γ δ : Type}
theorem BReps.mono (e : Ext g H g' H') (ok : GOk g H) : ∀ {ds : List D} {vs : List V}, BReps K nm g H ds vs → BReps K nm g' H' ds vs
  | _, _, .nil => .nil
  | _, _, .cons h t => .cons (h.mono e ok) (BReps.mono e ok t)
theorem Post.mono {R : Gh → Hp → α → β → Prop} {r : Res α} {Q : β → Hp → Prop} (h : Post K nm W R g H r Q) (e : Ext g H g' H') : Post K nm W R g' H' r Q := by
  cases r with
  | ok a cs => exact fun b g2 H2 e2 c r => h b g2 H2 (e.trans e2) c r
  | exc d cs => exact fun b dx g2 H2 e2 c r => h b dx g2 H2 (e.trans e2) c r
  | bad => exact h
theorem Post.imp {R : Gh → Hp → α → β → Prop} {r : Res α} {Q Q' : β → Hp → Prop} (h : Post K nm W R g H r Q) (k : ∀ b H', Q b H' → Q' b H') : Post K nm W R g H r Q' := by
  cases r with
  | ok a cs => exact fun b g2 H2 e2 c r => k b H2 (h b g2 H2 e2 c r)
  | exc d cs => exact h
  | bad => exact h
/-- one behind another -/
theorem Post.bind {R : Gh → Hp → α → β → Prop} {S : Gh → Hp → γ → δ → Prop} {r : Res α} {k : α → Cells → Res γ} {Q : δ → Hp → Prop} (h : Post K nm W S g H (r.bind k) Q) :
    Post K nm W R g H r fun b H1 => ∃ a g1 cs1, Ext g H g1 H1 ∧ CsOk K nm g1 H1 cs1 ∧ R g1 H1 a b ∧ Post K nm W S g1 H1 (k a cs1) Q := by
  cases r with
  | ok a cs => exact fun b g1 H1 e c q => ⟨a, g1, cs, e, c, q, Post.mono h e⟩
  | exc d cs => exact h
  | bad => exact h
theorem Post.ok {R : Gh → Hp → α → β → Prop} {a : α} {cs : Cells} {b : β} {Q : β → Hp → Prop} (h : Post K nm W R g H (.ok a cs) Q) (c : CsOk K nm g H cs) (r : R g H a b) : Q b H := h b g H .refl c r
theorem Post.okE {R : Gh → Hp → α → β → Prop} {a : α} {cs : Cells} {b : β} {Q : β → Hp → Prop} (h : Post K nm W R g H (.ok a cs) Q) (e : Ext g H g' H') (c : CsOk K nm g' H' cs) (r : R g' H' a b) : Q b H' := h b g' H' e c r
/-- a reading in a situation -/
theorem tG.of {R : Gh → Hp → α → β → Prop} {f : Env → Cells → Res α} {σ : L2.St} {ρ : Env} {cs : Cells} {Q : β → Hp → Prop} (en : EnvOk K nm g H σ ρ) (c : CsOk K nm g H cs) (h : Post K nm W R g H (f ρ cs) Q) : tG K nm W R f σ H Q := ⟨g, ρ, cs, en, c, h⟩
/-- two readings in a row -/
theorem tG.seq {R : Gh → Hp → α → β → Prop} {S : Gh → Hp → γ → δ → Prop} {f : Env → Cells → Res α} {k : Env → α → Cells → Res γ} {σ : L2.St} {Q : δ → Hp → Prop}
    (h : tG K nm W S (fun ρ cs => (f ρ cs).bind (k ρ)) σ H Q) : tG K nm W R f σ H fun b H1 => ∃ ρ a g1 cs1, EnvOk K nm g1 H1 σ ρ ∧ CsOk K nm g1 H1 cs1 ∧ R g1 H1 a b ∧ Post K nm W S g1 H1 (k ρ a cs1) Q := by
  obtain ⟨g, ρ, cs, en, c, p⟩ := h
  refine ⟨g, ρ, cs, en, c, Post.imp (Post.bind (R := R) p) ?_⟩
  rintro b H1 ⟨a, g1, cs1, e, c1, r, q⟩
  exact ⟨ρ, a, g1, cs1, en.mono e c.ok, c1, r, q⟩
end
/-! ### rules by what they ask -/
theorem _root_.L2.PE.imp {X : Cx} {e : Expr} {t t' : TE} (h : PE X e t) (k : ∀ σ H Q, t' σ H Q → t σ H Q) : PE X e t' := ⟨fun pins s σ H Q I q => h.run pins s σ H Q I (k σ H Q q)⟩
theorem _root_.L2.PT.imp {X : Cx} {e : Expr} {t t' : TT} (h : PT X e t) (k : ∀ σ H Q, t' σ H Q → t σ H Q) : PT X e t' := ⟨fun pins s σ H Q I q => h.run pins s σ H Q I (k σ H Q q)⟩
theorem _root_.L2.PW.imp {X : Cx} {e : Expr} {t t' : TT} (h : PW X e t) (k : ∀ σ H Q, t' σ H Q → t σ H Q) : PW X e t' := ⟨fun wh pins s σ H Q I q => h.run wh pins s σ H Q I (k σ H Q q)⟩
theorem _root_.L2.PA.imp {X : Cx} {e : List Expr} {t t' : TA} (h : PA X e t) (k : ∀ σ H Q, t' σ H Q → t σ H Q) : PA X e t' := ⟨fun pos pins s σ H Q I q => h.run pos pins s σ H Q I (k σ H Q q)⟩
theorem _root_.L2.PO.imp {X : Cx} {e : Option Expr} {t t' : TO} (h : PO X e t) (k : ∀ σ H Q, t' σ H Q → t σ H Q) : PO X e t' := ⟨fun pins s σ H Q I q => h.run pins s σ H Q I (k σ H Q q)⟩
theorem _root_.L2.PS.imp {X : Cx} {e : Stmt} {t t' : TS} (h : PS X e t) (k : ∀ D σ H, t' D σ H → t D σ H) : PS X e t' := ⟨fun pins s σ H D I q => h.run pins s σ H D I (k D σ H q)⟩
theorem _root_.L2.PSs.imp {X : Cx} {e : List Stmt} {t t' : TS} (h : PSs X e t) (k : ∀ D σ H, t' D σ H → t D σ H) : PSs X e t' := ⟨fun pins s σ H D I q => h.run pins s σ H D I (k D σ H q)⟩

section
variable {X : Cx} {nm : Nm} {W : XK} {a b c e : Expr} {fa fb fc : Env → Cells → Res D} {pos : Pos}
/-! ### names and constants -/
theorem d_var {i : Nat} {x : Str} (h : PE X (.Name x pos) (tVar i)) : PE X (.Name x pos) (tV X.K nm W fun ρ cs => ofRes cs (getV ρ i)) := h.imp fun σ H Q q => by
  obtain ⟨g, ρ, cs, en, c, p⟩ := q
  have p : Post X.K nm W (Rep X.K nm) g H (ofRes cs (getV ρ i)) Q := p
  unfold getV at p
  cases e1 : ρ[i]? with
  | none => rw [e1] at p; exact p.elim
  | some s =>
    rw [e1] at p
    have := en.sl i s e1
    cases s with
    | val d =>
      obtain ⟨v, e2, r⟩ := this
      exact ⟨v, e2, Post.ok p c r⟩
    | emp => exact p.elim
    | own d => exact p.elim
theorem d_varB {i : Nat} {x : Str} (h : PE X (.Name x pos) (tVar i)) : PE X (.Name x pos) (tBr X.K nm W fun ρ cs => ofRes cs (getB ρ i)) := h.imp fun σ H Q q => by
  obtain ⟨g, ρ, cs, en, c, p⟩ := q
  have p : Post X.K nm W (BRep X.K nm) g H (ofRes cs (getB ρ i)) Q := p
  unfold getB at p
  cases e1 : ρ[i]? with
  | none => rw [e1] at p; exact p.elim
  | some s =>
    rw [e1] at p
    have := en.sl i s e1
    cases s with
    | val d =>
      obtain ⟨v, e2, r⟩ := this
      exact ⟨v, e2, Post.ok p c (.inl r)⟩
    | emp => exact p.elim
    | own d =>
      obtain ⟨v, e2, r⟩ := this
      cases d with
      | lst ds => exact ⟨v, e2, Post.ok p c (.inr ⟨⟨_, rfl⟩, r⟩)⟩
      | _ => exact p.elim
theorem d_c {v : V} {d : D} (h : PE X e (tC v)) (r : ∀ g H, Rep X.K nm g H d v) : PE X e (tV X.K nm W fun _ cs => .ok d cs) := h.imp fun σ H Q q => by
  obtain ⟨g, ρ, cs, en, c, p⟩ := q
  exact Post.ok p c (r g H)
/-- a value read as it stands -/
theorem d_B (h : PE X e (tV X.K nm W fa)) : PE X e (tBr X.K nm W fa) := h.imp fun σ H Q q => by
  obtain ⟨g, ρ, cs, en, c, p⟩ := q
  refine ⟨g, ρ, cs, en, c, ?_⟩
  have p : Post X.K nm W (BRep X.K nm) g H (fa ρ cs) Q := p
  show Post X.K nm W (Rep X.K nm) g H (fa ρ cs) Q
  cases hr : fa ρ cs with
  | ok a cs' => rw [hr] at p; exact fun b g' H' e1 c1 r => p b g' H' e1 c1 (.inl r)
  | exc d cs' => rw [hr] at p; exact p
  | bad => rw [hr] at p; exact p
/-! ### two operands -/
theorem two {Ra Rb : Gh → Hp → D → V → Prop} {h : D → D → Cells → Res D} (ma : ∀ {g H g' H' d v}, Ext g H g' H' → GOk g H → Ra g H d v → Ra g' H' d v) {σ : L2.St} {H : Hp} {Q : VK}
    (q : tV X.K nm W (fun ρ cs => (fa ρ cs).bind fun x cs => (fb ρ cs).bind fun y cs => h x y cs) σ H Q) : tG X.K nm W Ra fa σ H fun x H1 => tG X.K nm W Rb fb σ H1 fun y H2 => rD X.K nm W Ra Rb h x y H2 Q := by
  obtain ⟨g, ρ, cs, en, c, p⟩ := q
  refine ⟨g, ρ, cs, en, c, (Post.bind (R := Ra) p).imp ?_⟩
  rintro x H1 ⟨dx, g1, cs1, e1, c1, r1, p1⟩
  refine ⟨g1, ρ, cs1, en.mono e1 c.ok, c1, (Post.bind (R := Rb) p1).imp ?_⟩
  rintro y H2 ⟨dy, g2, cs2, e2, c2, r2, p2⟩
  exact ⟨g2, cs2, dx, dy, c2, ma e2 c1.ok r1, r2, p2⟩
theorem d_bin {op : Operator} {h : D → D → Cells → Res D} (ho : OpR X (binaryOp op) (rD X.K nm W (Rep X.K nm) (Rep X.K nm) h)) (ha : PE X a (tV X.K nm W fa)) (hb : PE X b (tV X.K nm W fb)) :
    PE X (.BinOp a op b pos) (tV X.K nm W fun ρ cs => (fa ρ cs).bind fun x cs => (fb ρ cs).bind fun y cs => h x y cs) := (pe_op ho ha hb).imp fun _ _ _ q => two (fun e k r => r.mono e k) q
theorem d_cmp {op : CmpOp} {h : D → D → Cells → Res D} (ho : OpR X (compareOp op) (rD X.K nm W (Rep X.K nm) (Rep X.K nm) h)) (ha : PE X a (tV X.K nm W fa)) (hb : PE X b (tV X.K nm W fb)) (hm : behindInMarks op b = false) :
    PE X (.Compare a [op] [b] pos) (tV X.K nm W fun ρ cs => (fa ρ cs).bind fun x cs => (fb ρ cs).bind fun y cs => h x y cs) := (pe_cmpR ho ha hb hm).imp fun _ _ _ q => two (fun e k r => r.mono e k) q
theorem d_cmpB {op : CmpOp} {h : D → D → Cells → Res D} (ho : OpR X (compareOp op) (rD X.K nm W (BRep X.K nm) (BRep X.K nm) h)) (ha : PE X a (tBr X.K nm W fa)) (hb : PE X b (tBr X.K nm W fb)) (hm : behindInMarks op b = false) :
    PE X (.Compare a [op] [b] pos) (tV X.K nm W fun ρ cs => (fa ρ cs).bind fun x cs => (fb ρ cs).bind fun y cs => h x y cs) := (pe_cmpR ho ha hb hm).imp fun _ _ _ q => two (fun e k r => r.mono e k) q
end
end Dv
end
section
set_option Elab.async false
set_option linter.all false
set_option maxRecDepth 100000
set_option maxHeartbeats 4000000
namespace Dv
open PySem L2
/-! ### looking at a thing that is held -/
section
variable {K : PySem.W.Frag} {nm : Nm} {W : XK} {g g' g2 : Gh} {H H' H2 : Hp} {cs : Cells}
theorem deref_cell {n : Nat} {cs : Cells} : deref (.cell n) cs = match cs[n]? with
  | some (.lst ds) => .lst ds
  | some (.ins c fs) => .ins c fs
  | none => .cell n := rfl
theorem Rep.ref_lst {ds : List D} {v : V} (h : Rep K nm g H (.lst ds) v) : ∃ a vs, v = .ref a ∧ H a = some (.lst vs) ∧ Reps K nm g H ds vs ∧ g.fz a := by
  cases h with
  | lst h1 h2 h3 => exact ⟨_, _, rfl, h2, h3, h1⟩
theorem view_lst {d : D} {ds : List D} {v : V} (c : CsOk K nm g H cs) (h : BRep K nm g H d v) (e : deref d cs = .lst ds) : ∃ a vs, v = .ref a ∧ H a = some (.lst vs) ∧ Reps K nm g H ds vs := by
  cases d with
  | lst es =>
    have e : es = ds := by simpa [deref] using e
    subst e
    rcases h with h | ⟨_, a, rfl, _, _, vs, q, r⟩
    · obtain ⟨a, vs, h1, h2, h3, _⟩ := h.ref_lst
      exact ⟨a, vs, h1, h2, h3⟩
    · exact ⟨a, vs, rfl, q, r⟩
  | cell n =>
    rcases h with h | ⟨_, a, _, _, _, m⟩
    · cases h with
      | cell hg =>
        rename_i a
        rw [deref_cell] at e
        cases q : cs[n]? with
        | none => rw [q] at e; cases e
        | some x =>
          rw [q] at e
          have := c.at_ n x a q hg
          cases x with
          | lst es =>
            have e : es = ds := by simpa using e
            subst e
            obtain ⟨vs, h1, h2⟩ := this
            exact ⟨a, vs, rfl, h1, h2⟩
          | ins _ _ => cases e
    · exact m.elim
  | _ => simp [deref] at e
theorem view_tup {d : D} {ds : List D} {v : V} (h : BRep K nm g H d v) (e : deref d cs = .tup ds) : ∃ a vs, v = .ref a ∧ SqT K H a vs ∧ Reps K nm g H ds vs := by
  cases d with
  | tup es =>
    have e : es = ds := by simpa [deref] using e
    subst e
    rcases h with h | ⟨_, a, _, _, _, m⟩
    · cases h with
      | tup h1 h2 h3 => exact ⟨_, _, rfl, .of h2, h3⟩
      | tupK h1 h3 => exact ⟨_, _, rfl, h1 H, h3⟩
    · exact m.elim
  | cell n =>
    rw [deref_cell] at e
    cases q : cs[n]? with
    | none => rw [q] at e; cases e
    | some x => rw [q] at e; cases x <;> cases e
  | _ => simp [deref] at e
theorem tup_rep {d : D} {ds : List D} {v : V} (h : BRep K nm g H d v) (e : deref d cs = .tup ds) : Rep K nm g H (.tup ds) v := by
  cases d with
  | tup es =>
    have e : es = ds := by simpa [deref] using e
    subst e
    rcases h with h | ⟨_, a, _, _, _, m⟩
    · exact h
    · exact m.elim
  | cell n =>
    rw [deref_cell] at e
    cases q : cs[n]? with
    | none => rw [q] at e; cases e
    | some x => rw [q] at e; cases x <;> cases e
  | _ => simp [deref] at e
theorem cut_whole {α : Type} {xs : List α} {lo hi : Option Int} (h : HT.sIx xs.length 0 lo = 0 ∧ HT.sIx xs.length xs.length hi = xs.length) : cutG xs lo hi = xs := by
  unfold cutG
  rw [h.1, h.2]
  simp
theorem view_scr {d : D} {ds : List D} {v : V} (h : BRep K nm g H d v) (e : deref d cs = .scr ds) : ∃ a vs, v = .ref a ∧ SqL K H a vs ∧ Reps K nm g H ds vs := by
  cases d with
  | scr es =>
    have e : es = ds := by simpa [deref] using e
    subst e
    rcases h with h | ⟨_, a, _, _, _, m⟩
    · cases h with
      | scr h1 h2 h3 => exact ⟨_, _, rfl, .inl (.inr ⟨_, h2⟩), h3⟩
      | scrK h1 h3 => exact ⟨_, _, rfl, h1 _, h3⟩
    · exact m.elim
  | cell n =>
    rw [deref_cell] at e
    cases q : cs[n]? with
    | none => rw [q] at e; cases e
    | some x => rw [q] at e; cases x <;> cases e
  | _ => simp [deref] at e
theorem view_ins {d : D} {c : Nat} {fs : List (Nat × D)} {v : V} (co : CsOk K nm g H cs) (h : BRep K nm g H d v) (e : deref d cs = .ins c fs) : ∃ a dx vs, v = .ref a ∧ H a = some (.ins (nm.ca c) dx vs) ∧ Repf K nm g H fs vs := by
  cases d with
  | ins c' es =>
    obtain ⟨rfl, rfl⟩ : c' = c ∧ es = fs := by simpa [deref] using e
    rcases h with h | ⟨⟨_, z⟩, _⟩
    · cases h with
      | ins h1 h2 h3 => exact ⟨_, _, _, rfl, h2, h3⟩
    · cases z
  | cell n =>
    rcases h with h | ⟨_, a, _, _, _, m⟩
    · cases h with
      | cell hg =>
        rename_i a
        rw [deref_cell] at e
        cases q : cs[n]? with
        | none => rw [q] at e; cases e
        | some x =>
          rw [q] at e
          have := co.at_ n x a q hg
          cases x with
          | lst es => cases e
          | ins c' es =>
            obtain ⟨rfl, rfl⟩ : c' = c ∧ es = fs := by simpa using e
            obtain ⟨dx, vs, h1, h2⟩ := this
            exact ⟨a, dx, vs, rfl, h1, h2⟩
    · exact m.elim
  | _ => simp [deref] at e
/-- as an attribute's holder -/
def ARep (K : PySem.W.Frag) (nm : Nm) (g : Gh) (H : Hp) (d : D) (v : V) : Prop := Rep K nm g H d v ∨ Own K nm g H d v
theorem view_insA {d : D} {c : Nat} {fs : List (Nat × D)} {v : V} (co : CsOk K nm g H cs) (h : ARep K nm g H d v) (e : deref d cs = .ins c fs) : ∃ a dx vs, v = .ref a ∧ H a = some (.ins (nm.ca c) dx vs) ∧ Repf K nm g H fs vs := by
  rcases h with h | h
  · exact view_ins co (.inl h) e
  · obtain ⟨a, rfl, _, _, m⟩ := h
    cases d with
    | ins c' es =>
      obtain ⟨rfl, rfl⟩ : c' = c ∧ es = fs := by simpa [deref] using e
      obtain ⟨dx, vs, q, r⟩ := m
      exact ⟨a, dx, vs, rfl, q, r⟩
    | lst ds => simp [deref] at e
    | _ => exact m.elim
theorem view_seq {d : D} {ds : List D} {v : V} (c : CsOk K nm g H cs) (h : BRep K nm g H d v) (e : seqOf d cs = some ds) : ∃ a vs, v = .ref a ∧ (SqL K H a vs ∨ SqT K H a vs) ∧ Reps K nm g H ds vs := by
  unfold seqOf at e
  cases q : deref d cs with
  | tup es =>
    rw [q] at e
    cases e
    obtain ⟨a, vs, h1, h2, h3⟩ := view_tup h q
    exact ⟨a, vs, h1, .inr h2, h3⟩
  | lst es =>
    rw [q] at e
    cases e
    obtain ⟨a, vs, h1, h2, h3⟩ := view_lst c h q
    exact ⟨a, vs, h1, .inl (.of h2), h3⟩
  | _ => rw [q] at e; cases e
theorem view_int {d : D} {i : Int} {v : V} (h : BRep K nm g H d v) (e : d = .int i) : v = .int i := by
  subst e
  rcases h with h | ⟨_, _, _, _, _, m⟩
  · cases h; rfl
  · exact m.elim
theorem view_bl {d : D} {i : Bool} {v : V} (h : BRep K nm g H d v) (e : d = .bl i) : v = .bl i := by
  subst e
  rcases h with h | ⟨_, _, _, _, _, m⟩
  · cases h; rfl
  · exact m.elim
theorem view_str {d : D} {i : Str} {v : V} (h : BRep K nm g H d v) (e : d = .str i) : v = .str i := by
  subst e
  rcases h with h | ⟨_, _, _, _, _, m⟩
  · cases h; rfl
  · exact m.elim
theorem view_non {d : D} {v : V} (h : BRep K nm g H d v) (e : d = .non) : v = .non := by
  subst e
  rcases h with h | ⟨_, _, _, _, _, m⟩
  · cases h; rfl
  · exact m.elim
theorem Reps.atI {ds : List D} {vs : List V} {i : Int} {d : D} (r : Reps K nm g H ds vs) (h : L2.atI ds i = some d) : ∃ v, L2.atI vs i = some v ∧ Rep K nm g H d v := by
  unfold L2.atI at h ⊢
  rw [r.length] at h
  cases q : ixN vs.length i with
  | none => rw [q] at h; cases h
  | some j =>
    rw [q] at h
    exact r.get h
theorem Reps.cut {ds : List D} {vs : List V} (lo hi : Option Int) (r : Reps K nm g H ds vs) : Reps K nm g H (cutG ds lo hi) (cutV vs lo hi) := by
  unfold cutG cutV
  rw [r.length]
  exact (r.drop _).take _
theorem Reps.intsD : ∀ {ds : List D} {vs : List V} {ns : List Int}, Reps K nm g H ds vs → Dv.intsD ds = some ns → vs = ns.map V.int
  | _, _, ns, .nil, h => by simp [Dv.intsD] at h; subst h; rfl
  | .int i :: ds, _, ns, .cons h t, e => by
    simp only [Dv.intsD] at e
    cases q : Dv.intsD ds with
    | none => rw [q] at e; cases e
    | some ms =>
      rw [q] at e
      cases e
      cases h
      rw [t.intsD q]
      rfl
  | .non :: _, _, _, .cons _ _, e => by simp [Dv.intsD] at e
  | .bl _ :: _, _, _, .cons _ _, e => by simp [Dv.intsD] at e
  | .str _ :: _, _, _, .cons _ _, e => by simp [Dv.intsD] at e
  | .tup _ :: _, _, _, .cons _ _, e => by simp [Dv.intsD] at e
  | .lst _ :: _, _, _, .cons _ _, e => by simp [Dv.intsD] at e
  | .dic _ :: _, _, _, .cons _ _, e => by simp [Dv.intsD] at e
  | .ins _ _ :: _, _, _, .cons _ _, e => by simp [Dv.intsD] at e
  | .scr _ :: _, _, _, .cons _ _, e => by simp [Dv.intsD] at e
  | .cell _ :: _, _, _, .cons _ _, e => by simp [Dv.intsD] at e
  | .cls _ :: _, _, _, .cons _ _, e => by simp [Dv.intsD] at e
theorem Reps.boolsD : ∀ {ds : List D} {vs : List V} {ns : List Bool}, Reps K nm g H ds vs → Dv.boolsD ds = some ns → vs = ns.map V.bl
  | _, _, ns, .nil, h => by simp [Dv.boolsD] at h; subst h; rfl
  | .bl i :: ds, _, ns, .cons h t, e => by
    simp only [Dv.boolsD] at e
    cases q : Dv.boolsD ds with
    | none => rw [q] at e; cases e
    | some ms =>
      rw [q] at e
      cases e
      cases h
      rw [t.boolsD q]
      rfl
  | .non :: _, _, _, .cons _ _, e => by simp [Dv.boolsD] at e
  | .int _ :: _, _, _, .cons _ _, e => by simp [Dv.boolsD] at e
  | .str _ :: _, _, _, .cons _ _, e => by simp [Dv.boolsD] at e
  | .tup _ :: _, _, _, .cons _ _, e => by simp [Dv.boolsD] at e
  | .lst _ :: _, _, _, .cons _ _, e => by simp [Dv.boolsD] at e
  | .dic _ :: _, _, _, .cons _ _, e => by simp [Dv.boolsD] at e
  | .ins _ _ :: _, _, _, .cons _ _, e => by simp [Dv.boolsD] at e
  | .scr _ :: _, _, _, .cons _ _, e => by simp [Dv.boolsD] at e
  | .cell _ :: _, _, _, .cons _ _, e => by simp [Dv.boolsD] at e
  | .cls _ :: _, _, _, .cons _ _, e => by simp [Dv.boolsD] at e
theorem Reps.strsD : ∀ {ds : List D} {vs : List V} {ns : List Str}, Reps K nm g H ds vs → Dv.strsD ds = some ns → vs = ns.map V.str
  | _, _, ns, .nil, h => by simp [Dv.strsD] at h; subst h; rfl
  | .str i :: ds, _, ns, .cons h t, e => by
    simp only [Dv.strsD] at e
    cases q : Dv.strsD ds with
    | none => rw [q] at e; cases e
    | some ms =>
      rw [q] at e
      cases e
      cases h
      rw [t.strsD q]
      rfl
  | .non :: _, _, _, .cons _ _, e => by simp [Dv.strsD] at e
  | .int _ :: _, _, _, .cons _ _, e => by simp [Dv.strsD] at e
  | .bl _ :: _, _, _, .cons _ _, e => by simp [Dv.strsD] at e
  | .tup _ :: _, _, _, .cons _ _, e => by simp [Dv.strsD] at e
  | .lst _ :: _, _, _, .cons _ _, e => by simp [Dv.strsD] at e
  | .dic _ :: _, _, _, .cons _ _, e => by simp [Dv.strsD] at e
  | .ins _ _ :: _, _, _, .cons _ _, e => by simp [Dv.strsD] at e
  | .scr _ :: _, _, _, .cons _ _, e => by simp [Dv.strsD] at e
  | .cell _ :: _, _, _, .cons _ _, e => by simp [Dv.strsD] at e
  | .cls _ :: _, _, _, .cons _ _, e => by simp [Dv.strsD] at e
theorem Reps.strs : ∀ {ss : List Str}, Reps K nm g H (ss.map D.str) (ss.map V.str)
  | [] => .nil
  | s :: ss => .cons (.str s) Reps.strs
/-! ### new things -/
theorem new_tup {p : Addr} {ds : List D} {vs : List V} {Q : VK} (c : CsOk K nm g H cs) (r : Reps K nm g H ds vs) (hp : H p = none) (h : Post K nm W (Rep K nm) g H (.ok (.tup ds) cs) Q) : Q (.ref p) (upd H p (.tup vs)) :=
  h.okE (ext_new hp) (c.new hp) (.tup (.inr rfl) upd_same (r.mono (ext_new hp) c.ok))
theorem new_lst {p : Addr} {ds : List D} {vs : List V} {Q : VK} (c : CsOk K nm g H cs) (r : Reps K nm g H ds vs) (hp : H p = none) (h : Post K nm W (Rep K nm) g H (.ok (.lst ds) cs) Q) : Q (.ref p) (upd H p (.lst vs)) :=
  h.okE (ext_new hp) (c.new hp) (.lst (.inr rfl) upd_same (r.mono (ext_new hp) c.ok))
end
section
variable {X : Cx} {nm : Nm} {W : XK} {a b c e : Expr} {es : List Expr} {fa fb fc : Env → Cells → Res D} {pos : Pos}
/-! ### arguments -/
theorem d_nil : PA X [] (tAs X.K nm W fun _ cs => .ok [] cs) := pa_nil.imp fun σ H Q q => by
  obtain ⟨g, ρ, cs, en, c, p⟩ := q
  exact Post.ok p c .nil
theorem star_not {e : Expr} {es : List Expr} {env : PySem.Env} (h : ∀ x p, e ≠ .Starred x p) : starEach (e :: es) env = (false, eval e env) :: starEach es env := by
  cases e <;> first | rfl | exact absurd rfl (h _ _)
theorem d_cons {fs : Env → Cells → Res (List D)} (hn : ∀ x p, e ≠ .Starred x p) (ha : PE X e (tV X.K nm W fa)) (hr : PA X es (tAs X.K nm W fs)) :
    PA X (e :: es) (tAs X.K nm W fun ρ cs => (fa ρ cs).bind fun x cs => (fs ρ cs).bind fun xs cs => .ok (x :: xs) cs) := (pa_cons ha hr (star_not hn)).imp fun σ H Q q => by
  refine (fun (z : tG X.K nm W (Rep X.K nm) fa σ H _) => z) ?_
  obtain ⟨g, ρ, cs, en, c, p⟩ := q
  refine ⟨g, ρ, cs, en, c, (Post.bind (R := Rep X.K nm) p).imp ?_⟩
  rintro x H1 ⟨dx, g1, cs1, e1, c1, r1, p1⟩
  refine ⟨g1, ρ, cs1, en.mono e1 c.ok, c1, (Post.bind (R := Reps X.K nm) p1).imp ?_⟩
  rintro y H2 ⟨dy, g2, cs2, e2, c2, r2, p2⟩
  exact Post.ok p2 c2 (.cons (r1.mono e2 c1.ok) r2)
theorem d_nilB : PA X [] (tBs X.K nm W fun _ cs => .ok [] cs) := pa_nil.imp fun σ H Q q => by
  obtain ⟨g, ρ, cs, en, c, p⟩ := q
  exact Post.ok p c .nil
theorem d_consB {fs : Env → Cells → Res (List D)} (hn : ∀ x p, e ≠ .Starred x p) (ha : PE X e (tBr X.K nm W fa)) (hr : PA X es (tBs X.K nm W fs)) :
    PA X (e :: es) (tBs X.K nm W fun ρ cs => (fa ρ cs).bind fun x cs => (fs ρ cs).bind fun xs cs => .ok (x :: xs) cs) := (pa_cons ha hr (star_not hn)).imp fun σ H Q q => by
  refine (fun (z : tG X.K nm W (BRep X.K nm) fa σ H _) => z) ?_
  obtain ⟨g, ρ, cs, en, c, p⟩ := q
  refine ⟨g, ρ, cs, en, c, (Post.bind (R := BRep X.K nm) p).imp ?_⟩
  rintro x H1 ⟨dx, g1, cs1, e1, c1, r1, p1⟩
  refine ⟨g1, ρ, cs1, en.mono e1 c.ok, c1, (Post.bind (R := BReps X.K nm) p1).imp ?_⟩
  rintro y H2 ⟨dy, g2, cs2, e2, c2, r2, p2⟩
  exact Post.ok p2 c2 (.cons (r1.mono e2 c1.ok) r2)
/-! ### displays -/
theorem d_tup {x1 : Nat} {fs : Env → Cells → Res (List D)} (h : PA X es (tAs X.K nm W fs)) : PE X (.Tuple es x1 pos) (tV X.K nm W fun ρ cs => (fs ρ cs).bind fun ds cs => if ds.length ≤ sizeLine then .ok (.tup ds) cs else .bad) := (pe_tup h).imp fun σ H Q q => by
  obtain ⟨g, ρ, cs, en, c, p⟩ := q
  refine ⟨g, ρ, cs, en, c, (Post.bind (R := Reps X.K nm) p).imp ?_⟩
  rintro vs H1 ⟨ds, g1, cs1, e1, c1, r1, p1⟩
  split at p1
  · rename_i hz
    exact ⟨by rw [← r1.length]; exact hz, fun p hp => new_tup c1 r1 hp p1⟩
  · exact p1.elim
theorem d_lst {fs : Env → Cells → Res (List D)} (h : PA X es (tAs X.K nm W fs)) : PE X (.List es pos) (tV X.K nm W fun ρ cs => (fs ρ cs).bind fun ds cs => if ds.length ≤ sizeLine then .ok (.lst ds) cs else .bad) := (pe_lst h).imp fun σ H Q q => by
  obtain ⟨g, ρ, cs, en, c, p⟩ := q
  refine ⟨g, ρ, cs, en, c, (Post.bind (R := Reps X.K nm) p).imp ?_⟩
  rintro vs H1 ⟨ds, g1, cs1, e1, c1, r1, p1⟩
  split at p1
  · rename_i hz
    exact ⟨by rw [← r1.length]; exact hz, fun p hp => new_lst c1 r1 hp p1⟩
  · exact p1.elim
/-! ### slices -/
theorem d_oN : PO X none (tO X.K nm W fun _ cs => .ok none cs) := po_none.imp fun σ H Q q => by
  obtain ⟨g, ρ, cs, en, c, p⟩ := q
  exact Post.ok p c rfl
theorem d_oS (h : PE X e (tV X.K nm W fa)) : PO X (some e) (tO X.K nm W fun ρ cs => (fa ρ cs).bind fun x cs => (match x with
    | .int i => .ok (some i) cs
    | _ => .bad)) := (po_some h).imp fun σ H Q q => by
  obtain ⟨g, ρ, cs, en, c, p⟩ := q
  refine ⟨g, ρ, cs, en, c, (Post.bind (R := Rep X.K nm) p).imp ?_⟩
  rintro v H1 ⟨d, g1, cs1, e1, c1, r1, p1⟩
  cases d with
  | int i =>
    cases r1
    exact ⟨i, rfl, Post.ok p1 c1 rfl⟩
  | _ => exact p1.elim
theorem d_slice {lo hi : Option Expr} {fl fh : Env → Cells → Res (Option Int)} {p2 : Pos} (he : PE X e (tBr X.K nm W fa)) (hl : PO X lo (tO X.K nm W fl)) (hh : PO X hi (tO X.K nm W fh)) :
    PE X (.Subscript e (.Slice lo hi none p2) pos) (tV X.K nm W fun ρ cs => (fa ρ cs).bind fun x cs => (fl ρ cs).bind fun l cs => (fh ρ cs).bind fun h cs => (match deref x cs with
      | .lst ds => .ok (.lst (cutD ds l h)) cs
      | .tup ds => .ok (.tup (cutD ds l h)) cs
      | .scr ds => .ok (.lst (cutD ds l h)) cs
      | _ => .bad)) := (pe_slice (sl_list.or sl_tupA) he hl hh).imp fun σ H Q q => by
  obtain ⟨g, ρ, cs, en, c, p⟩ := q
  refine ⟨g, ρ, cs, en, c, (Post.bind (R := BRep X.K nm) p).imp ?_⟩
  rintro v H1 ⟨d, g1, cs1, e1, c1, r1, p1⟩
  refine ⟨g1, ρ, cs1, en.mono e1 c.ok, c1, (Post.bind (R := fun _ _ a b => a = b) p1).imp ?_⟩
  rintro l H2 ⟨l', g2, cs2, e2, c2, rfl, p2⟩
  refine ⟨g2, ρ, cs2, (en.mono e1 c.ok).mono e2 c1.ok, c2, (Post.bind (R := fun _ _ a b => a = b) p2).imp ?_⟩
  rintro h H3 ⟨h', g3, cs3, e3, c3, rfl, p3⟩
  have r3 := (r1.mono e2 c1.ok).mono e3 c2.ok
  cases q : deref d cs3 with
  | lst ds =>
    rw [q] at p3
    obtain ⟨a, vs, rfl, hs, rr⟩ := view_lst c3 r3 q
    exact .inl ⟨a, vs, rfl, .of hs, fun p hp => new_lst c3 (rr.cut l' h') hp p3⟩
  | tup ds =>
    rw [q] at p3
    obtain ⟨a, vs, rfl, hs, rr⟩ := view_tup r3 q
    have r4 := tup_rep r3 q
    refine .inr ⟨a, vs, rfl, hs, fun w => ?_, fun _ p hp => new_tup c3 (rr.cut l' h') hp p3⟩
    rw [← rr.length] at w
    have e : cutD ds l' h' = ds := cut_whole w
    have p3 : Post X.K nm W (Rep X.K nm) g3 H3 (.ok (.tup (cutD ds l' h')) cs3) Q := p3
    rw [e] at p3
    exact Post.ok p3 c3 r4
  | scr ds =>
    rw [q] at p3
    obtain ⟨a, vs, rfl, hs, rr⟩ := view_scr r3 q
    exact .inl ⟨a, vs, rfl, hs, fun p hp => new_lst c3 (rr.cut l' h') hp p3⟩
  | _ => rw [q] at p3; exact p3.elim
end
end Dv
end
section
set_option Elab.async false
set_option linter.all false
set_option maxRecDepth 100000
set_option maxHeartbeats 4000000
namespace Dv
open PySem L2
section
variable {K : PySem.W.Frag} {nm : Nm} {W : XK} {g g' g2 : Gh} {H H' H2 : Hp} {cs : Cells}
theorem Reps.isEmpty {ds : List D} {vs : List V} (h : Reps K nm g H ds vs) : ds.isEmpty = vs.isEmpty := by cases h <;> rfl
theorem tru_post {d : D} {v : V} {Q : Bool → Hp → Prop} (c : CsOk K nm g H cs) (r : BRep K nm g H d v) (p : Post K nm W (fun _ _ a b => a = b) g H (truth d cs) Q) : ∃ k, TruV K v H k ∧ Q k H := by
  unfold truth at p
  cases q : deref d cs with
  | non =>
    rw [q] at p
    have e : d = .non := by
      cases d with
      | cell n => rw [deref_cell] at q; cases z : cs[n]? with
        | none => rw [z] at q; cases q
        | some x => rw [z] at q; cases x <;> cases q
      | _ => simpa [deref] using q
    have := view_non r e
    subst this
    exact ⟨false, rfl, Post.ok p c rfl⟩
  | bl b =>
    rw [q] at p
    have e : d = .bl b := by
      cases d with
      | cell n => rw [deref_cell] at q; cases z : cs[n]? with
        | none => rw [z] at q; cases q
        | some x => rw [z] at q; cases x <;> cases q
      | _ => simpa [deref] using q
    have := view_bl r e
    subst this
    exact ⟨b, rfl, Post.ok p c rfl⟩
  | int i =>
    rw [q] at p
    have e : d = .int i := by
      cases d with
      | cell n => rw [deref_cell] at q; cases z : cs[n]? with
        | none => rw [z] at q; cases q
        | some x => rw [z] at q; cases x <;> cases q
      | _ => simpa [deref] using q
    have := view_int r e
    subst this
    exact ⟨i != 0, rfl, Post.ok p c rfl⟩
  | str x =>
    rw [q] at p
    have e : d = .str x := by
      cases d with
      | cell n => rw [deref_cell] at q; cases z : cs[n]? with
        | none => rw [z] at q; cases q
        | some x => rw [z] at q; cases x <;> cases q
      | _ => simpa [deref] using q
    have := view_str r e
    subst this
    have p : Post K nm W (fun _ _ a b => a = b) g H (if x.length ≤ sizeLine then .ok ((x.length : Int) != 0) cs else .bad) Q := p
    split at p
    · rename_i hz
      exact ⟨_, ⟨hz, rfl⟩, Post.ok p c rfl⟩
    · exact p.elim
  | tup ds =>
    rw [q] at p
    obtain ⟨a, vs, rfl, h1, h2⟩ := view_tup r q
    exact ⟨_, .inr (.inl ⟨vs, h1, by rw [h2.isEmpty]⟩), Post.ok p c rfl⟩
  | lst ds =>
    rw [q] at p
    obtain ⟨a, vs, rfl, h1, h2⟩ := view_lst c r q
    exact ⟨_, .inl ⟨vs, .of h1, by rw [h2.isEmpty]⟩, Post.ok p c rfl⟩
  | dic kvs => rw [q] at p; exact p.elim
  | ins _ _ => rw [q] at p; exact p.elim
  | cell _ => rw [q] at p; exact p.elim
  | scr _ => rw [q] at p; exact p.elim
  | cls _ => rw [q] at p; exact p.elim
end
/-! ### an expression and what it means -/
structure DE (X : Cx) (nm : Nm) (W : XK) (e : Expr) (n : Den) : Prop where
  v : PE X e (tV X.K nm W n.v)
  b : PE X e (tBr X.K nm W n.b)
  t : PT X e (tT X.K nm W n.t)
section
variable {X : Cx} {nm : Nm} {W : XK} {a b c e : Expr} {es : List Expr} {fa fb fc : Env → Cells → Res D} {pos : Pos} {na nb nc : Den}
def Plain (e : Expr) : Bool := match e with
  | .UnaryOp .Not _ _ => false
  | .BoolOp _ _ _ => false
  | .IfExp _ _ _ _ => false
  | .Compare _ _ _ _ => false
  | _ => true
theorem plain_true (h : Plain e = true) (env : PySem.Env) : ∀ whole, isTrue e env whole = (do let v ← whole; standAt e.pos; holding [v] (truthy v)) := by
  intro whole
  cases e with
  | UnaryOp op x p => cases op <;> first | rfl | exact absurd h (by simp [Plain])
  | BoolOp op x p => simp [Plain] at h
  | IfExp _ _ _ _ => simp [Plain] at h
  | Compare _ _ _ _ => simp [Plain] at h
  | _ => rfl
/-- a test by its value's truth -/
theorem d_t (hp : Plain e = true) (h : PE X e (tV X.K nm W fa)) : PT X e (tT X.K nm W fun ρ cs => (fa ρ cs).bind fun x cs => truth x cs) := (pt_truth h (plain_true hp X.env)).imp fun σ H Q q => by
  obtain ⟨g, ρ, cs, en, c, p⟩ := q
  refine ⟨g, ρ, cs, en, c, (Post.bind (R := Rep X.K nm) p).imp ?_⟩
  rintro v H1 ⟨d, g1, cs1, e1, c1, r1, p1⟩
  exact tru_post c1 (.inl r1) p1
theorem DE.of (hp : Plain e = true) (h : PE X e (tV X.K nm W fa)) : DE X nm W e (ofV fa) := ⟨h, d_B h, d_t hp h⟩
theorem DE.ofB (hp : Plain e = true) (h : PE X e (tV X.K nm W fa)) (hb : PE X e (tBr X.K nm W fb)) : DE X nm W e (ofVB fa fb) := ⟨h, hb, d_t hp h⟩
/-! ### tests -/
theorem d_not (h : DE X nm W a na) : DE X nm W (.UnaryOp .Not a pos) (ofVT (fun ρ cs => (na.v ρ cs).bind fun x cs => (truth x cs).bind fun b cs => .ok (.bl (!b)) cs) (fun ρ cs => (na.t ρ cs).bind fun b cs => .ok (!b) cs)) := by
  have hv : PE X (.UnaryOp .Not a pos) (tV X.K nm W fun ρ cs => (na.v ρ cs).bind fun x cs => (truth x cs).bind fun b cs => .ok (.bl (!b)) cs) := (pe_notT h.v).imp fun σ H Q q => by
    obtain ⟨g, ρ, cs, en, c, p⟩ := q
    refine ⟨g, ρ, cs, en, c, (Post.bind (R := Rep X.K nm) p).imp ?_⟩
    rintro v H1 ⟨x, g1, cs1, e1, c1, r1, p1⟩
    obtain ⟨k, hk, k', g2, cs2, e2, c2, rfl, p2⟩ := tru_post c1 (.inl r1) (Post.bind (R := fun _ _ a b => a = b) p1)
    exact ⟨_, hk, Post.ok p2 c2 (.bl _)⟩
  refine ⟨hv, d_B hv, (pt_not h.t).imp fun σ H Q q => ?_⟩
  obtain ⟨g, ρ, cs, en, c, p⟩ := q
  refine ⟨g, ρ, cs, en, c, (Post.bind (R := fun _ _ a b => a = b) p).imp ?_⟩
  rintro k H1 ⟨k', g1, cs1, e1, c1, rfl, p1⟩
  exact Post.ok p1 c1 rfl
/-- a row of and, or -/
structure DW (X : Cx) (nm : Nm) (W : XK) (e : Expr) (n : Den) : Prop where
  v : PE X e (tV X.K nm W n.v)
  t : PW X e (tT X.K nm W n.t)
theorem DW.de (h : DW X nm W e n) (hb : n.b = n.v) : DE X nm W e n := ⟨h.v, by rw [hb]; exact d_B h.v, h.t.pt⟩
theorem d_and1 (h : DE X nm W a na) : DW X nm W (.BoolOp .And [a] pos) na := ⟨pe_one h.v, pw_and1 h.t⟩
theorem d_or1 (h : DE X nm W a na) : DW X nm W (.BoolOp .Or [a] pos) na := ⟨pe_one h.v, pw_or1 h.t⟩
theorem d_and {rest : List Expr} (ha : DE X nm W a na) (hb : DW X nm W (.BoolOp .And (b :: rest) pos) nb) : DW X nm W (.BoolOp .And (a :: b :: rest) pos)
    (ofVT (fun ρ cs => (na.v ρ cs).bind fun x cs => (truth x cs).bind fun k cs => if k = true then nb.v ρ cs else .ok x cs) (fun ρ cs => (na.t ρ cs).bind fun k cs => if k = true then nb.t ρ cs else .ok false cs)) := by
  refine ⟨(pe_andT ha.v hb.v).imp fun σ H Q q => ?_, (pw_and ha.t hb.t).imp fun σ H Q q => ?_⟩
  · obtain ⟨g, ρ, cs, en, c, p⟩ := q
    refine ⟨g, ρ, cs, en, c, (Post.bind (R := Rep X.K nm) p).imp ?_⟩
    rintro v H1 ⟨x, g1, cs1, e1, c1, r1, p1⟩
    obtain ⟨k, hk, k', g2, cs2, e2, c2, rfl, p2⟩ := tru_post c1 (.inl r1) (Post.bind (R := fun _ _ a b => a = b) p1)
    refine ⟨_, hk, ?_⟩
    cases k' with
    | true => exact ⟨g2, ρ, cs2, (en.mono e1 c.ok).mono e2 c1.ok, c2, p2⟩
    | false => exact Post.ok p2 c2 (r1.mono e2 c1.ok)
  · obtain ⟨g, ρ, cs, en, c, p⟩ := q
    refine ⟨g, ρ, cs, en, c, (Post.bind (R := fun _ _ a b => a = b) p).imp ?_⟩
    rintro k H1 ⟨k', g1, cs1, e1, c1, rfl, p1⟩
    cases k' with
    | true => exact ⟨g1, ρ, cs1, en.mono e1 c.ok, c1, p1⟩
    | false => exact Post.ok p1 c1 rfl
theorem d_or {rest : List Expr} (ha : DE X nm W a na) (hb : DW X nm W (.BoolOp .Or (b :: rest) pos) nb) : DW X nm W (.BoolOp .Or (a :: b :: rest) pos)
    (ofVT (fun ρ cs => (na.v ρ cs).bind fun x cs => (truth x cs).bind fun k cs => if k = true then .ok x cs else nb.v ρ cs) (fun ρ cs => (na.t ρ cs).bind fun k cs => if k = true then .ok true cs else nb.t ρ cs)) := by
  refine ⟨(pe_orT ha.v hb.v).imp fun σ H Q q => ?_, (pw_or ha.t hb.t).imp fun σ H Q q => ?_⟩
  · obtain ⟨g, ρ, cs, en, c, p⟩ := q
    refine ⟨g, ρ, cs, en, c, (Post.bind (R := Rep X.K nm) p).imp ?_⟩
    rintro v H1 ⟨x, g1, cs1, e1, c1, r1, p1⟩
    obtain ⟨k, hk, k', g2, cs2, e2, c2, rfl, p2⟩ := tru_post c1 (.inl r1) (Post.bind (R := fun _ _ a b => a = b) p1)
    refine ⟨_, hk, ?_⟩
    cases k' with
    | false => exact ⟨g2, ρ, cs2, (en.mono e1 c.ok).mono e2 c1.ok, c2, p2⟩
    | true => exact Post.ok p2 c2 (r1.mono e2 c1.ok)
  · obtain ⟨g, ρ, cs, en, c, p⟩ := q
    refine ⟨g, ρ, cs, en, c, (Post.bind (R := fun _ _ a b => a = b) p).imp ?_⟩
    rintro k H1 ⟨k', g1, cs1, e1, c1, rfl, p1⟩
    cases k' with
    | false => exact ⟨g1, ρ, cs1, en.mono e1 c.ok, c1, p1⟩
    | true => exact Post.ok p1 c1 rfl
theorem pt_ifx {tc ta tb : TT} (hc : PT X c tc) (ha : PT X a ta) (hb : PT X b tb) : PT X (.IfExp c a b pos) (fun σ H Q => tc σ H fun k H1 => if k = true then ta σ H1 Q else tb σ H1 Q) := by
  refine ⟨fun pins s σ H Q I h => ?_⟩
  show wpAny (model X.prog X.w) X.A (isTrue c X.env (eval c X.env) >>= fun k => if k = true then isTrue a X.env (eval a X.env) else isTrue b X.env (eval b X.env)) _ _ s
  refine wpAny_bind (thn (hc.run pins s σ H _ I h) fun d s1 ⟨H1, I1, q1⟩ => ?_)
  cases d with
  | true => exact ha.run pins s1 σ H1 Q I1 q1
  | false => exact hb.run pins s1 σ H1 Q I1 q1
theorem d_ifx (hc : DE X nm W c nc) (ha : DE X nm W a na) (hb : DE X nm W b nb) : DE X nm W (.IfExp c a b pos)
    (ofVT (fun ρ cs => (nc.t ρ cs).bind fun k cs => if k = true then na.v ρ cs else nb.v ρ cs) (fun ρ cs => (nc.t ρ cs).bind fun k cs => if k = true then na.t ρ cs else nb.t ρ cs)) := by
  have hv : PE X (.IfExp c a b pos) (tV X.K nm W fun ρ cs => (nc.t ρ cs).bind fun k cs => if k = true then na.v ρ cs else nb.v ρ cs) := (pe_ifExp hc.t ha.v hb.v).imp fun σ H Q q => by
    obtain ⟨g, ρ, cs, en, c, p⟩ := q
    refine ⟨g, ρ, cs, en, c, (Post.bind (R := fun _ _ a b => a = b) p).imp ?_⟩
    rintro k H1 ⟨k', g1, cs1, e1, c1, rfl, p1⟩
    cases k' with
    | true => exact ⟨g1, ρ, cs1, en.mono e1 c.ok, c1, p1⟩
    | false => exact ⟨g1, ρ, cs1, en.mono e1 c.ok, c1, p1⟩
  refine ⟨hv, d_B hv, (pt_ifx hc.t ha.t hb.t).imp fun σ H Q q => ?_⟩
  obtain ⟨g, ρ, cs, en, c, p⟩ := q
  refine ⟨g, ρ, cs, en, c, (Post.bind (R := fun _ _ a b => a = b) p).imp ?_⟩
  rintro k H1 ⟨k', g1, cs1, e1, c1, rfl, p1⟩
  cases k' with
  | true => exact ⟨g1, ρ, cs1, en.mono e1 c.ok, c1, p1⟩
  | false => exact ⟨g1, ρ, cs1, en.mono e1 c.ok, c1, p1⟩
/-- a reading that gives a value, then its truth -/
theorem to_bool {h : Env → Cells → Res D} {σ : L2.St} {H : Hp} {Q : Bool → Hp → Prop} (hb : ∀ ρ cs d cs', h ρ cs = .ok d cs' → ∃ k, d = .bl k) (q : tT X.K nm W (fun ρ cs => (h ρ cs).bind fun x cs => truth x cs) σ H Q) : tV X.K nm W h σ H fun x H' => ∃ k, x = .bl k ∧ Q k H' := by
  obtain ⟨g, ρ, cs, en, c, p⟩ := q
  refine ⟨g, ρ, cs, en, c, ?_⟩
  have p : Post X.K nm W (fun _ _ a b => a = b) g H ((h ρ cs).bind fun x cs => truth x cs) Q := p
  show Post X.K nm W (Rep X.K nm) g H (h ρ cs) _
  cases e : h ρ cs with
  | ok d cs' =>
    obtain ⟨k, rfl⟩ := hb ρ cs d cs' e
    rw [e] at p
    intro v g' H' e1 c1 r
    cases r
    exact ⟨k, rfl, p k g' H' e1 c1 rfl⟩
  | exc d cs' => rw [e] at p; exact p
  | bad => rw [e] at p; exact p
theorem bind2_bl {fa fb : Env → Cells → Res D} {h : D → D → Cells → Res D} (hbl : ∀ x y cs d cs', h x y cs = .ok d cs' → ∃ k, d = .bl k) (ρ : Env) (cs : Cells) (d : D) (cs' : Cells) (e : ((fa ρ cs).bind fun x cs => (fb ρ cs).bind fun y cs => h x y cs) = .ok d cs') : ∃ k, d = .bl k := by
  cases e1 : fa ρ cs with
  | ok x cs1 =>
    rw [e1] at e
    have e : ((fb ρ cs1).bind fun y cs => h x y cs) = .ok d cs' := e
    cases e2 : fb ρ cs1 with
    | ok y cs2 => rw [e2] at e; exact hbl _ _ _ _ _ e
    | exc _ _ => rw [e2] at e; cases e
    | bad => rw [e2] at e; cases e
  | exc _ _ => rw [e1] at e; cases e
  | bad => rw [e1] at e; cases e
/-- a comparison -/
theorem d_cmpE {op : CmpOp} {h : D → D → Cells → Res D} (ho : OpR X (compareOp op) (rD X.K nm W (Rep X.K nm) (Rep X.K nm) h)) (ha : DE X nm W a na) (hb : DE X nm W b nb) (hm : behindInMarks op b = false)
    (hbl : ∀ x y cs d cs', h x y cs = .ok d cs' → ∃ k, d = .bl k) : DE X nm W (.Compare a [op] [b] pos) (ofV fun ρ cs => (na.v ρ cs).bind fun x cs => (nb.v ρ cs).bind fun y cs => h x y cs) := by
  have hv := d_cmp (pos := pos) ho ha.v hb.v hm
  exact ⟨hv, d_B hv, (pt_cmpR ho ha.v hb.v hm).imp fun σ H Q q => two (fun e k r => r.mono e k) (to_bool (fun ρ cs d cs' e => bind2_bl hbl ρ cs d cs' e) q)⟩
theorem d_cmpBE {op : CmpOp} {h : D → D → Cells → Res D} (ho : OpR X (compareOp op) (rD X.K nm W (BRep X.K nm) (BRep X.K nm) h)) (ha : DE X nm W a na) (hb : DE X nm W b nb) (hm : behindInMarks op b = false)
    (hbl : ∀ x y cs d cs', h x y cs = .ok d cs' → ∃ k, d = .bl k) : DE X nm W (.Compare a [op] [b] pos) (ofV fun ρ cs => (na.b ρ cs).bind fun x cs => (nb.b ρ cs).bind fun y cs => h x y cs) := by
  have hv := d_cmpB (pos := pos) ho ha.b hb.b hm
  exact ⟨hv, d_B hv, (pt_cmpR ho ha.b hb.b hm).imp fun σ H Q q => two (fun e k r => r.mono e k) (to_bool (fun ρ cs d cs' e => bind2_bl hbl ρ cs d cs' e) q)⟩
end
end Dv
end
section
set_option Elab.async false
set_option linter.all false
set_option maxRecDepth 100000
set_option maxHeartbeats 4000000
namespace Dv
open PySem L2
/-! ### what the walk asks of the text -/
structure Top (T : Tab) (nm : Nm) (K : PySem.W.Frag) : Prop where
  nmok : NmOk nm
  cls : ∀ (c : Nat) (k : Cl), T.cls[c]? = some k → Cls K (nm.ca c)
  at_ : ∀ (c : Nat) (k : Cl) (j : Nat), T.cls[c]? = some k → j ∈ k.atr → NoAttr K (nm.ca c) (nm.at_ j)
  met : ∀ (c : Nat) (k : Cl) (m f : Nat), T.cls[c]? = some k → k.meths.lookup m = some f → Meth K (nm.ca c) (nm.mt m) (nm.fa f)
  mkr : ∀ (c : Nat) (k : Cl) (f : Nat), T.cls[c]? = some k → k.init = some f → Mk K (nm.ca c) (nm.fa f)
  prp : ∀ (c : Nat) (k : Cl) (j f : Nat), T.cls[c]? = some k → k.props.lookup j = some f → ∃ p, PropOf K (nm.ca c) (nm.at_ j) p (nm.fa f)
  sf : ∀ (c : Nat) (k : Cl), T.cls[c]? = some k → PySem.W.selfFirst K (nm.ca c) = true
  insT : ∀ (c : Nat) (k : Cl), T.cls[c]? = some k → PySem.W.findIn K (.ref (nm.ca c)) "__class__" = some (some (.builtin "object.__class__")) ∧ PySem.W.specialIn K (.builtin "object.__class__") "__get__" = some (some (.builtin "getset_descriptor.__get__")) ∧
    PySem.W.takesIn K (.builtin "object.__class__") = some true ∧ PySem.W.mroIn K (nm.ca c) (.type "object") = some true
  kCC : ∀ (c c' : Nat) (k k' : Cl), T.cls[c]? = some k → T.cls[c']? = some k' → PySem.W.kitOne K (.ref (nm.ca c)) (.ref (nm.ca c')) = some (k.anc.contains c')
  kCB : ∀ (c : Nat) (k : Cl) (t : String), T.cls[c]? = some k → t ∈ ["int", "bool", "str", "list", "tuple", "dict"] → PySem.W.kitOne K (.ref (nm.ca c)) (.type t) = some false
  kBC : ∀ (c : Nat) (k : Cl) (t : String), T.cls[c]? = some k → t ∈ ["NoneType", "bool", "int", "str", "tuple", "list", "dict"] → PySem.W.kitOne K (.type t) (.ref (nm.ca c)) = some false
  noi : ∀ (c : Nat) (k : Cl), T.cls[c]? = some k → PySem.W.noIn K (nm.ca c) (Operator.info .Add).2 = true
  mtat : ∀ (m j : Nat), nm.mt m ≠ nm.at_ j
  nosq : ∀ (c : Nat) (k : Cl), T.cls[c]? = some k → PySem.W.noSeq K (nm.ca c) = true
  fni : ∀ (c : Nat) (k : Cl) (m f : Nat), T.cls[c]? = some k → k.meths.lookup m = some f → PySem.W.fnIn K (nm.fa f) = true
  ne : ∀ (c : Nat) (k : Cl) (f : Nat), T.cls[c]? = some k → k.meths.lookup nEq = some f → PySem.W.findIn K (.ref (nm.ca c)) "__ne__" = some (some (.builtin "object.__ne__")) ∧ PySem.W.mroIn K (nm.ca c) (.type "object") = some true
  nfT : ∀ (c : Nat) (k : Cl) (t : String), T.cls[c]? = some k → t ∈ ["NoneType", "bool", "int", "str", "tuple", "list", "dict"] → PySem.W.notFirst K (nm.ca c) (.type t) = true
  nfC : ∀ (c : Nat) (k : Cl) (c' : Nat) (k' : Cl), T.cls[c]? = some k → T.cls[c']? = some k' → PySem.W.notFirst K (nm.ca c) (.ref (nm.ca c')) = true
  cvl : ∀ (c : Nat) (k : Cl) (j : Nat) (d : D), T.cls[c]? = some k → k.cvs.lookup j = some d → ∃ mc v u, ClX.CRead K (nm.ca c) mc ∧ ClX.CVal K (nm.ca c) mc (nm.at_ j) v u ∧ ∀ g H, Rep K nm g H d v
  cmt : ∀ (c : Nat) (k : Cl) (m f : Nat), T.cls[c]? = some k → k.cms.lookup m = some f → ∃ mc p, ClX.CRead K (nm.ca c) mc ∧ ClX.CMet K (nm.ca c) mc (nm.mt m) p (nm.fa f)
  dn : nm.mt nEq = "__eq__" ∧ nm.mt nAdd = "__add__" ∧ nm.mt nInv = "__invert__" ∧ nm.mt nStr = "__str__" ∧ nm.mt nLen = "__len__" ∧ nm.mt nIter = "__iter__" ∧ nm.mt nBool = "__bool__" ∧ nm.mt nCont = "__contains__" ∧
    nm.mt nGet = "__getitem__" ∧ nm.mt nCall = "__call__" ∧ nm.mt nOr = "__or__" ∧ nm.mt nAnd = "__and__" ∧ nm.mt nSub = "__sub__"
/-- so near that a call has room -/
def Near (A A' : Around) : Prop := A' = A ∨ A' = A.in1 ∨ A' = A.in1.in1
/-- a call of a def of the text with data -/
def CallsOk (X : Cx) (nm : Nm) (W : XK) (O : Orc) : Prop := ∀ (f : Nat) (A' : Around) (pins : List (Addr × Obj)) (s : Shared) (σ : L2.St) (H : Hp) (us : List Value) (vs : List V) (ds : List D) (cs : Cells) (g : Gh) (Q : VK), Near X.A A' →
  Inv X pins σ H s → Vals vs us → CsOk X.K nm g H cs → Reps X.K nm g H ds vs → Post X.K nm W (Rep X.K nm) g H (O false f ds cs) Q → wpAny (model X.prog X.w) A' (call (.ref (nm.fa f)) us) (EP X pins σ Q) X.xe s
/-- a def's promise -/
def spO (K : PySem.W.Frag) (nm : Nm) (W : XK) (O : Orc) (f : Nat) : Sp := fun vs H Q E => E = W ∧ ∃ g cs ds, CsOk K nm g H cs ∧ Reps K nm g H ds vs ∧ Post K nm W (Rep K nm) g H (O false f ds cs) Q
/-- an __init__'s: its self a new thing -/
def spI (K : PySem.W.Frag) (nm : Nm) (W : XK) (O : Orc) (c f : Nat) : Sp := fun vs H2 Q E => E = W ∧ ∃ x dx vs' H g cs ds, vs = .ref x :: vs' ∧ H x = none ∧ H dx = none ∧ dx ≠ x ∧ H2 = upd (upd H dx (.own x)) x (.ins (nm.ca c) dx []) ∧
  CsOk K nm g H cs ∧ Reps K nm g H ds vs' ∧ Post K nm W (Rep K nm) g H (O true f ds cs) (fun v H' => v = .ref x → Q .non H')
/-- a promise by positional values, keywords and what stands for the rest -/
def FnK (P : Program) (w : World) (K : PySem.W.Frag) (mg : Str → Option Value) (base : Heap) (CX : CXT) (k : Nat) (f : Addr) (n : Nat) (ks : List Str) (perm : List Nat) (dvs : List V) (sp : Sp) : Prop :=
  ∀ (A : Around) (outer : List PySem.Env) (s : Shared) (H : Hp) (us ws : List Value) (vs zs ys : List V) (Q : VK) (E : XK), Room k A → Env0 P w K mg base A outer s H → Vals vs us → Vals zs ws → vs.length = n → zs.length = ks.length → permD perm (vs ++ zs ++ dvs) = some ys → sp ys H Q E →
    codeAny (model P w) A (.call (.ref f) ⟨us, ks.zip ws⟩) (CR CX outer P w H s Q E) s
/-- the values of a def's defaults -/
def Dfl (T : Tab) (nm : Nm) (K : PySem.W.Frag) (f : Nat) (dvs : List V) : Prop := ∀ g H, Reps K nm g H (dflT T f) dvs
/-- the same of an __init__ -/
def MkK (P : Program) (w : World) (K : PySem.W.Frag) (mg : Str → Option Value) (base : Heap) (CX : CXT) (k : Nat) (f : Addr) (n : Nat) (ks : List Str) (perm : List Nat) (dvs : List V) (sp : Sp) : Prop :=
  ∃ (fd : FuncData) (ps : List Str) (its : List Value), FnOk P w K mg base CX k f fd ps sp ∧ KBn K fd ps n ks (fun us ws => (permD perm (us ++ ws ++ its)).getD []) (fun vs zs => (permD perm (vs ++ zs ++ dvs)).getD [])
/-- an iterator over the tuple at a -/
def ItT (a it : Addr) : HO := .ext fun h => h.get? it = some { cls := .type "tuple_iterator", data := .fields #[.ref a, .int 0 0] }
/-- an __iter__'s promise: an iterator over the tuple that the thing holds, a young one -/
def ItR (T : Tab) (P : Program) (w : World) (K : PySem.W.Frag) (mg : Str → Option Value) (base : Heap) (CX : CXT) (k : Nat) (nm : Nm) (fa : Addr) (c j : Nat) : Prop :=
  ∀ (A : Around) (outer : List PySem.Env) (s : Shared) (H : Hp) (u : Value) (v : V) (fs : List (Nat × D)) (ds : List D) (g : Gh) (cs : Cells) (Q : VK), Room k A → Env0 P w K mg base A outer s H → RelV v u → CsOk K nm g H cs → Rep K nm g H (.ins c fs) v → okAt T c j = true → fs.lookup j = some (.tup ds) →
    (∀ g' H' a it, Ext g H g' H' → CsOk K nm g' H' cs → Rep K nm g' H' (.tup ds) (.ref a) → H' it = none → s.heap.objs.size ≤ it → Q (.ref it) (upd H' it (ItT a it))) →
    codeAny (model P w) A (.call (.ref fa) ⟨[u], []⟩) (CR CX outer P w H s Q E0) s
/-- a perm behind self -/
def permS (perm : List Nat) : List Nat := 0 :: perm.map (· + 1)
/-- the text's defs -/
structure Fns (T : Tab) (X : Cx) (nm : Nm) (W : XK) (O : Orc) : Prop where
  ex : ∃ (CX : CXT) (k : Nat), Room (k + 3) X.A ∧ Passes CX X W ∧ Passes CX X.nox W ∧ (∀ f, FnR X.prog X.w X.K X.mg X.base CX k (nm.fa f) (spO X.K nm W O f)) ∧ (∀ c k' f, T.cls[c]? = some k' → k'.init = some f → FnR X.prog X.w X.K X.mg X.base CX k (nm.fa f) (spI X.K nm W O c f)) ∧
    (∀ f n ks perm, nm.kw f n ks perm = true → ∃ dvs, Dfl T nm X.K f dvs ∧ FnK X.prog X.w X.K X.mg X.base CX k (nm.fa f) n ks perm dvs (spO X.K nm W O f)) ∧
    (∀ c k' f n ks perm, T.cls[c]? = some k' → k'.init = some f → nm.kw f n ks perm = true → ∃ dvs, Dfl T nm X.K f dvs ∧ MkK X.prog X.w X.K X.mg X.base CX k (nm.fa f) n ks perm dvs (spI X.K nm W O c f))
structure Ctx (T : Tab) (O : Orc) (nm : Nm) (X : Cx) (W : XK) : Prop where
  top : Top T nm X.K
  calm : X.calm = true
  nd : X.N.Nodup
  room : Room 1 X.A
  calls : CallsOk X nm W O
  fns : Fns T X nm W O
theorem cmpBack {X : Cx} {pins : List (Addr × Obj)} {σ : L2.St} {Q : VK} {v : Value} {s : Shared} (h : EP X pins σ Q v s) : PySem.W.CmpBack (EP X pins σ Q) v s := by
  obtain ⟨x, H', I, r, q⟩ := h
  cases v with
  | notImplemented => cases x <;> first | (cases r; done) | (obtain ⟨_, e⟩ := r; cases e)
  | _ => exact ⟨x, H', I, r, q⟩
section
variable {T : Tab} {O : Orc} {nm : Nm} {X : Cx} {W : XK} {g : Gh} {H : Hp} {cs : Cells} {pins : List (Addr × Obj)} {σ : L2.St} {s : Shared}
theorem inst_at {c : Nat} {fs : List (Nat × D)} {d : D} {v : V} {u : Value} (I : Inv X pins σ H s) (co : CsOk X.K nm g H cs) (r : BRep X.K nm g H d v) (rv : RelV v u) (e : deref d cs = .ins c fs) : ∃ a ox od, u = .ref a ∧ PySem.W.InstAt s.heap a ox (nm.ca c) od ∧ ox.data = .plain := by
  obtain ⟨a, dx, vs, rfl, h1, _⟩ := view_ins co r e
  cases rv
  obtain ⟨mA, ob, _⟩ := ins_get I.hok h1
  obtain ⟨od, J, _⟩ := ob.look
  exact ⟨a, _, _, rfl, J, rfl⟩
theorem clsOf_ins {d : D} {c : Nat} (h : clsOf d cs = some c) : ∃ fs, deref d cs = .ins c fs := by
  unfold clsOf at h
  cases q : deref d cs with
  | ins c' fs => rw [q] at h; cases h; exact ⟨fs, rfl⟩
  | _ => rw [q] at h; cases h
/-- a value, as soon as it is nobody's alone -/
theorem BRep.rep {d : D} {v : V} (h : BRep X.K nm g H d v) (hl : ∀ ds, d ≠ .lst ds) : Rep X.K nm g H d v := by
  rcases h with h | ⟨⟨ds, e⟩, _⟩
  · exact h
  · exact absurd e (hl ds)
/-- a method that Python asks for: what callM's Post gives -/
theorem callM_post {m : Nat} {d : D} {args : List D} {R : Gh → Hp → D → V → Prop} {Q : VK} (p : Post X.K nm W R g H (callM T O m d args cs) Q) : ∃ c fs f, deref d cs = .ins c fs ∧ methOf T c m = some f ∧ Post X.K nm W R g H (O false f (d :: args) cs) Q := by
  unfold callM at p
  cases q : clsOf d cs with
  | none => rw [q] at p; exact p.elim
  | some c =>
    rw [q] at p
    obtain ⟨fs, e⟩ := clsOf_ins q
    have p : Post X.K nm W R g H (match methOf T c m with
      | some f => O false f (d :: args) cs
      | none => .bad) Q := p
    cases q2 : methOf T c m with
    | none => rw [q2] at p; exact p.elim
    | some f =>
      rw [q2] at p
      exact ⟨c, fs, f, e, q2, p⟩
theorem methOf_ok {c m f : Nat} (C : Top T nm X.K) (h : methOf T c m = some f) : ∃ k, T.cls[c]? = some k ∧ Meth X.K (nm.ca c) (nm.mt m) (nm.fa f) := by
  unfold methOf at h
  cases q : T.cls[c]? with
  | none => rw [q] at h; cases h
  | some k => rw [q] at h; exact ⟨k, rfl, C.met c k m f q h⟩
end
section
variable {T : Tab} {O : Orc} {nm : Nm} {X : Cx} {W : XK}
/-- x op y where the class of x has a method for it, y of the same class -/
theorem own_bin {op : Operator} {m : Nat} (C : Ctx T O nm X W) (hm : nm.mt m = PySem.dunder op.info.2) {g : Gh} {H : Hp} {cs : Cells} {a b : D} {x y : V} {v u : Value} {Q : VK} {pins : List (Addr × Obj)} {σ : L2.St} {s : Shared}
    (I : Inv X pins σ H s) (co : CsOk X.K nm g H cs) (ra : Rep X.K nm g H a x) (rb : Rep X.K nm g H b y) (rv : RelV x v) (ru : RelV y u) (hc : clsOf a cs = clsOf b cs) (p : Post X.K nm W (Rep X.K nm) g H (callM T O m a [b] cs) Q) :
    wpAny (model X.prog X.w) X.A (binaryOp op v u) (EP X pins σ Q) X.xe s := by
  obtain ⟨c, fs, f, e, e2, p⟩ := callM_post p
  obtain ⟨k, hk, M⟩ := methOf_ok C.top e2
  obtain ⟨ad, ox, od, rfl, J, _⟩ := inst_at I co (.inl ra) rv e
  have hb : ∃ fs', deref b cs = .ins c fs' := by
    have : clsOf a cs = some c := by unfold clsOf; rw [e]
    rw [this] at hc
    exact clsOf_ins hc.symm
  obtain ⟨fs', e'⟩ := hb
  obtain ⟨ad', ox', od', rfl, J', _⟩ := inst_at I co (.inl rb) ru e'
  obtain ⟨mm, F⟩ := I.fr
  refine PySem.W.binop_K F I.ok.mod.kin J J'.type (C.top.sf c k hk) (by rw [← hm]; exact M.at_) M.fn ?_
  refine wpAny_mono (C.calls f _ pins s σ H [.ref ad, .ref ad'] [x, y] [a, b] cs g Q (.inl rfl) I (.cons rv (.cons ru .nil)) co (.cons ra (.cons rb .nil)) p) (fun _ _ z => cmpBack z) fun _ _ z => z
/-! ### + and its like -/
theorem o_add (C : Ctx T O nm X W) : OpR X (binaryOp .Add) (rD X.K nm W (Rep X.K nm) (Rep X.K nm) (binD T O .add)) := by
  intro pins s σ H x y v u Q I rv ru h
  obtain ⟨g, cs, a, b, co, ra, rb, p⟩ := h
  unfold binD at p
  cases a with
  | int i =>
    cases b with
    | int j =>
      have e1 := view_int (.inl ra) rfl
      have e2 := view_int (.inl rb) rfl
      subst e1 e2
      exact op_add pins s σ H _ _ v u Q I rv ru ⟨i, j, rfl, rfl, Post.ok p co (.int _)⟩
    | _ => exact p.elim
  | str i =>
    cases b with
    | str j =>
      have e1 := view_str (.inl ra) rfl
      have e2 := view_str (.inl rb) rfl
      subst e1 e2
      have p : Post X.K nm W (Rep X.K nm) g H (if i.length + j.length ≤ sizeLine then .ok (.str (i ++ j)) cs else .bad) Q := p
      split at p
      · rename_i hz
        exact op_add_str pins s σ H _ _ v u Q I rv ru ⟨i, j, rfl, rfl, hz, Post.ok p co (.str _)⟩
      · exact p.elim
    | _ => exact p.elim
  | lst xs =>
    cases b with
    | lst ys =>
      have p : Post X.K nm W (Rep X.K nm) g H (if xs.length + ys.length ≤ sizeLine then .ok (.lst (xs ++ ys)) cs else .bad) Q := p
      split at p
      · rename_i hz
        obtain ⟨a1, vs1, rfl, h1, r1⟩ := view_lst co (.inl ra) rfl
        obtain ⟨a2, vs2, rfl, h2, r2⟩ := view_lst co (.inl rb) rfl
        rw [r1.length, r2.length] at hz
        exact op_cat pins s σ H _ _ v u Q I rv ru ⟨a1, a2, vs1, vs2, rfl, rfl, h1, h2, hz, fun q hq => new_lst co (r1.append r2) hq p⟩
      · exact p.elim
    | _ => exact p.elim
  | tup xs =>
    cases b with
    | tup ys =>
      have p : Post X.K nm W (Rep X.K nm) g H (if xs.length + ys.length ≤ sizeLine then .ok (.tup (xs ++ ys)) cs else .bad) Q := p
      split at p
      · rename_i hz
        obtain ⟨a1, vs1, rfl, h1, r1⟩ := view_tup (.inl ra) (cs := cs) rfl
        obtain ⟨a2, vs2, rfl, h2, r2⟩ := view_tup (.inl rb) (cs := cs) rfl
        rw [r1.length, r2.length] at hz
        refine op_catA pins s σ H _ _ v u Q I rv ru ⟨a1, a2, vs1, vs2, rfl, rfl, h1, h2, hz, fun e => ?_, fun _ e => ?_, fun _ _ q hq => new_tup co (r1.append r2) hq p⟩
        · subst e
          cases r1
          exact Post.ok p co rb
        · subst e
          cases r2
          rw [List.append_nil] at p
          exact Post.ok p co ra
      · exact p.elim
    | _ => exact p.elim
  | ins c fs =>
    cases b with
    | ins c' fs' =>
      have p : Post X.K nm W (Rep X.K nm) g H (if c' = c then callM T O nAdd (.ins c fs) [.ins c' fs'] cs else .bad) Q := p
      split at p
      · rename_i ec
        subst ec
        exact own_bin C (op := .Add) (m := nAdd) (by rw [C.top.dn.2.1]; decide +kernel) I co ra rb rv ru rfl p
      · exact p.elim
    | _ => exact p.elim
  | _ => exact p.elim
theorem o_sub (C : Ctx T O nm X W) : OpR X (binaryOp .Sub) (rD X.K nm W (Rep X.K nm) (Rep X.K nm) (binD T O .sub)) := by
  intro pins s σ H x y v u Q I rv ru h
  obtain ⟨g, cs, a, b, co, ra, rb, p⟩ := h
  unfold binD at p
  cases a with
  | int i =>
    cases b with
    | int j =>
      have e1 := view_int (.inl ra) rfl
      have e2 := view_int (.inl rb) rfl
      subst e1 e2
      exact op_sub pins s σ H _ _ v u Q I rv ru ⟨i, j, rfl, rfl, Post.ok p co (.int _)⟩
    | _ => exact p.elim
  | ins c fs =>
    cases b with
    | ins c' fs' =>
      have p : Post X.K nm W (Rep X.K nm) g H (if c' = c then callM T O nSub (.ins c fs) [.ins c' fs'] cs else .bad) Q := p
      split at p
      · rename_i ec
        subst ec
        exact own_bin C (op := .Sub) (m := nSub) (by rw [C.top.dn.2.2.2.2.2.2.2.2.2.2.2.2]; decide +kernel) I co ra rb rv ru rfl p
      · exact p.elim
    | _ => exact p.elim
  | _ => exact p.elim
theorem o_bor (C : Ctx T O nm X W) : OpR X (binaryOp .BitOr) (rD X.K nm W (Rep X.K nm) (Rep X.K nm) (binD T O .bor)) := by
  intro pins s σ H x y v u Q I rv ru h
  obtain ⟨g, cs, a, b, co, ra, rb, p⟩ := h
  unfold binD at p
  cases a with
  | ins c fs =>
    cases b with
    | ins c' fs' =>
      have p : Post X.K nm W (Rep X.K nm) g H (if c' = c then callM T O nOr (.ins c fs) [.ins c' fs'] cs else .bad) Q := p
      split at p
      · rename_i ec
        subst ec
        exact own_bin C (op := .BitOr) (m := nOr) (by rw [C.top.dn.2.2.2.2.2.2.2.2.2.2.1]; decide +kernel) I co ra rb rv ru rfl p
      · exact p.elim
    | _ => exact p.elim
  | _ => exact p.elim
theorem o_band (C : Ctx T O nm X W) : OpR X (binaryOp .BitAnd) (rD X.K nm W (Rep X.K nm) (Rep X.K nm) (binD T O .band)) := by
  intro pins s σ H x y v u Q I rv ru h
  obtain ⟨g, cs, a, b, co, ra, rb, p⟩ := h
  unfold binD at p
  cases a with
  | ins c fs =>
    cases b with
    | ins c' fs' =>
      have p : Post X.K nm W (Rep X.K nm) g H (if c' = c then callM T O nAnd (.ins c fs) [.ins c' fs'] cs else .bad) Q := p
      split at p
      · rename_i ec
        subst ec
        exact own_bin C (op := .BitAnd) (m := nAnd) (by rw [C.top.dn.2.2.2.2.2.2.2.2.2.2.2.1]; decide +kernel) I co ra rb rv ru rfl p
      · exact p.elim
    | _ => exact p.elim
  | _ => exact p.elim
/-- two ints under a condition -/
theorem o_ints {op : Operator} {h : D → D → Cells → Res D} {C C' : Int → Int → Prop} [∀ i j, Decidable (C i j)] {f : Int → Int → Int} (ho : OpR X (binaryOp op) (rI C' fun i j => .int (f i j))) (w : ∀ i j, C i j → C' i j)
    (e : ∀ i j cs, h (.int i) (.int j) cs = if C i j then .ok (.int (f i j)) cs else .bad) (e2 : ∀ a b cs, (¬ ∃ i j, a = .int i ∧ b = .int j) → h a b cs = .bad) : OpR X (binaryOp op) (rD X.K nm W (Rep X.K nm) (Rep X.K nm) h) := by
  intro pins s σ H x y v u Q I rv ru q
  obtain ⟨g, cs, a, b, co, ra, rb, p⟩ := q
  by_cases z : ∃ i j, a = .int i ∧ b = .int j
  · obtain ⟨i, j, rfl, rfl⟩ := z
    have e1 := view_int (.inl ra) rfl
    have e2 := view_int (.inl rb) rfl
    subst e1 e2
    rw [e] at p
    split at p
    · rename_i hc
      exact ho pins s σ H _ _ v u Q I rv ru ⟨i, j, rfl, rfl, w i j hc, Post.ok p co (.int _)⟩
    · exact p.elim
  · rw [e2 a b cs z] at p
    exact p.elim
theorem o_mul : OpR X (binaryOp .Mult) (rD X.K nm W (Rep X.K nm) (Rep X.K nm) (binD T O .mul)) := by
  refine o_ints (C := fun i j => okMul i j = true) op_mul (fun i j h => okMul_iff.mp h) (fun i j cs => rfl) fun a b cs h => ?_
  unfold binD
  cases a <;> first | rfl | (cases b <;> first | rfl | exact absurd ⟨_, _, rfl, rfl⟩ h)
theorem o_fdiv : OpR X (binaryOp .FloorDiv) (rD X.K nm W (Rep X.K nm) (Rep X.K nm) (binD T O .fdiv)) := by
  refine o_ints (C := fun i j => okDiv j = true) op_fdivW (fun i j h => okDiv_ok h i) (fun i j cs => rfl) fun a b cs h => ?_
  unfold binD
  cases a <;> first | rfl | (cases b <;> first | rfl | exact absurd ⟨_, _, rfl, rfl⟩ h)
theorem o_mod : OpR X (binaryOp .Mod) (rD X.K nm W (Rep X.K nm) (Rep X.K nm) (binD T O .mod)) := by
  refine o_ints op_mod (fun i j h => h) (fun i j cs => rfl) fun a b cs h => ?_
  unfold binD
  cases a <;> first | rfl | (cases b <;> first | rfl | exact absurd ⟨_, _, rfl, rfl⟩ h)
theorem o_pow : OpR X (binaryOp .Pow) (rD X.K nm W (Rep X.K nm) (Rep X.K nm) (binD T O .pow)) := by
  refine o_ints (C := fun i j => okPow i j = true) op_pow (fun i j h => okPow_iff.mp h) (fun i j cs => rfl) fun a b cs h => ?_
  unfold binD
  cases a <;> first | rfl | (cases b <;> first | rfl | exact absurd ⟨_, _, rfl, rfl⟩ h)
/-! ### comparisons -/
theorem o_cmpI {op : Cop} {op' : CmpOp} {f : Int → Int → Bool} (ho : OpR X (compareOp op') (rI0 fun i j => .bl (f i j))) (e : ∀ i j cs, cmpI op (.int i) (.int j) cs = .ok (.bl (f i j)) cs)
    {pins : List (Addr × Obj)} {s : Shared} {σ : L2.St} {H : Hp} {x y : V} {v u : Value} {Q : VK} {g : Gh} {cs : Cells} {a b : D} (I : Inv X pins σ H s) (rv : RelV x v) (ru : RelV y u) (co : CsOk X.K nm g H cs) (ra : BRep X.K nm g H a x) (rb : BRep X.K nm g H b y)
    (p : Post X.K nm W (Rep X.K nm) g H (cmpI op a b cs) Q) : wpAny (model X.prog X.w) X.A (compareOp op' v u) (EP X pins σ Q) X.xe s := by
  by_cases z : ∃ i j, a = .int i ∧ b = .int j
  · obtain ⟨i, j, rfl, rfl⟩ := z
    have e1 := view_int ra rfl
    have e2 := view_int rb rfl
    subst e1 e2
    rw [e] at p
    exact ho pins s σ H _ _ v u Q I rv ru ⟨i, j, rfl, rfl, Post.ok p co (.bl _)⟩
  · have : cmpI op a b cs = .bad := by
      unfold cmpI
      cases op <;> first | rfl | (cases a <;> first | rfl | (cases b <;> first | rfl | exact absurd ⟨_, _, rfl, rfl⟩ z))
    rw [this] at p
    exact p.elim
theorem cmpI_bl {op : Cop} {a b : D} {cs cs' : Cells} {d : D} (h : cmpI op a b cs = .ok d cs') : ∃ k, d = .bl k := by
  unfold cmpI at h
  split at h <;> first | (cases h; done) | (injection h with h _; exact ⟨_, h.symm⟩)
mutual
theorem dp_of {g : Gh} {H : Hp} : ∀ {d : D} {v : V} {x : PyData}, Rep X.K nm g H d v → toPy d = some x → Dp X.K H v x
  | _, _, _, .non, e => by simp [toPy] at e; subst e; exact .non
  | _, _, _, .bl b, e => by simp [toPy] at e; subst e; exact .bl b
  | _, _, _, .int b, e => by simp [toPy] at e; subst e; exact .int b
  | _, _, _, .str b, e => by simp [toPy] at e; subst e; exact .str b
  | .tup ds, _, x, .tup h1 h2 h3, e => by
    simp only [toPy] at e
    cases q : toPys ds with
    | none => rw [q] at e; cases e
    | some xs => rw [q] at e; cases e; exact .tup (.of h2) (dps_of h3 q)
  | .tup ds, _, x, .tupK h1 h3, e => by
    simp only [toPy] at e
    cases q : toPys ds with
    | none => rw [q] at e; cases e
    | some xs => rw [q] at e; cases e; exact .tup (h1 H) (dps_of h3 q)
  | .lst ds, _, x, .lst h1 h2 h3, e => by
    simp only [toPy] at e
    cases q : toPys ds with
    | none => rw [q] at e; cases e
    | some xs => rw [q] at e; cases e; exact .lst (.of h2) (dps_of h3 q)
  | _, _, _, .scr _ _ _, e => by simp [toPy] at e
  | _, _, _, .scrK _ _, e => by simp [toPy] at e
  | _, _, _, .ins _ _ _, e => by simp [toPy] at e
  | _, _, _, .cell _, e => by simp [toPy] at e
  | _, _, _, .cls _, e => by simp [toPy] at e
  | _, _, _, .dic _ _, e => by simp [toPy] at e
  | _, _, _, .dicF _ _ _, e => by simp [toPy] at e
theorem dps_of {g : Gh} {H : Hp} : ∀ {ds : List D} {vs : List V} {xs : List PyData}, Reps X.K nm g H ds vs → toPys ds = some xs → DpAll X.K H vs xs
  | _, _, _, .nil, e => by simp [toPys] at e; subst e; exact .nil
  | d :: ds, _, xs, .cons h t, e => by
    simp only [toPys] at e
    cases q : toPy d with
    | none => rw [q] at e; cases e
    | some y =>
      cases q2 : toPys ds with
      | none => rw [q, q2] at e; cases e
      | some ys => rw [q, q2] at e; cases e; exact .cons (dp_of h q) (dps_of t q2)
end
theorem dpB_of {g : Gh} {H : Hp} {d : D} {v : V} {x : PyData} (h : BRep X.K nm g H d v) (e : toPy d = some x) : Dp X.K H v x := by
  rcases h with h | ⟨⟨ds, rfl⟩, a, rfl, _, _, vs, q, r⟩
  · exact dp_of h e
  · simp only [toPy] at e
    cases q2 : toPys ds with
    | none => rw [q2] at e; cases e
    | some xs => rw [q2] at e; cases e; exact .lst (.of q) (dps_of r q2)
/-- == and != of data -/
theorem eqP_eq {a b : D} {cs : Cells} : (∃ x y, toPy a = some x ∧ toPy b = some y ∧ SeqAt.shaped x = true ∧ SeqAt.shaped y = true ∧ eqP a b cs = .ok (PyData.eqv x y) cs) ∨ eqP a b cs = .bad := by
  unfold eqP
  cases e1 : toPy a with
  | none => exact .inr rfl
  | some x =>
    cases e2 : toPy b with
    | none => exact .inr rfl
    | some y =>
      by_cases h : SeqAt.shaped x = true ∧ SeqAt.shaped y = true
      · exact .inl ⟨x, y, rfl, rfl, h.1, h.2, by simp only [if_pos h]⟩
      · exact .inr (by simp only [if_neg h])
section
variable {pins : List (Addr × Obj)} {s : Shared} {σ : L2.St} {H : Hp} {x y : V} {v u : Value} {Q : VK} {g : Gh} {cs : Cells} {a b : D}
theorem eqP_run (hu : X.A.units + 64 < cLine) (I : Inv X pins σ H s) (rv : RelV x v) (ru : RelV y u) (co : CsOk X.K nm g H cs) (ra : BRep X.K nm g H a x) (rb : BRep X.K nm g H b y) (p : Post X.K nm W (Rep X.K nm) g H ((eqP a b cs).bind fun r cs => .ok (.bl r) cs) Q) :
    wpAny (model X.prog X.w) X.A (compareOp .Eq v u) (EP X pins σ Q) X.xe s := by
  rcases eqP_eq (a := a) (b := b) (cs := cs) with ⟨d, e, h1, h2, h3, h4, h5⟩ | h5
  · rw [h5] at p
    exact op_eqD hu pins s σ H _ _ v u Q I rv ru ⟨d, e, dpB_of ra h1, dpB_of rb h2, h3, h4, Post.ok p co (.bl _)⟩
  · rw [h5] at p
    exact p.elim
theorem neP_run (hu : X.A.units + 64 < cLine) (I : Inv X pins σ H s) (rv : RelV x v) (ru : RelV y u) (co : CsOk X.K nm g H cs) (ra : BRep X.K nm g H a x) (rb : BRep X.K nm g H b y) (p : Post X.K nm W (Rep X.K nm) g H ((eqP a b cs).bind fun r cs => .ok (.bl (!r)) cs) Q) :
    wpAny (model X.prog X.w) X.A (compareOp .NotEq v u) (EP X pins σ Q) X.xe s := by
  rcases eqP_eq (a := a) (b := b) (cs := cs) with ⟨d, e, h1, h2, h3, h4, h5⟩ | h5
  · rw [h5] at p
    exact op_neD hu pins s σ H _ _ v u Q I rv ru ⟨d, e, dpB_of ra h1, dpB_of rb h2, h3, h4, Post.ok p co (.bl _)⟩
  · rw [h5] at p
    exact p.elim
end
end
end Dv
end
section
set_option Elab.async false
set_option linter.all false
set_option maxRecDepth 100000
set_option maxHeartbeats 4000000
namespace Dv
open PySem L2
section
variable {T : Tab} {O : Orc} {nm : Nm} {X : Cx} {W : XK}
section
variable {pins : List (Addr × Obj)} {s : Shared} {σ : L2.St} {H : Hp} {x y : V} {v u : Value} {Q : VK} {g : Gh} {cs : Cells} {a b : D}
theorem deref_id {d e : D} (h : deref d cs = e) (h1 : ∀ ds, e ≠ .lst ds) (h2 : ∀ c fs, e ≠ .ins c fs) (h3 : ∀ n, e ≠ .cell n) : d = e := by
  cases d with
  | cell n =>
    rw [deref_cell] at h
    cases q : cs[n]? with
    | none => rw [q] at h; exact absurd h.symm (h3 n)
    | some c =>
      rw [q] at h
      cases c with
      | lst ds => exact absurd h.symm (h1 ds)
      | ins c fs => exact absurd h.symm (h2 c fs)
  | _ => simpa [deref] using h
/-- the type of a value -/
def tyVal (nm : Nm) (d : D) (cs : Cells) : Value := match deref d cs with
  | .non => .type "NoneType"
  | .bl _ => .type "bool"
  | .int _ => .type "int"
  | .str _ => .type "str"
  | .tup _ => .type "tuple"
  | .lst _ => .type "list"
  | .dic _ => .type "dict"
  | .ins c _ => .ref (nm.ca c)
  | _ => .none
theorem looks_ty (C : Top T nm X.K) {M : Model} (I : Inv X pins σ H s) (co : CsOk X.K nm g H cs) (r : BRep X.K nm g H a x) (rv : RelV x v) (h : tyOk T a cs = true) : PySem.W.Looks M s.heap (typeOf v) (tyVal nm a cs) := by
  unfold tyVal
  unfold tyOk at h
  cases q : deref a cs with
  | non =>
    have e := view_non r (deref_id q (fun _ z => nomatch z) (fun _ _ z => nomatch z) (fun _ z => nomatch z))
    subst e; cases rv
    exact .of_pure rfl
  | bl b =>
    have e := view_bl r (deref_id q (fun _ z => nomatch z) (fun _ _ z => nomatch z) (fun _ z => nomatch z))
    subst e; cases rv
    exact .of_pure rfl
  | int b =>
    have e := view_int r (deref_id q (fun _ z => nomatch z) (fun _ _ z => nomatch z) (fun _ z => nomatch z))
    subst e; obtain ⟨t, rfl⟩ := rv
    exact .of_pure rfl
  | str b =>
    have e := view_str r (deref_id q (fun _ z => nomatch z) (fun _ _ z => nomatch z) (fun _ z => nomatch z))
    subst e; obtain ⟨t, rfl⟩ := rv
    exact .of_pure rfl
  | tup ds =>
    obtain ⟨ad, vs, rfl, h1, _⟩ := view_tup r q
    cases rv
    obtain ⟨its, _, ⟨o, ho, hc, _⟩, _⟩ := I.tuple h1
    exact hc ▸ (PySem.W.Looks.ld ho).andThen .now
  | lst ds =>
    obtain ⟨ad, vs, rfl, h1, _⟩ := view_lst co r q
    cases rv
    obtain ⟨its, _, ⟨o, _, ho, hc, _⟩, _⟩ := I.list (SqL.of h1)
    exact hc ▸ (PySem.W.Looks.ld ho).andThen .now
  | dic kvs =>
    have e := deref_id q (fun _ z => nomatch z) (fun _ _ z => nomatch z) (fun _ z => nomatch z)
    subst e
    rcases r with r | ⟨⟨_, z⟩, _⟩
    · cases r with
      | dic h1 h2 =>
        cases rv
        obtain ⟨_, _, vs, _, o, es, ep, ho, hc, _⟩ := (show ObjOk X.prog X.w H s.heap _ (.dK []) from I.hok _ _ h2)
        exact hc.1 ▸ (PySem.W.Looks.ld ho).andThen .now
      | dicF h1 h2 h3 => rw [q] at h; cases h
    · cases z
  | ins c fs =>
    obtain ⟨ad, ox, od, rfl, J, _⟩ := inst_at I co r rv q
    exact J.type
  | cell n => rw [q] at h; cases h
  | scr ds => rw [q] at h; cases h
  | cls ds => rw [q] at h; cases h
theorem not_first (C : Top T nm X.K) {c : Nat} {k : Cl} (hk : T.cls[c]? = some k) (h : tyOk T b cs = true) : PySem.W.notFirst X.K (nm.ca c) (tyVal nm b cs) = true := by
  unfold tyVal
  unfold tyOk at h
  cases q : deref b cs with
  | non => exact C.nfT c k _ hk (by decide)
  | bl _ => exact C.nfT c k _ hk (by decide)
  | int _ => exact C.nfT c k _ hk (by decide)
  | str _ => exact C.nfT c k _ hk (by decide)
  | tup _ => exact C.nfT c k _ hk (by decide)
  | lst _ => exact C.nfT c k _ hk (by decide)
  | dic _ => exact C.nfT c k _ hk (by decide)
  | ins c' fs =>
    rw [q] at h
    obtain ⟨k', hk'⟩ := Option.isSome_iff_exists.mp h
    exact C.nfC c k c' k' hk hk'
  | cell n => rw [q] at h; cases h
  | scr ds => rw [q] at h; cases h
  | cls ds => rw [q] at h; cases h
theorem bind_isBl {r : Res D} {γ : Type} {R : Gh → Hp → γ → V → Prop} {k : Bool → Cells → Res γ} (p : Post X.K nm W R g H ((r.bind isBl).bind k) Q) :
    Post X.K nm W (Rep X.K nm) g H r fun v' H1 => ∃ b g1 cs1, v' = .bl b ∧ Ext g H g1 H1 ∧ CsOk X.K nm g1 H1 cs1 ∧ Post X.K nm W R g1 H1 (k b cs1) Q := by
  cases r with
  | ok d cs' =>
    intro v' g1 H1 e1 c1 r1
    cases d with
    | bl b =>
      cases r1
      have p : Post X.K nm W R g H (k b cs') Q := p
      exact ⟨b, g1, cs', rfl, e1, c1, Post.mono p e1⟩
    | _ => exact p.elim
  | exc d cs' => exact p
  | bad => exact p
/-- x == y by x's own method -/
theorem eqO_run (C : Ctx T O nm X W) (I : Inv X pins σ H s) (rv : RelV x v) (ru : RelV y u) (co : CsOk X.K nm g H cs) (ra : Rep X.K nm g H a x) (rb : Rep X.K nm g H b y)
    (p : Post X.K nm W (Rep X.K nm) g H ((eqO T O a b cs).bind fun r cs => .ok (.bl r) cs) Q) : wpAny (model X.prog X.w) X.A (compareOp .Eq v u) (EP X pins σ Q) X.xe s := by
  unfold eqO at p
  split at p
  · rename_i ht
    obtain ⟨c, fs, f, e, e2, p⟩ := callM_post (R := Rep X.K nm) (bind_isBl p)
    obtain ⟨k, hk, M⟩ := methOf_ok C.top e2
    obtain ⟨ad, ox, od, rfl, J, _⟩ := inst_at I co (.inl ra) rv e
    obtain ⟨mm, F⟩ := I.fr
    refine PySem.W.cmp_ofEq (PySem.W.cmp_K (op := .Eq) C.room.units0 F I.ok.mod.kin J (looks_ty C.top I co (.inl rb) ru ht) (not_first C.top hk ht) (by rw [show (cmpInfo .Eq).2.1 = ("__eq__" : Str) from rfl, ← C.top.dn.1]; exact M.at_) M.fn ?_)
    refine wpAny_mono (C.calls f _ pins s σ H [.ref ad, u] [x, y] [a, b] cs g _ (.inl rfl) I (.cons rv (.cons ru .nil)) co (.cons ra (.cons rb .nil)) p) (fun v' s' z => cmpBack ?_) fun _ _ z => z
    obtain ⟨w, H', I', r', b', g1, cs1, rfl, e1, c1, p1⟩ := z
    exact ⟨_, H', I', r', Post.ok p1 c1 (.bl _)⟩
  · exact p.elim
theorem neO_run (C : Ctx T O nm X W) (I : Inv X pins σ H s) (rv : RelV x v) (ru : RelV y u) (co : CsOk X.K nm g H cs) (ra : Rep X.K nm g H a x) (rb : Rep X.K nm g H b y)
    (p : Post X.K nm W (Rep X.K nm) g H ((eqO T O a b cs).bind fun r cs => .ok (.bl (!r)) cs) Q) : wpAny (model X.prog X.w) X.A (compareOp .NotEq v u) (EP X pins σ Q) X.xe s := by
  unfold eqO at p
  split at p
  · rename_i ht
    obtain ⟨c, fs, f, e, e2, p⟩ := callM_post (R := Rep X.K nm) (bind_isBl p)
    obtain ⟨k, hk, M⟩ := methOf_ok C.top e2
    obtain ⟨ad, ox, od, rfl, J, _⟩ := inst_at I co (.inl ra) rv e
    have hm : k.meths.lookup nEq = some f := by
      have := e2
      unfold methOf at this
      rw [hk] at this
      exact this
    obtain ⟨hne, hob⟩ := C.top.ne c k f hk hm
    refine PySem.W.cmp_ofNotEq (ne_K (by have := C.room.units; omega) I.kIn J (looks_ty C.top I co (.inl rb) ru ht) (not_first C.top hk ht) (by rw [← C.top.dn.1]; exact M.at_) M.fn hne hob ?_)
    refine wpAny_mono (C.calls f _ pins s σ H [.ref ad, u] [x, y] [a, b] cs g _ (.inr (.inl rfl)) I (.cons rv (.cons ru .nil)) co (.cons ra (.cons rb .nil)) p) (fun v' s' z => ?_) fun _ _ z => z
    obtain ⟨w, H', I', r', b', g1, cs1, rfl, e1, c1, p1⟩ := z
    exact ⟨b', r', .bl (!b'), H', I', rfl, Post.ok p1 c1 (.bl _)⟩
  · exact p.elim
/-! ### in -/
theorem flat_ok {d : D} {w z : V} (r : Rep X.K nm g H d w) (e : flatD d = some z) : w = z ∧ flatV z = true := by
  cases d <;> first | (cases e; done) | skip
  all_goals (cases e; cases r; exact ⟨rfl, rfl⟩)
theorem flats_ok : ∀ {ds : List D} {ws zs : List V}, Reps X.K nm g H ds ws → flats ds = some zs → ws = zs ∧ zs.all flatV = true
  | [], _, _, .nil, e => by cases e; exact ⟨rfl, rfl⟩
  | d :: ds, _, zs, .cons h t, e => by
    simp only [flats] at e
    cases q : flatD d with
    | none => rw [q] at e; cases e
    | some z1 =>
      cases q2 : flats ds with
      | none => rw [q, q2] at e; cases e
      | some zs1 =>
        rw [q, q2] at e
        cases e
        obtain ⟨rfl, h1⟩ := flat_ok h q
        obtain ⟨rfl, h2⟩ := flats_ok t q2
        exact ⟨rfl, by rw [List.all_cons, h1, h2]; rfl⟩
theorem flatB_ok {d : D} {w z : V} (r : BRep X.K nm g H d w) (e : flatD d = some z) : w = z ∧ flatV z = true := flat_ok (r.rep (fun ds h => by subst h; cases e)) e
theorem in1_run {neg : Bool} (I : Inv X pins σ H s) (rv : RelV x v) (ru : RelV y u) (co : CsOk X.K nm g H cs) (ra : BRep X.K nm g H a x) (rb : BRep X.K nm g H b y)
    (p : Post X.K nm W (Rep X.K nm) g H (ofRes cs ((isIn1 a (deref b cs)).map fun r => D.bl (if neg = true then !r else r))) Q) : wpAny (model X.prog X.w) X.A (compareOp (if neg = true then .NotIn else .In) v u) (EP X pins σ Q) X.xe s := by
  have seq : ∀ {ds : List D} {ad : Addr} {vs : List V}, y = .ref ad → (SqL X.K H ad vs ∨ SqT X.K H ad vs) → Reps X.K nm g H ds vs → Post X.K nm W (Rep X.K nm) g H (ofRes cs ((match flatD a, flats ds with
      | some x, some xs => some (inV x xs)
      | _, _ => none).map fun r => D.bl (if neg = true then !r else r))) Q → wpAny (model X.prog X.w) X.A (compareOp (if neg = true then .NotIn else .In) v u) (EP X pins σ Q) X.xe s := by
    intro ds ad vs ey hs hr p
    cases q1 : flatD a with
    | none => rw [q1] at p; exact p.elim
    | some z1 =>
      cases q2 : flats ds with
      | none => rw [q1, q2] at p; exact p.elim
      | some zs =>
        rw [q1, q2] at p
        obtain ⟨rfl, f1⟩ := flatB_ok ra q1
        obtain ⟨rfl, f2⟩ := flats_ok hr q2
        have p : Post X.K nm W (Rep X.K nm) g H (.ok (.bl (if neg = true then !inV x vs else inV x vs)) cs) Q := p
        cases neg with
        | false => exact op_in_seq pins s σ H _ _ v u Q I rv ru ⟨ad, vs, ey, hs, f1, f2, Post.ok p co (.bl _)⟩
        | true => exact op_notIn_seq pins s σ H _ _ v u Q I rv ru ⟨ad, vs, ey, hs, f1, f2, Post.ok p co (.bl _)⟩
  cases q : deref b cs with
  | str z =>
    have e := view_str rb (deref_id q (fun _ z => nomatch z) (fun _ _ z => nomatch z) (fun _ z => nomatch z))
    subst e
    rw [q] at p
    cases a with
    | str c =>
      have e := view_str ra rfl
      subst e
      obtain ⟨⟨l⟩⟩ := c
      have no : ∀ l : List Nat, l.length ≠ 1 → isIn1 (D.str ⟨⟨l⟩⟩) (.str z) = none := fun l hl => by
        show (if (⟨l⟩ : Array Nat).size = 1 then _ else none) = none
        rw [if_neg (by simpa using hl)]
      cases l with
      | nil => rw [no [] (by decide)] at p; exact p.elim
      | cons n r =>
        cases r with
        | cons m r => rw [no (n :: m :: r) (by simp)] at p; exact p.elim
        | nil =>
          have e : isIn1 (D.str ⟨⟨[n]⟩⟩) (.str z) = some (decide (n ∈ z.cps.toList)) := rfl
          rw [e] at p
          cases neg with
          | false => exact op_in_sign pins s σ H _ _ v u Q I rv ru ⟨n, z, rfl, rfl, Post.ok (a := D.bl (decide (n ∈ z.cps.toList))) p co (.bl _)⟩
          | true => exact op_notIn_sign pins s σ H _ _ v u Q I rv ru ⟨n, z, rfl, rfl, Post.ok (a := D.bl (!decide (n ∈ z.cps.toList))) p co (.bl _)⟩
    | _ => exact p.elim
  | lst ds =>
    rw [q] at p
    obtain ⟨ad, vs, e, h1, h2⟩ := view_lst co rb q
    exact seq e (.inl (.of h1)) h2 p
  | tup ds =>
    rw [q] at p
    obtain ⟨ad, vs, e, h1, h2⟩ := view_tup rb q
    exact seq e (.inr h1) h2 p
  | _ => rw [q] at p; exact p.elim
end
end
end Dv
end
section
set_option Elab.async false
set_option linter.all false
set_option maxRecDepth 100000
set_option maxHeartbeats 4000000
namespace Dv
open PySem L2
section
variable {T : Tab} {O : Orc} {nm : Nm} {X : Cx} {W : XK}
section
variable {pins : List (Addr × Obj)} {s : Shared} {σ : L2.St} {H : Hp} {x y : V} {v u : Value} {Q : VK} {g : Gh} {cs : Cells} {a b : D}
theorem clsOf_none {d : D} (h : clsOf d cs = none) : ∀ c fs, deref d cs ≠ .ins c fs := by
  intro c fs e
  unfold clsOf at h
  rw [e] at h
  cases h
theorem tru_run {d : D} {w : V} {r : Value} {f : Bool → V} {Q : VK} {g : Gh} {H : Hp} {cs : Cells} {s : Shared} {k : Bool → Cells → Res D} (I : Inv X pins σ H s) (co : CsOk X.K nm g H cs) (rd : Rep X.K nm g H d w) (rv : RelV w r)
    (p : Post X.K nm W (Rep X.K nm) g H ((truth d cs).bind k) Q) {P : Bool → Shared → Prop} {A : Around} {E : Value → Shared → Prop}
    (h : ∀ b s' g1 cs1 H1, Inv X pins σ H1 s' → CsOk X.K nm g1 H1 cs1 → Post X.K nm W (Rep X.K nm) g1 H1 (k b cs1) Q → P b s') : wpAny (model X.prog X.w) X.A (truthy r) P X.xe s := by
  obtain ⟨b, hb, k', g2, cs2, e2, c2, rfl, p2⟩ := tru_post co (.inl rd) (Post.bind (R := fun _ _ a b => a = b) p)
  refine thn (tru_ok pins s σ H w r (fun c H2 => c = k' ∧ H2 = H) I rv ⟨k', hb, rfl, rfl⟩) fun c s2 hc => ?_
  obtain ⟨H2, I2, rfl, rfl⟩ := hc
  exact h _ s2 g2 cs2 _ I2 c2 p2
/-- x in y by y's own method -/
theorem inO_run (C : Ctx T O nm X W) (I : Inv X pins σ H s) (rv : RelV x v) (ru : RelV y u) (co : CsOk X.K nm g H cs) (ra : Rep X.K nm g H a x) (rb : Rep X.K nm g H b y) (neg : Bool)
    (p : Post X.K nm W (Rep X.K nm) g H ((callM T O nCont b [a] cs).bind fun r cs => (truth r cs).bind fun k cs => .ok (.bl (if neg = true then !k else k)) cs) Q) : wpAny (model X.prog X.w) X.A (compareOp (if neg = true then .NotIn else .In) v u) (EP X pins σ Q) X.xe s := by
  obtain ⟨c, fs, f, e, e2, p⟩ := callM_post (R := Rep X.K nm) (Post.bind (R := Rep X.K nm) p)
  obtain ⟨k, hk, M⟩ := methOf_ok C.top e2
  obtain ⟨ad, ox, od, rfl, J, _⟩ := inst_at I co (.inl rb) ru e
  obtain ⟨mm, F⟩ := I.fr
  have hs : PySem.W.findIn X.K (.ref (nm.ca c)) "__contains__" = some (some (.ref (nm.fa f))) := by rw [← C.top.dn.2.2.2.2.2.2.2.1]; exact M.at_
  have z := C.calls f _ pins s σ H [.ref ad, v] [y, x] [b, a] cs g _ (.inl rfl) I (.cons ru (.cons rv .nil)) co (.cons rb (.cons ra .nil)) p
  cases neg with
  | false =>
    refine PySem.W.in_K F I.ok.mod.kin J hs M.fn (wpAny_mono z (fun r s' q => ?_) fun _ _ z => z)
    obtain ⟨w, H', I', r', d, g1, cs1, e1, c1, rd, p1⟩ := q
    exact tru_run (f := fun _ => .non) (A := X.A) (E := X.xe) I' c1 rd r' p1 fun b s2 g2 cs2 H2 I2 c2 p2 => ⟨.bl b, H2, I2, rfl, Post.ok p2 c2 (.bl _)⟩
  | true =>
    refine PySem.W.notIn_K F I.ok.mod.kin J hs M.fn (wpAny_mono z (fun r s' q => ?_) fun _ _ z => z)
    obtain ⟨w, H', I', r', d, g1, cs1, e1, c1, rd, p1⟩ := q
    exact tru_run (f := fun _ => .non) (A := X.A) (E := X.xe) I' c1 rd r' p1 fun b s2 g2 cs2 H2 I2 c2 p2 => ⟨.bl (!b), H2, I2, rfl, Post.ok p2 c2 (.bl _)⟩
end
def copOp : Cop → CmpOp
  | .eq => .Eq
  | .ne => .NotEq
  | .lt => .Lt
  | .le => .LtE
  | .gt => .Gt
  | .ge => .GtE
  | .isin => .In
  | .notin => .NotIn
theorem o_cmp (C : Ctx T O nm X W) (op : Cop) : OpR X (compareOp (copOp op)) (rD X.K nm W (Rep X.K nm) (Rep X.K nm) (cmpD T O op)) := by
  intro pins s σ H x y v u Q I rv ru h
  obtain ⟨g, cs, a, b, co, ra, rb, p⟩ := h
  have hu : X.A.units + 64 < cLine := C.room.units
  cases op with
  | eq =>
    have p : Post X.K nm W (Rep X.K nm) g H ((eqD T O a b cs).bind fun r cs => .ok (.bl r) cs) Q := p
    unfold eqD at p
    cases q : clsOf a cs with
    | none => rw [q] at p; exact eqP_run hu I rv ru co (.inl ra) (.inl rb) p
    | some c => rw [q] at p; exact eqO_run C I rv ru co ra rb p
  | ne =>
    have p : Post X.K nm W (Rep X.K nm) g H ((eqD T O a b cs).bind fun r cs => .ok (.bl (!r)) cs) Q := p
    unfold eqD at p
    cases q : clsOf a cs with
    | none => rw [q] at p; exact neP_run hu I rv ru co (.inl ra) (.inl rb) p
    | some c => rw [q] at p; exact neO_run C I rv ru co ra rb p
  | isin =>
    have p : Post X.K nm W (Rep X.K nm) g H (match clsOf b cs with
      | some _ => (callM T O nCont b [a] cs).bind fun r cs => (truth r cs).bind fun k cs => .ok (.bl k) cs
      | none => ofRes cs ((isIn1 a (deref b cs)).map .bl)) Q := p
    cases q : clsOf b cs with
    | none => rw [q] at p; exact in1_run (neg := false) I rv ru co (.inl ra) (.inl rb) p
    | some c => rw [q] at p; exact inO_run C I rv ru co ra rb false p
  | notin =>
    have p : Post X.K nm W (Rep X.K nm) g H (match clsOf b cs with
      | some _ => (callM T O nCont b [a] cs).bind fun r cs => (truth r cs).bind fun k cs => .ok (.bl (!k)) cs
      | none => ofRes cs ((isIn1 a (deref b cs)).map fun r => .bl (!r))) Q := p
    cases q : clsOf b cs with
    | none => rw [q] at p; exact in1_run (neg := true) I rv ru co (.inl ra) (.inl rb) p
    | some c => rw [q] at p; exact inO_run C I rv ru co ra rb true p
  | lt => exact o_cmpI (op := .lt) op_lt (fun _ _ _ => rfl) I rv ru co (.inl ra) (.inl rb) p
  | le => exact o_cmpI (op := .le) op_le (fun _ _ _ => rfl) I rv ru co (.inl ra) (.inl rb) p
  | gt => exact o_cmpI (op := .gt) op_gt (fun _ _ _ => rfl) I rv ru co (.inl ra) (.inl rb) p
  | ge => exact o_cmpI (op := .ge) op_ge (fun _ _ _ => rfl) I rv ru co (.inl ra) (.inl rb) p
theorem o_cmpB (C : Ctx T O nm X W) (op : Cop) : OpR X (compareOp (copOp op)) (rD X.K nm W (BRep X.K nm) (BRep X.K nm) (cmpBD op)) := by
  intro pins s σ H x y v u Q I rv ru h
  obtain ⟨g, cs, a, b, co, ra, rb, p⟩ := h
  have hu : X.A.units + 64 < cLine := C.room.units
  cases op with
  | eq => exact eqP_run hu I rv ru co ra rb p
  | ne => exact neP_run hu I rv ru co ra rb p
  | isin => exact in1_run (neg := false) I rv ru co ra rb p
  | notin => exact in1_run (neg := true) I rv ru co ra rb p
  | lt => exact o_cmpI (op := .lt) op_lt (fun _ _ _ => rfl) I rv ru co ra rb p
  | le => exact o_cmpI (op := .le) op_le (fun _ _ _ => rfl) I rv ru co ra rb p
  | gt => exact o_cmpI (op := .gt) op_gt (fun _ _ _ => rfl) I rv ru co ra rb p
  | ge => exact o_cmpI (op := .ge) op_ge (fun _ _ _ => rfl) I rv ru co ra rb p
theorem bind_bl {α : Type} {r : Res α} {f : α → D} (hf : ∀ a, ∃ k, f a = .bl k) {d : D} {cs' : Cells} (h : (r.bind fun a cs => .ok (f a) cs) = .ok d cs') : ∃ k, d = .bl k := by
  cases r with
  | ok a cs =>
    obtain ⟨k, e⟩ := hf a
    injection h with h1 _
    exact ⟨k, by rw [← h1, e]⟩
  | exc _ _ => cases h
  | bad => cases h
theorem ofRes_bl {cs cs' : Cells} {o : Option Bool} {f : Bool → D} (hf : ∀ a, ∃ k, f a = .bl k) {d : D} (h : ofRes cs (o.map f) = .ok d cs') : ∃ k, d = .bl k := by
  cases o with
  | none => cases h
  | some b =>
    obtain ⟨k, e⟩ := hf b
    injection h with h1 _
    exact ⟨k, by rw [← h1, e]⟩
theorem in_bl {r : Res D} {f : Bool → D} (hf : ∀ a, ∃ k, f a = .bl k) {d : D} {cs' : Cells} (h : (r.bind fun x cs => (truth x cs).bind fun k cs => .ok (f k) cs) = .ok d cs') : ∃ k, d = .bl k := by
  cases r with
  | ok a cs => exact bind_bl hf h
  | exc _ _ => cases h
  | bad => cases h
theorem cmpD_bl {op : Cop} (a b : D) (cs : Cells) (d : D) (cs' : Cells) (h : cmpD T O op a b cs = .ok d cs') : ∃ k, d = .bl k := by
  cases op with
  | eq => exact bind_bl (fun a => ⟨a, rfl⟩) h
  | ne => exact bind_bl (fun a => ⟨!a, rfl⟩) h
  | isin =>
    simp only [cmpD] at h
    split at h
    · exact in_bl (fun a => ⟨a, rfl⟩) h
    · exact ofRes_bl (fun a => ⟨a, rfl⟩) h
  | notin =>
    simp only [cmpD] at h
    split at h
    · exact in_bl (fun a => ⟨!a, rfl⟩) h
    · exact ofRes_bl (fun a => ⟨!a, rfl⟩) h
  | lt => exact cmpI_bl (op := .lt) h
  | le => exact cmpI_bl (op := .le) h
  | gt => exact cmpI_bl (op := .gt) h
  | ge => exact cmpI_bl (op := .ge) h
theorem cmpBD_bl {op : Cop} (a b : D) (cs : Cells) (d : D) (cs' : Cells) (h : cmpBD op a b cs = .ok d cs') : ∃ k, d = .bl k := by
  cases op with
  | eq => exact bind_bl (fun a => ⟨a, rfl⟩) h
  | ne => exact bind_bl (fun a => ⟨!a, rfl⟩) h
  | isin => exact ofRes_bl (fun a => ⟨a, rfl⟩) h
  | notin => exact ofRes_bl (fun a => ⟨!a, rfl⟩) h
  | lt => exact cmpI_bl (op := .lt) h
  | le => exact cmpI_bl (op := .le) h
  | gt => exact cmpI_bl (op := .gt) h
  | ge => exact cmpI_bl (op := .ge) h
section
variable {a b c e : Expr} {es : List Expr} {fa fb fc : Env → Cells → Res D} {pos : Pos} {na nb nc : Den}
/-! ### a chain of two comparisons -/
theorem d_chain {op op' : CmpOp} {h h' : D → D → Cells → Res D} (ho : OpR X (compareOp op) (rD X.K nm W (Rep X.K nm) (Rep X.K nm) h)) (ho' : OpR X (compareOp op') (rD X.K nm W (Rep X.K nm) (Rep X.K nm) h')) (ha : DE X nm W a na) (hb : DE X nm W b nb) (hc : DE X nm W c nc)
    (hbl : ∀ x y cs d cs', h x y cs = .ok d cs' → ∃ k, d = .bl k) (hbl' : ∀ x y cs d cs', h' x y cs = .ok d cs' → ∃ k, d = .bl k) (hm : lastMarks [op, op'] [b, c] = false) :
    DE X nm W (.Compare a [op, op'] [b, c] pos) (ofV fun ρ cs => (na.v ρ cs).bind fun x cs => (nb.v ρ cs).bind fun y cs => (h x y cs).bind fun r cs => (match r with
      | .bl true => (nc.v ρ cs).bind fun z cs => h' y z cs
      | .bl false => .ok (.bl false) cs
      | _ => .bad)) := by
  have main : ∀ σ H Q, tV X.K nm W (fun ρ cs => (na.v ρ cs).bind fun x cs => (nb.v ρ cs).bind fun y cs => (h x y cs).bind fun r cs => (match r with
      | .bl true => (nc.v ρ cs).bind fun z cs => h' y z cs
      | .bl false => .ok (.bl false) cs
      | _ => .bad)) σ H Q → tChain (rD X.K nm W (Rep X.K nm) (Rep X.K nm) h) (rD X.K nm W (Rep X.K nm) (Rep X.K nm) h') (tV X.K nm W na.v) (tV X.K nm W nb.v) (tV X.K nm W nc.v) σ H Q := by
    intro σ H Q q
    obtain ⟨g, ρ, cs, en, c, p⟩ := q
    refine ⟨g, ρ, cs, en, c, (Post.bind (R := Rep X.K nm) p).imp ?_⟩
    rintro x H1 ⟨dx, g1, cs1, e1, c1, r1, p1⟩
    have en1 := en.mono e1 c.ok
    refine ⟨g1, ρ, cs1, en1, c1, (Post.bind (R := Rep X.K nm) p1).imp ?_⟩
    rintro y H2 ⟨dy, g2, cs2, e2, c2, r2, p2⟩
    have en2 := en1.mono e2 c1.ok
    refine ⟨g2, cs2, dx, dy, c2, r1.mono e2 c1.ok, r2, ?_⟩
    cases hr : h dx dy cs2 with
    | ok d cs3 =>
      obtain ⟨k, rfl⟩ := hbl _ _ _ _ _ hr
      rw [hr] at p2
      intro z g3 H3 e3 c3 r3
      cases r3
      refine ⟨k, rfl, ?_⟩
      cases k with
      | true =>
        have p2 : Post X.K nm W (Rep X.K nm) g2 H2 ((nc.v ρ cs3).bind fun z cs => h' dy z cs) Q := p2
        refine ⟨g3, ρ, cs3, en2.mono e3 c2.ok, c3, (Post.bind (R := Rep X.K nm) (Post.mono p2 e3)).imp ?_⟩
        rintro z H4 ⟨dz, g4, cs4, e4, c4, r4, p4⟩
        exact ⟨g4, cs4, dy, dz, c4, (r2.mono e3 c2.ok).mono e4 c3.ok, r4, p4⟩
      | false => exact Post.okE (a := D.bl false) p2 e3 c3 (.bl _)
    | exc d cs3 => rw [hr] at p2; exact p2
    | bad => rw [hr] at p2; exact p2
  have hv : PE X (.Compare a [op, op'] [b, c] pos) (tV X.K nm W _) := (pe_chain ho ho' ha.v hb.v hc.v hm).imp main
  refine ⟨hv, d_B hv, (pt_chain ho ho' ha.v hb.v hc.v hm).imp fun σ H Q q => main σ H _ (to_bool (fun ρ cs d cs' e => ?_) q)⟩
  cases e1 : na.v ρ cs with
  | ok x cs1 =>
    rw [e1] at e
    have e : ((nb.v ρ cs1).bind fun y cs => (h x y cs).bind fun r cs => (match r with
      | .bl true => (nc.v ρ cs).bind fun z cs => h' y z cs
      | .bl false => .ok (.bl false) cs
      | _ => .bad)) = .ok d cs' := e
    cases e2 : nb.v ρ cs1 with
    | ok y cs2 =>
      rw [e2] at e
      have e : ((h x y cs2).bind fun r cs => (match r with
        | .bl true => (nc.v ρ cs).bind fun z cs => h' y z cs
        | .bl false => .ok (.bl false) cs
        | _ => .bad)) = .ok d cs' := e
      cases e3 : h x y cs2 with
      | ok r cs3 =>
        obtain ⟨k, rfl⟩ := hbl _ _ _ _ _ e3
        rw [e3] at e
        cases k with
        | true =>
          have e : ((nc.v ρ cs3).bind fun z cs => h' y z cs) = .ok d cs' := e
          cases e4 : nc.v ρ cs3 with
          | ok z cs4 => rw [e4] at e; exact hbl' _ _ _ _ _ e
          | exc _ _ => rw [e4] at e; cases e
          | bad => rw [e4] at e; cases e
        | false =>
          have e : Res.ok (D.bl false) cs3 = .ok d cs' := e
          injection e with e _
          exact ⟨false, e.symm⟩
      | exc _ _ => rw [e3] at e; cases e
      | bad => rw [e3] at e; cases e
    | exc _ _ => rw [e2] at e; cases e
    | bad => rw [e2] at e; cases e
  | exc _ _ => rw [e1] at e; cases e
  | bad => rw [e1] at e; cases e
/-! ### one operand -/
theorem d_isN (ha : DE X nm W a na) {j : Nat} {pos' : Pos} : DE X nm W (.Compare a [.Is] [.Constant .none j pos'] pos) (ofV fun ρ cs => (na.v ρ cs).bind fun x cs => .ok (.bl (match x with
    | .non => true
    | _ => false)) cs) := by
  have k : ∀ {g : Gh} {H : Hp} {x : D} {v : V}, Rep X.K nm g H x v → (match x with | .non => true | _ => false) = decide (v = .non) := fun r => by cases r <;> rfl
  have main : ∀ σ H Q, tV X.K nm W (fun ρ cs => (na.v ρ cs).bind fun x cs => .ok (.bl (match x with
    | .non => true
    | _ => false)) cs) σ H Q → tIsN (tV X.K nm W na.v) σ H Q := by
    intro σ H Q q
    obtain ⟨g, ρ, cs, en, c, p⟩ := q
    refine ⟨g, ρ, cs, en, c, (Post.bind (R := Rep X.K nm) p).imp ?_⟩
    rintro x H1 ⟨dx, g1, cs1, e1, c1, r1, p1⟩
    rw [k r1] at p1
    exact Post.ok p1 c1 (.bl _)
  have hv := (pe_cmp (pos := pos) (pc_isN (j := j) (pos' := pos') ha.v)).imp main
  refine ⟨hv, d_B hv, (pt_cmp (pc_isN ha.v)).imp fun σ H Q q => main σ H _ (to_bool (fun ρ cs d cs' e => bind_bl (fun a => ⟨_, rfl⟩) e) q)⟩
theorem d_notN (ha : DE X nm W a na) {j : Nat} {pos' : Pos} : DE X nm W (.Compare a [.IsNot] [.Constant .none j pos'] pos) (ofV fun ρ cs => (na.v ρ cs).bind fun x cs => .ok (.bl (match x with
    | .non => false
    | _ => true)) cs) := by
  have k : ∀ {g : Gh} {H : Hp} {x : D} {v : V}, Rep X.K nm g H x v → (match x with | .non => false | _ => true) = !decide (v = .non) := fun r => by cases r <;> rfl
  have main : ∀ σ H Q, tV X.K nm W (fun ρ cs => (na.v ρ cs).bind fun x cs => .ok (.bl (match x with
    | .non => false
    | _ => true)) cs) σ H Q → tNotN (tV X.K nm W na.v) σ H Q := by
    intro σ H Q q
    obtain ⟨g, ρ, cs, en, c, p⟩ := q
    refine ⟨g, ρ, cs, en, c, (Post.bind (R := Rep X.K nm) p).imp ?_⟩
    rintro x H1 ⟨dx, g1, cs1, e1, c1, r1, p1⟩
    rw [k r1] at p1
    exact Post.ok p1 c1 (.bl _)
  have hv := (pe_cmp (pos := pos) (pc_notN (j := j) (pos' := pos') ha.v)).imp main
  refine ⟨hv, d_B hv, (pt_cmp (pc_notN ha.v)).imp fun σ H Q q => main σ H _ (to_bool (fun ρ cs d cs' e => bind_bl (fun a => ⟨_, rfl⟩) e) q)⟩
/-! ### items -/
theorem d_neg (ha : DE X nm W a na) : DE X nm W (.UnaryOp .USub a pos) (ofV fun ρ cs => (na.v ρ cs).bind fun x cs => (match x with
    | .int i => .ok (.int (-i)) cs
    | _ => .bad)) := .of rfl ((pe_un un_neg ha.v).imp fun σ H Q q => by
  obtain ⟨g, ρ, cs, en, c, p⟩ := q
  refine ⟨g, ρ, cs, en, c, (Post.bind (R := Rep X.K nm) p).imp ?_⟩
  rintro x H1 ⟨dx, g1, cs1, e1, c1, r1, p1⟩
  cases dx with
  | int i => cases r1; exact ⟨i, rfl, Post.ok (a := D.int (-i)) p1 c1 (.int _)⟩
  | _ => exact p1.elim)
/-- ~x by x's own method -/
theorem d_inv (C : Ctx T O nm X W) (ha : DE X nm W a na) : DE X nm W (.UnaryOp .Invert a pos) (ofV fun ρ cs => (na.v ρ cs).bind fun x cs => callM T O nInv x [] cs) := .of rfl (by
  refine (pe_un (r := fun x H Q => ∃ g cs d, CsOk X.K nm g H cs ∧ Rep X.K nm g H d x ∧ Post X.K nm W (Rep X.K nm) g H (callM T O nInv d [] cs) Q) ?_ ha.v).imp fun σ H Q q => ?_
  · intro pins s σ H x v Q I rv h
    obtain ⟨g, cs, d, co, rd, p⟩ := h
    obtain ⟨c, fs, f, e, e2, p⟩ := callM_post p
    obtain ⟨k, hk, M⟩ := methOf_ok C.top e2
    obtain ⟨ad, ox, od, rfl, J, _⟩ := inst_at I co (.inl rd) rv e
    obtain ⟨mm, F⟩ := I.fr
    exact PySem.W.ksp_inv F I.ok.mod.kin J (by rw [← C.top.dn.2.2.1]; exact M.at_) M.fn (C.calls f _ pins s σ H [.ref ad] [x] [d] cs g Q (.inl rfl) I (.cons rv .nil) co (.cons rd .nil) p)
  · obtain ⟨g, ρ, cs, en, c, p⟩ := q
    refine ⟨g, ρ, cs, en, c, (Post.bind (R := Rep X.K nm) p).imp ?_⟩
    rintro x H1 ⟨dx, g1, cs1, e1, c1, r1, p1⟩
    exact ⟨g1, cs1, dx, c1, r1, p1⟩)
end
end
end Dv
end
section
set_option Elab.async false
set_option linter.all false
set_option maxRecDepth 100000
set_option maxHeartbeats 4000000
namespace Dv
open PySem PySem.Spec PyProof.Rows L2
section
variable {T : Tab} {O : Orc} {nm : Nm} {X : Cx} {W : XK} {a b c e : Expr} {es : List Expr} {fa fb fc : Env → Cells → Res D} {pos : Pos} {na nb nc : Den}
/-! ### subscripts -/
def plainSl (b : Expr) : Bool := match b with
  | .Slice _ _ _ _ => false
  | _ => true
theorem plainSl_ix (h : plainSl b = true) : PlainIx b := by
  intro o i
  cases b <;> first | rfl | (exact absurd h (by simp [plainSl]))
theorem plainSl_own (h : plainSl b = true) (o i : Value) : subscripted b true o i = runValue (.builtin "lifetime.subscript" ⟨[o, i], []⟩) := by
  cases b <;> first | rfl | (exact absurd h (by simp [plainSl]))
theorem deref_isStr {d : D} {cs : Cells} {z : Str} (h : deref d cs = .str z) : d = .str z := by
  cases d with
  | cell n =>
    unfold deref at h
    simp only at h
    split at h <;> cases h
  | _ => exact h
theorem d_sub (C : Ctx T O nm X W) (ha : PE X a (tBr X.K nm W fa)) (hb : PE X b (tV X.K nm W fb)) (hs : plainSl b = true) :
    PE X (.Subscript a b pos) (tV X.K nm W fun ρ cs => (fa ρ cs).bind fun x cs => (fb ρ cs).bind fun y cs => subD T O x y cs) := by
  refine ⟨fun pins s σ H Q I h => ?_⟩
  have h := two (Ra := BRep X.K nm) (Rb := Rep X.K nm) (fun e k r => r.mono e k) h
  refine Subscript_ (binT ha hb I h fun v u s2 x y H2 I2 rx ry q => ?_)
  obtain ⟨g, cs, da, db, co, ra, rb, p⟩ := q
  unfold subD at p
  cases q : deref da cs with
  | lst ds =>
    rw [q] at p
    cases db with
    | int k =>
      have p : Post X.K nm W (Rep X.K nm) g H2 (ofRes cs (atD ds k)) Q := p
      obtain ⟨a1, vs, rfl, h1, h2⟩ := view_lst co ra q
      cases q3 : atD ds k with
      | none => rw [q3] at p; exact p.elim
      | some d =>
        rw [q3] at p
        obtain ⟨w, e1, e2⟩ := h2.atI q3
        have e3 := view_int (.inl rb) rfl
        subst e3
        exact ix_list a b pins s2 σ H2 _ _ v u Q I2 rx ry ⟨a1, vs, k, w, rfl, rfl, .of h1, e1, Post.ok p co e2⟩ (plainSl_ix hs _ _)
    | _ => exact p.elim
  | tup ds =>
    rw [q] at p
    cases db with
    | int k =>
      have p : Post X.K nm W (Rep X.K nm) g H2 (ofRes cs (atD ds k)) Q := p
      obtain ⟨a1, vs, rfl, h1, h2⟩ := view_tup ra q
      cases q3 : atD ds k with
      | none => rw [q3] at p; exact p.elim
      | some d =>
        rw [q3] at p
        obtain ⟨w, e1, e2⟩ := h2.atI q3
        have e3 := view_int (.inl rb) rfl
        subst e3
        exact ix_tup a b pins s2 σ H2 _ _ v u Q I2 rx ry ⟨a1, vs, k, w, rfl, rfl, h1, e1, Post.ok p co e2⟩ (plainSl_ix hs _ _)
    | _ => exact p.elim
  | str z =>
    rw [q] at p
    cases db with
    | int k =>
      have p : Post X.K nm W (Rep X.K nm) g H2 (if z.length ≤ sizeLine then ofRes cs ((atI z.cps.toList k).map fun c => .str ⟨#[c]⟩) else .bad) Q := p
      split at p
      · rename_i hz
        cases q3 : atI z.cps.toList k with
        | none => rw [q3] at p; exact p.elim
        | some ch =>
          rw [q3] at p
          have e2 := view_str ra (deref_isStr q)
          have e3 := view_int (.inl rb) rfl
          subst e2 e3
          exact ix_str a b pins s2 σ H2 _ _ v u Q I2 rx ry ⟨z, k, ch, rfl, rfl, hz, q3, Post.ok p co (.str _)⟩ (plainSl_ix hs _ _)
      · exact p.elim
    | _ => exact p.elim
  | ins c fs =>
    rw [q] at p
    have p : Post X.K nm W (Rep X.K nm) g H2 (callM T O nGet da [db] cs) Q := p
    have ra2 : Rep X.K nm g H2 da x := ra.rep fun ds e => by subst e; simp [deref] at q
    obtain ⟨c', fs', f, e, e2, p⟩ := callM_post p
    obtain ⟨k, hk, M⟩ := methOf_ok C.top e2
    obtain ⟨ad, ox, od, rfl, J, _⟩ := inst_at I2 co (.inl ra2) rx e
    obtain ⟨mm, F⟩ := I2.fr
    exact PySem.W.sub_K F I2.ok.mod.kin J (by rw [← C.top.dn.2.2.2.2.2.2.2.2.1]; exact M.at_) (C.top.fni c' k nGet f hk (by
      unfold methOf at e2; rw [hk] at e2; exact e2)) M.fn
      (C.calls f _ pins s2 σ H2 [.ref ad, u] [x, y] [da, db] cs g Q (.inr (.inl rfl)) I2 (.cons rx (.cons ry .nil)) co (.cons ra2 (.cons rb .nil)) p) (plainSl_own hs _ _)
  | _ => rw [q] at p; exact p.elim
/-! ### x[::-1] -/
theorem d_rev {k : Nat} {p1 p2 p3 : Pos} (ha : PE X a (tBr X.K nm W fa)) : PE X (.Subscript a (.Slice none none (some (.UnaryOp .USub (.Constant (.int 1) k p1) p2)) p3) pos) (tV X.K nm W fun ρ cs => (fa ρ cs).bind fun x cs => (match deref x cs with
    | .lst ds => .ok (.lst ds.reverse) cs
    | .tup ds => .ok (.tup ds.reverse) cs
    | _ => .bad)) := (pe_revA ha).imp fun σ H Q q => by
  obtain ⟨g, ρ, cs, en, c, p⟩ := q
  refine ⟨g, ρ, cs, en, c, (Post.bind (R := BRep X.K nm) p).imp ?_⟩
  rintro v H1 ⟨d, g1, cs1, e1, c1, r1, p1⟩
  cases q : deref d cs1 with
  | lst ds =>
    rw [q] at p1
    obtain ⟨a, vs, rfl, hs, rr⟩ := view_lst c1 r1 q
    exact ⟨a, vs, rfl, .inl ⟨.of hs, fun p hp => new_lst c1 rr.reverse hp p1⟩⟩
  | tup ds =>
    rw [q] at p1
    obtain ⟨a, vs, rfl, hs, rr⟩ := view_tup r1 q
    exact ⟨a, vs, rfl, .inr ⟨hs, fun p hp => new_tup c1 rr.reverse hp p1⟩⟩
  | _ => rw [q] at p1; exact p1.elim
/-! ### attributes -/
def noSup (e : Expr) : Bool := match e with
  | .Call (.Name id _) [] [] _ => id != ("super" : Str)
  | _ => true
theorem noSup_base {f : Str} {env : PySem.Env} {w : Sem Value} (h : noSup e = true) : attributeBase e f env w = w := by
  unfold noSup at h
  split at h
  · exact abase_call h
  · rename_i hn
    unfold attributeBase
    split
    · exact absurd rfl (hn _ _ _)
    · rfl
theorem d_attr {T : Tab} (C : Top T nm X.K) {j : Nat} {f : Str} (hf : nm.at_ j = f) (hb : noSup a = true) (ha : PE X a (tG X.K nm W (ARep X.K nm) fa)) : PE X (.Attribute a f pos) (tV X.K nm W fun ρ cs => (fa ρ cs).bind fun x cs => (match deref x cs with
    | .ins c fs => if okAt T c j = true then ofRes cs (fs.lookup j) else .bad
    | _ => .bad)) := (pe_fld ha (noSup_base hb)).imp fun σ H Q q => by
  subst hf
  obtain ⟨g, ρ, cs, en, c, p⟩ := q
  refine ⟨g, ρ, cs, en, c, (Post.bind (R := ARep X.K nm) p).imp ?_⟩
  rintro v H1 ⟨d, g1, cs1, e1, c1, r1, p1⟩
  cases q : deref d cs1 with
  | ins cc fs =>
    rw [q] at p1
    have p1 : Post X.K nm W (Rep X.K nm) g1 H1 (if okAt T cc j = true then ofRes cs1 (fs.lookup j) else .bad) Q := p1
    split at p1
    · rename_i ok
      unfold okAt at ok
      cases hk : T.cls[cc]? with
      | none => rw [hk] at ok; cases ok
      | some k =>
        rw [hk] at ok
        have hm : j ∈ k.atr := by simpa using ok
        obtain ⟨ad, dx, vs, rfl, h1, h2⟩ := view_insA c1 r1 q
        cases q3 : fs.lookup j with
        | none => rw [q3] at p1; exact p1.elim
        | some x =>
          rw [q3] at p1
          obtain ⟨w, l1, l2⟩ := h2.look C.nmok q3
          exact ⟨ad, _, dx, vs, w, rfl, h1, C.cls cc k hk, C.at_ cc k j hk hm, l1, Post.ok p1 c1 l2⟩
    · exact p1.elim
  | _ => rw [q] at p1; exact p1.elim
theorem arep_of (h : PE X e (tV X.K nm W fa)) : PE X e (tG X.K nm W (ARep X.K nm) fa) := h.imp fun σ H Q q => by
  obtain ⟨g, ρ, cs, en, c, p⟩ := q
  refine ⟨g, ρ, cs, en, c, ?_⟩
  have p : Post X.K nm W (ARep X.K nm) g H (fa ρ cs) Q := p
  show Post X.K nm W (Rep X.K nm) g H (fa ρ cs) Q
  cases hr : fa ρ cs with
  | ok a cs' => rw [hr] at p; exact fun b g' H' e1 c1 r => p b g' H' e1 c1 (.inl r)
  | exc d cs' => rw [hr] at p; exact p
  | bad => rw [hr] at p; exact p
theorem arep_var {i : Nat} {x : Str} (h : PE X (.Name x pos) (tVar i)) : PE X (.Name x pos) (tG X.K nm W (ARep X.K nm) fun ρ cs => ofRes cs (getA ρ i)) := h.imp fun σ H Q q => by
  obtain ⟨g, ρ, cs, en, c, p⟩ := q
  have p : Post X.K nm W (ARep X.K nm) g H (ofRes cs (getA ρ i)) Q := p
  unfold getA at p
  cases e1 : ρ[i]? with
  | none => rw [e1] at p; exact p.elim
  | some s =>
    rw [e1] at p
    have := en.sl i s e1
    cases s with
    | val d =>
      obtain ⟨v, e2, r⟩ := this
      exact ⟨v, e2, Post.ok p c (.inl r)⟩
    | emp => exact p.elim
    | own d =>
      obtain ⟨v, e2, r⟩ := this
      cases d with
      | ins cc ds => exact ⟨v, e2, Post.ok p c (.inr r)⟩
      | _ => exact p.elim
/-! ### properties -/
theorem prop_run {CX : CXT} {k : Nat} {C p g a dx : Addr} {fs : List (Str × V)} {f : Str} {sp : Sp} {E : XK} {pins : List (Addr × Obj)} {σ : L2.St} {H : Hp} {s : Shared} {Q : VK} {bb : Bool} {E' : Value → Shared → Prop} (I : L2.Inv X pins σ H s) (ea : H a = some (.ins C dx fs)) (c : Cls X.K C) (hp : PropOf X.K C f p g)
    (F : FnR X.prog X.w X.K X.mg X.base CX k g sp) (hr : Room (k + 1) X.A) (hx : Passes CX X.nox E) (h : sp [.ref a] H Q E) :
    wpAny (model X.prog X.w) X.A (getAttr (.ref a) f bb) (EP X pins σ Q) E' s := by
  obtain ⟨mA, OO, _, _, _, _⟩ := ins_get I.hok ea
  obtain ⟨od, J, _⟩ := OO.look
  obtain ⟨rest, hrec⟩ := hp.rec_
  have I1 := I.tok (s.toks + 1)
  have hc : (PySem.W.clsIn X.K C).isSome = true := by
    obtain ⟨cd, hc, _⟩ := PySem.W.any_some c.hd
    rw [hc]
    rfl
  refine PySem.W.get_bind I.kIn J (PySem.W.plainGet_of (c.get f)).1 (PySem.W.findObj_data hc hp.at_ hp.get hp.tak) (PySem.W.plainGet_of (c.get f)).2 (wpAny_call (PySem.W.prop_get (s := { s with toks := s.toks + 1 }) I.kIn hrec ?_))
  refine codeAny_mono (F X.A.in1 X.stack { s with toks := s.toks + 1 } H [.ref a] [.ref a] Q E hr.in1 I1.env0.in1 (.cons rfl .nil) h) fun r s' hq => ?_
  cases r with
  | error er => exact False.elim (hx pins σ H { s with toks := s.toks + 1 } er s' (I1.wish _) hq)
  | ok fl =>
    cases fl with
    | ret u =>
      obtain ⟨v, H', I3, rv, q3⟩ := I1.after hq
      show wpAny _ _ (handedOut u) _ _ _
      rw [PySem.W.handedOut_of (handed_of rv)]
      exact wpAny_pure ⟨v, H', I3, rv, q3⟩
    | next => exact False.elim hq
    | brk => exact False.elim hq
    | cont => exact False.elim hq
theorem d_prop (C : Ctx T O nm X W) {j : Nat} {f : Str} (hf : nm.at_ j = f) (hb : noSup a = true) (ha : PE X a (tV X.K nm W fa)) : PE X (.Attribute a f pos) (tV X.K nm W fun ρ cs => (fa ρ cs).bind fun x cs => (match clsOf x cs with
    | some c => (match (T.cls[c]?).bind fun k => k.props.lookup j with
      | some f => O false f [x] cs
      | none => .bad)
    | none => .bad)) := by
  subst hf
  refine ⟨fun pins s σ H Q I h => ?_⟩
  obtain ⟨g, ρ, cs, en, c, p⟩ := h
  refine attr_of (noSup_base hb) (thn (ha.run pins s σ H _ I ⟨g, ρ, cs, en, c, Post.bind (R := Rep X.K nm) p⟩) fun u s1 ⟨x, H1, I1, rx, d, g1, cs1, e1, c1, r1, p1⟩ => ?_)
  cases q : clsOf d cs1 with
  | none => rw [q] at p1; exact p1.elim
  | some cc =>
    rw [q] at p1
    have p1 : Post X.K nm W (Rep X.K nm) g1 H1 (match (T.cls[cc]?).bind fun k => k.props.lookup j with
      | some f => O false f [d] cs1
      | none => .bad) Q := p1
    cases hk : T.cls[cc]? with
    | none => rw [hk] at p1; exact p1.elim
    | some k =>
      rw [hk] at p1
      have p1 : Post X.K nm W (Rep X.K nm) g1 H1 (match k.props.lookup j with
        | some f => O false f [d] cs1
        | none => .bad) Q := p1
      cases hl : k.props.lookup j with
      | none => rw [hl] at p1; exact p1.elim
      | some f =>
        rw [hl] at p1
        obtain ⟨fs, e⟩ := clsOf_ins q
        obtain ⟨ad, dx, vs, rfl, h1, _⟩ := view_ins c1 (.inl r1) e
        obtain rfl : u = Value.ref ad := rx
        obtain ⟨pp, hp⟩ := C.top.prp cc k j f hk hl
        obtain ⟨CX, n, hr, hx, hxn, hF, _, _⟩ := C.fns.ex
        exact prop_run I1 h1 (C.top.cls cc k hk) hp (hF f) (hr.mono (Nat.le_add_right (n + 1) 2)) hxn ⟨rfl, g1, cs1, [d], c1, .cons r1 .nil, p1⟩
end
end Dv
end
section
set_option Elab.async false
set_option linter.all false
set_option maxRecDepth 100000
set_option maxHeartbeats 4000000
namespace Dv
open PySem PySem.Spec PyProof.Rows L2
section
variable {T : Tab} {O : Orc} {nm : Nm} {X : Cx} {W : XK} {a b c e : Expr} {es : List Expr} {fa fb fc : Env → Cells → Res D} {pos : Pos} {na nb nc : Den}
/-! ### starred -/
theorem view_star {K : PySem.W.Frag} {g : Gh} {H : Hp} {cs : Cells} {d : D} {ds : List D} {v : V} (c : CsOk K nm g H cs) (h : BRep K nm g H d v) (e : seqOf d cs = some ds) : ∃ a vs, v = .ref a ∧ (SqT K H a vs ∨ SqL K H a vs) ∧ Reps K nm g H ds vs := by
  obtain ⟨a, vs, h1, h2, h3⟩ := view_seq c h e
  exact ⟨a, vs, h1, h2.symm, h3⟩
theorem d_star {p : Pos} {fs : Env → Cells → Res (List D)} (ha : PE X e (tBr X.K nm W fa)) (hr : PA X es (tAs X.K nm W fs)) :
    PA X (.Starred e p :: es) (tAs X.K nm W fun ρ cs => (fa ρ cs).bind fun x cs => (match seqOf x cs with
      | some ds => (fs ρ cs).bind fun xs cs => .ok (ds ++ xs) cs
      | none => .bad)) := (StX.pa_star ha hr).imp fun σ H Q q => by
  refine (fun (z : tG X.K nm W (BRep X.K nm) fa σ H _) => z) ?_
  obtain ⟨g, ρ, cs, en, c, p⟩ := q
  refine ⟨g, ρ, cs, en, c, (Post.bind (R := BRep X.K nm) p).imp ?_⟩
  rintro x H1 ⟨dx, g1, cs1, e1, c1, r1, p1⟩
  cases q : seqOf dx cs1 with
  | none => rw [q] at p1; exact p1.elim
  | some ds =>
    rw [q] at p1
    have p1 : Post X.K nm W (Reps X.K nm) g1 H1 ((fs ρ cs1).bind fun xs cs => .ok (ds ++ xs) cs) Q := p1
    obtain ⟨a, vs, rfl, h1, h2⟩ := view_star c1 r1 q
    refine ⟨a, vs, rfl, h1, g1, ρ, cs1, en.mono e1 c.ok, c1, (Post.bind (R := Reps X.K nm) p1).imp ?_⟩
    rintro y H2 ⟨dy, g2, cs2, e2, c2, r2, p2⟩
    exact Post.ok p2 c2 ((h2.mono e2 c1.ok).append r2)
/-! ### a call's arguments -/
/-- handing on values -/
def AC (X : Cx) (es : List Expr) (t : TA) : Prop := ∀ (f : Value) (first : List Value) (pos : Pos) (pins : List (Addr × Obj)) (s : Shared) (σ : L2.St) (H : Hp) (Q : Value → Shared → Prop), PySem.W.keepIn X.K f = true → L2.Inv X pins σ H s →
  (t σ H fun vs H1 => ∀ us s1, L2.Inv X pins σ H1 s1 → Vals vs us → wpAny (model X.prog X.w) X.A (call f (first ++ us)) Q X.xe s1) → wpAny (model X.prog X.w) X.A (callWith pos f first (backTo pos (starEach es X.env)) []) Q X.xe s
def isStar (e : Expr) : Bool := match e with
  | .Starred _ _ => true
  | _ => false
theorem isStar_not (h : isStar e = false) : ∀ x p, e ≠ .Starred x p := by
  intro x p q
  subst q
  cases h
theorem any_star (pos : Pos) (env : PySem.Env) : ∀ es : List Expr, (backTo pos (starEach es env)).any (·.1) = es.any isStar
  | [] => rfl
  | e :: es => by
    have ih := any_star pos env es
    unfold backTo at ih ⊢
    cases e <;> simp_all [starEach, isStar]
theorem AC.nil : AC X [] (tAs X.K nm W fun _ cs => .ok [] cs) := by
  intro f first pos pins s σ H Q hk I q
  obtain ⟨g, ρ, cs, en, c, p⟩ := q
  exact PySem.W.callWith_K0 I.kIn hk (Post.ok p c .nil [] s I .nil)
theorem AC.cons {t : TA} (hn : isStar e = false) (h : PA X (e :: es) t) : AC X (e :: es) t := by
  intro f first pos pins s σ H Q hk I q
  have he : starEach (e :: es) X.env = (false, eval e X.env) :: starEach es X.env := star_not (isStar_not hn)
  have z := thn (h.run pos pins s σ H _ I q) (Q' := fun us s1 => X.K.In s1.heap ∧ wpAny (model X.prog X.w) X.A (call f (first ++ us)) Q X.xe s1) fun us s1 ⟨vs, H1, I1, r, q⟩ => ⟨I1.kIn, q us s1 I1 r⟩
  cases hst : es.any isStar with
  | false => exact PySem.W.callWith_K (h₀ := X.base) I.ok.mod.kin hk z he (by rw [any_star, hst])
  | true => exact PySem.W.callWith_S2 (h₀ := X.base) I.ok.mod.kin hk z he (by rw [any_star, hst])
/-- a lone star -/
theorem AC.lone {p : Pos} (he : PE X e (tBr X.K nm W fa)) : AC X [.Starred e p] (tAs X.K nm W fun ρ cs => (fa ρ cs).bind fun x cs => (match seqOf x cs with
      | some ds => (Res.ok [] cs).bind fun xs cs => .ok (ds ++ xs) cs
      | none => .bad)) := by
  intro f first pos pins s σ H Q hk I q
  obtain ⟨g, ρ, cs, en, c, p⟩ := q
  refine PySem.W.callWith_S (h₀ := X.base) I.ok.mod.kin hk (thn (he.run pins s σ H _ I ⟨g, ρ, cs, en, c, Post.bind (R := BRep X.K nm) p⟩) fun v s1 ⟨y, H1, I1, ry, d, g1, cs1, e1, c1, r1, p1⟩ => ?_) rfl
  cases q : seqOf d cs1 with
  | none => rw [q] at p1; exact p1.elim
  | some ds =>
    rw [q] at p1
    have p1 : Post X.K nm W (Reps X.K nm) g1 H1 (.ok (ds ++ []) cs1) _ := p1
    rw [List.append_nil] at p1
    obtain ⟨a, vs, rfl, h1, h2⟩ := view_star c1 r1 q
    obtain rfl : v = Value.ref a := ry
    exact StX.star_any I1 h1 fun us s2 I2 rv => ⟨I2.kIn, Post.ok p1 c1 h2 us s2 I2 rv⟩
/-! ### f(..), C(..) -/
theorem tAs_imp {K : PySem.W.Frag} {f : Env → Cells → Res (List D)} {σ : L2.St} {H : Hp} {Q Q' : List V → Hp → Prop} (h : tAs K nm W f σ H Q) (k : ∀ vs H', Q vs H' → Q' vs H') : tAs K nm W f σ H Q' := by
  obtain ⟨g, ρ, cs, en, c, p⟩ := h
  exact ⟨g, ρ, cs, en, c, p.imp k⟩
/-- a call by values -/
theorem pe_callV {x : Str} {p : Pos} {v : Addr} {fs : Env → Cells → Res (List D)} {r : List V → Hp → VK → Prop} (hg : Gl X x) (hm : X.mg x = some (.ref v)) (hk : PySem.W.keepIn X.K (.ref v) = true) (hc : CallR X (.ref v) r) (ha : AC X es (tAs X.K nm W fs)) (hd : (x == ("__debug__" : Str)) = false) :
    PE X (.Call (.Name x p) es [] pos) (tCB r (tAs X.K nm W fs)) := by
  refine ⟨fun pins s σ H Q I h => ?_⟩
  refine wpAny_Call_Name_kw (ld_glob I hg hm ?_ hd)
  exact ha (.ref v) [] pos pins s σ H _ hk I (tAs_imp h fun vs H1 q us s1 I1 r => hc pins s1 σ H1 vs us Q I1 r q)
/-- what a def does with data -/
def rFn (X : Cx) (nm : Nm) (W : XK) (f : List D → Cells → Res D) : List V → Hp → VK → Prop := fun vs H Q => ∃ g cs ds, CsOk X.K nm g H cs ∧ Reps X.K nm g H ds vs ∧ Post X.K nm W (Rep X.K nm) g H (f ds cs) Q
theorem call_fn (C : Ctx T O nm X W) (f : Nat) : CallR X (.ref (nm.fa f)) (rFn X nm W (O false f)) := fun pins s σ H xs us Q I r ⟨g, cs, ds, co, rs, p⟩ => C.calls f _ pins s σ H us xs ds cs g Q (.inl rfl) I r co rs p
theorem call_new (C : Ctx T O nm X W) {c f : Nat} {k : Cl} (hk : T.cls[c]? = some k) (hf : k.init = some f) : CallR X (.ref (nm.ca c)) (rFn X nm W (O true f)) := by
  intro pins s σ H xs us Q I r ⟨g, cs, ds, co, rs, p⟩
  obtain ⟨CX, n, hr, hx, hxn, hF, hN, _⟩ := C.fns.ex
  refine StX.run_makeR (C.top.mkr c k f hk hf) (hN c k f hk hf) (hr.mono (Nat.le_add_right (n + 1) 2)) hx I r fun x dx h1 h2 h3 => ?_
  exact ⟨rfl, x, dx, xs, H, g, cs, ds, rfl, h1, h2, h3, rfl, co, rs, p.imp fun v H' q e => ⟨rfl, by rw [← e]; exact q⟩⟩
theorem d_args {fs : Env → Cells → Res (List D)} {f : List D → Cells → Res D} (h : PE X e (tCB (rFn X nm W f) (tAs X.K nm W fs))) : PE X e (tV X.K nm W fun ρ cs => (fs ρ cs).bind fun ds cs => f ds cs) := h.imp fun σ H Q q => by
  obtain ⟨g, ρ, cs, en, c, p⟩ := q
  refine ⟨g, ρ, cs, en, c, (Post.bind (R := Reps X.K nm) p).imp ?_⟩
  rintro x H1 ⟨dx, g1, cs1, e1, c1, r1, p1⟩
  exact ⟨g1, cs1, dx, c1, r1, p1⟩
theorem d_call (C : Ctx T O nm X W) {x : Str} {p : Pos} {f : Nat} {fs : Env → Cells → Res (List D)} (hg : Gl X x) (hm : X.mg x = some (.ref (nm.fa f))) (hk : PySem.W.keepIn X.K (.ref (nm.fa f)) = true) (ha : AC X es (tAs X.K nm W fs)) (hd : (x == ("__debug__" : Str)) = false) :
    PE X (.Call (.Name x p) es [] pos) (tV X.K nm W fun ρ cs => (fs ρ cs).bind fun ds cs => O false f ds cs) := d_args (pe_callV hg hm hk (call_fn C f) ha hd)
theorem d_new (C : Ctx T O nm X W) {x : Str} {p : Pos} {c : Nat} {fs : Env → Cells → Res (List D)} (hg : Gl X x) (hm : X.mg x = some (.ref (nm.ca c))) (ha : AC X es (tAs X.K nm W fs)) (hd : (x == ("__debug__" : Str)) = false) (hki : ∃ k f, T.cls[c]? = some k ∧ k.init = some f) :
    PE X (.Call (.Name x p) es [] pos) (tV X.K nm W fun ρ cs => (fs ρ cs).bind fun ds cs => (match T.cls[c]? with
    | some k => (match k.init with
      | some f => O true f ds cs
      | none => .bad)
    | none => .bad)) := by
  obtain ⟨k, f, h1, h2⟩ := hki
  have := d_args (pe_callV (pos := pos) (p := p) hg hm (C.top.mkr c k f h1 h2).kp (call_new C h1 h2) ha hd)
  rw [h1]
  cases k
  cases h2
  exact this
/-! ### o.m(..) -/
theorem mc_form {o : Expr} {m : Str} {apos pos : Pos} {env : PySem.Env} (hb : noSup o = true) (hs : es.any isStar = false) (hl : es.length < 30) (hp : (apos.endLine == pos.line) = true) : eval (.Call (.Attribute o m apos) es [] pos) env = (do
      let ov ← eval o env
      standAt apos.atName
      let (f, first) ← holding [ov] (getMethod ov m (do return (← importBound o env).getD true))
      callWith pos f first (backTo pos (starEach es env)) (backToKw pos (keywordEach [] env))) := by
  refine mcall_of (noSup_base hb) fun ov => ?_
  have hall : (backTo pos (starEach es env)).all (fun x => !x.1) = true := by
    have := any_star pos env es
    rw [hs] at this
    rw [List.all_eq_not_any_not]
    simp only [Bool.not_not]
    rw [this]
    rfl
  have hf : methodCallForm (es.length + ([] : List Keyword).length) (backTo pos (starEach es env)) (backToKw pos (keywordEach [] env)) = true := by
    unfold methodCallForm
    rw [hall]
    simp [backToKw, keywordEach]
    omega
  unfold methodCall
  rw [hf]
  have h2 : methodCallPos true o env apos pos = pure pos := by
    unfold methodCallPos
    rw [hp]
    rfl
  rw [h2]
  rfl
theorem repf_nom {K : PySem.W.Frag} {g : Gh} {H : Hp} {m : Str} (hn : ∀ j, m ≠ nm.at_ j) : ∀ {fs : List (Nat × D)} {vs : List (Str × V)}, Repf K nm g H fs vs → vs.lookup m = none
  | _, _, .nil => rfl
  | (j, _) :: _, _, .cons h t => by
    have e : (m == nm.at_ j) = false := beq_eq_false_iff_ne.mpr (hn j)
    simp only [List.lookup, e]
    exact repf_nom hn t
/-- behind the receiver: its class's method -/
theorem meth_run (C : Ctx T O nm X W) {m : Nat} {α : Type} {R : Gh → Hp → α → V → Prop} {pl : Sem Bool} {x : D} {v : V} {u : Value} {cs : Cells} {g : Gh} {H : Hp} {pins : List (Addr × Obj)} {σ : L2.St} {s : Shared} {k : Nat → Res α} {Q : VK} {Q' : Value × List Value → Shared → Prop}
    (I : L2.Inv X pins σ H s) (co : CsOk X.K nm g H cs) (r : Rep X.K nm g H x v) (rv : RelV v u) (p : Post X.K nm W R g H (match methF T m x cs with
      | some f => k f
      | none => .bad) Q)
    (h : ∀ f, Post X.K nm W R g H (k f) Q → (∃ c, PySem.W.keepIn X.K (.ref (nm.fa f)) = true ∧ methOf T c m = some f) → Q' (.ref (nm.fa f), [u]) s) : wpAny (model X.prog X.w) X.A (getMethod u (nm.mt m) pl) Q' X.xe s := by
  unfold methF at p
  cases q : clsOf x cs with
  | none => rw [q] at p; exact p.elim
  | some c =>
    rw [q] at p
    have p : Post X.K nm W R g H (match methOf T c m with
      | some f => k f
      | none => .bad) Q := p
    cases q2 : methOf T c m with
    | none => rw [q2] at p; exact p.elim
    | some f =>
      rw [q2] at p
      obtain ⟨fs, e⟩ := clsOf_ins q
      obtain ⟨ad, dx, vs, rfl, h1, h2⟩ := view_ins co (.inl r) e
      obtain rfl : u = Value.ref ad := rv
      obtain ⟨kc, hk, M⟩ := methOf_ok C.top q2
      exact getmeth_ok I h1 (C.top.cls c kc hk) M (repf_nom (C.top.mtat m) h2) (h f p ⟨c, M.kp, q2⟩)
theorem d_meth (C : Ctx T O nm X W) {o : Expr} {m : Nat} {ms : Str} {apos : Pos} {fs : Env → Cells → Res (List D)} (hms : nm.mt m = ms) (hb : noSup o = true) (hs : es.any isStar = false) (hl : es.length < 30) (hp : (apos.endLine == pos.line) = true)
    (ho : PE X o (tV X.K nm W fa)) (ha : AC X es (tAs X.K nm W fs)) :
    PE X (.Call (.Attribute o ms apos) es [] pos) (tV X.K nm W fun ρ cs => (fa ρ cs).bind fun x cs => (match methF T m x cs with
    | some f => (fs ρ cs).bind fun ds cs => O false f (x :: ds) cs
    | none => .bad)) := by
  subst hms
  refine ⟨fun pins s σ H Q I h => ?_⟩
  obtain ⟨g, ρ, cs, en, c, p⟩ := h
  refine PySem.W.methodCall_KW (pl := do return (← importBound o X.env).getD true) (thn (ho.run pins s σ H _ I ⟨g, ρ, cs, en, c, Post.bind (R := Rep X.K nm) p⟩) fun u s1 ⟨x, H1, I1, rx, d, g1, cs1, e1, c1, r1, p1⟩ => ?_) (mc_form hb hs hl hp)
  refine meth_run (C := C) I1 c1 r1 rx p1 fun f p2 ⟨cc, hk, _⟩ => ?_
  refine ha (.ref (nm.fa f)) [u] pos pins s1 σ H1 _ hk I1 ⟨g1, ρ, cs1, en.mono e1 c.ok, c1, (Post.bind (R := Reps X.K nm) p2).imp ?_⟩
  rintro vs H2 ⟨ds, g2, cs2, e2, c2, r2, p3⟩ us s2 I2 rv
  exact call_fn C f pins s2 σ H2 (x :: vs) (u :: us) Q I2 (.cons rx rv) ⟨g2, cs2, d :: ds, c2, .cons (r1.mono e2 c1.ok) r2, p3⟩
/-! ### keywords -/
theorem permD_rep {K : PySem.W.Frag} {g : Gh} {H : Hp} {ds : List D} {vs : List V} (r : Reps K nm g H ds vs) : ∀ {perm : List Nat} {es : List D}, permD perm ds = some es → ∃ ys, permD perm vs = some ys ∧ Reps K nm g H es ys
  | [], es, h => by
    simp [permD] at h
    subst h
    exact ⟨[], rfl, .nil⟩
  | i :: p, es, h => by
    simp only [permD] at h
    cases e1 : ds[i]? with
    | none => rw [e1] at h; cases h
    | some d =>
      cases e2 : permD p ds with
      | none => rw [e1, e2] at h; cases h
      | some es' =>
        rw [e1, e2] at h
        cases h
        obtain ⟨v, h1, h2⟩ := r.get e1
        obtain ⟨ys, h3, h4⟩ := permD_rep r e2
        exact ⟨v :: ys, by simp only [permD, h1, h3], .cons h2 h4⟩
theorem permS_get {α : Type} {x : α} {l ys : List α} : ∀ {perm : List Nat}, permD perm l = some ys → permD (perm.map (· + 1)) (x :: l) = some ys
  | [], h => h
  | i :: p, h => by
    simp only [permD] at h
    cases e1 : l[i]? with
    | none => rw [e1] at h; cases h
    | some d =>
      cases e2 : permD p l with
      | none => rw [e1, e2] at h; cases h
      | some es' =>
        rw [e1, e2] at h
        cases h
        have := permS_get (x := x) e2
        simp only [List.map, permD, this, List.getElem?_cons_succ, e1]
def kwNames (kws : List Keyword) : Option (List Str) := match kws with
  | [] => some []
  | ⟨some n, _, _⟩ :: r => (kwNames r).map (n :: ·)
  | _ => none
theorem kwNames_all (pos : Pos) (env : PySem.Env) : ∀ {kws : List Keyword} {ks : List Str}, kwNames kws = some ks → (backToKw pos (keywordEach kws env)).all (·.1.isSome) = true ∧ (backToKw pos (keywordEach kws env)).filterMap (·.1) = ks ∧ (backToKw pos (keywordEach kws env)).any (·.1.isNone) = false ∧ kws.length = ks.length
  | [], ks, h => by
    simp [kwNames] at h
    subst h
    exact ⟨rfl, rfl, rfl, rfl⟩
  | ⟨some n, v, p⟩ :: r, ks, h => by
    simp only [kwNames] at h
    cases e : kwNames r with
    | none => rw [e] at h; cases h
    | some ks' =>
      rw [e] at h
      cases h
      obtain ⟨h1, h2, h3, h4⟩ := kwNames_all pos env e
      unfold backToKw at h1 h2 h3 ⊢
      refine ⟨?_, ?_, ?_, ?_⟩
      · simpa [keywordEach] using h1
      · simpa [keywordEach] using h2
      · simpa [keywordEach] using h3
      · simp [h4]
  | ⟨none, v, p⟩ :: r, ks, h => by simp [kwNames] at h
theorem d_pkNil : PK X [] (tAs X.K nm W fun _ cs => .ok [] cs) := ⟨fun _ _ _ _ H Q I h => by
  obtain ⟨g, ρ, cs, en, c, p⟩ := h
  exact wpAny_evalAll_nil ⟨[], H, I, .nil, Post.ok p c .nil⟩⟩
theorem d_pkCons {kws : List Keyword} {n : Option Str} {kp : Pos} {fs : Env → Cells → Res (List D)} (ha : PE X e (tV X.K nm W fa)) (hr : PK X kws (tAs X.K nm W fs)) :
    PK X (⟨n, e, kp⟩ :: kws) (tAs X.K nm W fun ρ cs => (fa ρ cs).bind fun x cs => (fs ρ cs).bind fun xs cs => .ok (x :: xs) cs) := by
  have z := pk_cons (nm := n) (kpos := kp) ha hr
  refine ⟨fun pos pins s σ H Q I h => z.run pos pins s σ H Q I ?_⟩
  obtain ⟨g, ρ, cs, en, c, p⟩ := h
  refine (fun (z : tG X.K nm W (Rep X.K nm) fa σ H _) => z) ?_
  refine ⟨g, ρ, cs, en, c, (Post.bind (R := Rep X.K nm) p).imp ?_⟩
  rintro x H1 ⟨dx, g1, cs1, e1, c1, r1, p1⟩
  refine ⟨g1, ρ, cs1, en.mono e1 c.ok, c1, (Post.bind (R := Reps X.K nm) p1).imp ?_⟩
  rintro y H2 ⟨dy, g2, cs2, e2, c2, r2, p2⟩
  exact Post.ok p2 c2 (.cons (r1.mono e2 c1.ok) r2)
/-- handing on values and keywords -/
theorem cw_kw {kws : List Keyword} {ks : List Str} {fs fk : Env → Cells → Res (List D)} (hn0 : es = [] → ∀ ρ cs, fs ρ cs = .ok [] cs) (hns : es.any isStar = false) (hk : kwNames kws = some ks) (ha : PA X es (tAs X.K nm W fs)) (hkw : PK X kws (tAs X.K nm W fk))
    {f : Value} {first : List Value} {pos : Pos} {pins : List (Addr × Obj)} {s : Shared} {σ : L2.St} {H : Hp} {Q : Value → Shared → Prop} (hkp : PySem.W.keepIn X.K f = true) (I : L2.Inv X pins σ H s)
    (q : tAs X.K nm W fs σ H fun vs H1 => tAs X.K nm W fk σ H1 fun zs H2 => ∀ us ws s1, L2.Inv X pins σ H2 s1 → Vals vs us → Vals zs ws → wpAny (model X.prog X.w) X.A (call f (first ++ us) (ks.zip ws)) Q X.xe s1) :
    wpAny (model X.prog X.w) X.A (callWith pos f first (backTo pos (starEach es X.env)) (backToKw pos (keywordEach kws X.env))) Q X.xe s := by
  obtain ⟨hall, hks, hno, _⟩ := kwNames_all pos X.env hk
  cases es with
  | nil =>
    obtain ⟨g, ρ, cs, en, c, p⟩ := q
    rw [hn0 rfl] at p
    refine PySem.W.callWith_KW0 (h₀ := X.base) I.ok.mod.kin hkp hall (thn (hkw.run pos pins s σ H _ I (Post.ok p c .nil)) ?_) (by rw [hno]; rfl)
    rintro ws s2 ⟨zs, H2, I2, rz, q2⟩
    exact ⟨I2.kIn, by rw [hks]; exact q2 [] ws s2 I2 .nil rz⟩
  | cons e es =>
    have hn : isStar e = false := by
      simp at hns
      exact hns.1
    have he : starEach (e :: es) X.env = (false, eval e X.env) :: starEach es X.env := star_not (isStar_not hn)
    refine PySem.W.callWith_KW (h₀ := X.base) I.ok.mod.kin hkp hall (thn (ha.run pos pins s σ H _ I q) ?_) (by rw [any_star, hns, hno]; rfl) he
    rintro us s1 ⟨vs, H1, I1, r, q1⟩
    refine thn (hkw.run pos pins s1 σ H1 _ I1 q1) ?_
    rintro ws s2 ⟨zs, H2, I2, rz, q2⟩
    exact ⟨I2.kIn, by rw [hks]; exact q2 us ws s2 I2 r rz⟩
theorem mc_formK {o : Expr} {m : Str} {apos pos : Pos} {env : PySem.Env} {kws : List Keyword} {ks : List Str} (hk : kwNames kws = some ks) (hb : noSup o = true) (hs : es.any isStar = false) (hl : es.length + kws.length < 29) (hp : (apos.endLine == pos.line) = true) : eval (.Call (.Attribute o m apos) es kws pos) env = (do
      let ov ← eval o env
      standAt apos.atName
      let (f, first) ← holding [ov] (getMethod ov m (do return (← importBound o env).getD true))
      callWith pos f first (backTo pos (starEach es env)) (backToKw pos (keywordEach kws env))) := by
  refine mcall_of (noSup_base hb) fun ov => ?_
  have hall : (backTo pos (starEach es env)).all (fun x => !x.1) = true := by
    have := any_star pos env es
    rw [hs] at this
    rw [List.all_eq_not_any_not]
    simp only [Bool.not_not]
    rw [this]
    rfl
  have hf : methodCallForm (es.length + kws.length) (backTo pos (starEach es env)) (backToKw pos (keywordEach kws env)) = true := by
    unfold methodCallForm
    rw [hall, (kwNames_all pos env hk).1]
    simp only [Bool.true_and, decide_eq_true_eq]
    split <;> omega
  unfold methodCall
  rw [hf]
  have h2 : methodCallPos true o env apos pos = pure pos := by
    unfold methodCallPos
    rw [hp]
    rfl
  rw [h2]
  rfl
/-- the callee runs, called with keywords -/
theorem run_fnK {CX : CXT} {k n : Nat} {f : Addr} {ks : List Str} {perm : List Nat} {dvs : List V} {sp : Sp} {E : XK} {Q : VK} {us ws : List Value} {vs zs ys : List V} {pins : List (Addr × Obj)} {s : Shared} {σ : L2.St} {H : Hp} (F : FnK X.prog X.w X.K X.mg X.base CX k f n ks perm dvs sp) (hr : Room k X.A) (hx : Passes CX X E) (I : L2.Inv X pins σ H s)
    (r : Vals vs us) (rz : Vals zs ws) (h1 : vs.length = n) (h2 : zs.length = ks.length) (h3 : permD perm (vs ++ zs ++ dvs) = some ys) (h : sp ys H Q E) : wpAny (model X.prog X.w) X.A (call (.ref f) us (ks.zip ws)) (EP X pins σ Q) X.xe s := by
  refine wpAny_call (codeAny_mono (F X.A X.stack s H us ws vs zs ys Q E hr I.env0 r rz h1 h2 h3 h) fun r s' hq => ?_)
  cases r with
  | error e => exact hx pins σ H s e s' I hq
  | ok fl =>
    cases fl with
    | ret u => exact I.after hq
    | next => exact False.elim hq
    | brk => exact False.elim hq
    | cont => exact False.elim hq
theorem permD_app {α : Type} {l m : List α} : ∀ {perm : List Nat}, permD perm l = none ∨ True := fun {_} => .inr True.intro
theorem d_methk (C : Ctx T O nm X W) {o : Expr} {m n : Nat} {ms : Str} {apos : Pos} {kws : List Keyword} {ks : List Str} {perm : List Nat} {fs fk : Env → Cells → Res (List D)} (hms : nm.mt m = ms) (hb : noSup o = true) (hs : es.any isStar = false) (hl : es.length + kws.length < 29) (hp : (apos.endLine == pos.line) = true)
    (hn0 : es = [] → ∀ ρ cs, fs ρ cs = .ok [] cs) (hk : kwNames kws = some ks) (hlen : ∀ ρ cs ds cs', fs ρ cs = .ok ds cs' → ds.length = n) (hlk : ∀ ρ cs ds cs', fk ρ cs = .ok ds cs' → ds.length = ks.length)
    (hkw : ∀ c f, methOf T c m = some f → nm.kw f (n + 1) ks (permS perm) = true)
    (ho : PE X o (tV X.K nm W fa)) (ha : PA X es (tAs X.K nm W fs)) (hkk : PK X kws (tAs X.K nm W fk)) :
    PE X (.Call (.Attribute o ms apos) es kws pos) (tV X.K nm W fun ρ cs => (fa ρ cs).bind fun x cs => (match methF T m x cs with
    | some f => (fs ρ cs).bind fun ds cs => (fk ρ cs).bind fun ks cs => (match permD perm (ds ++ ks ++ dflT T f) with
      | some es => O false f (x :: es) cs
      | none => .bad)
    | none => .bad)) := by
  subst hms
  refine ⟨fun pins s σ H Q I h => ?_⟩
  obtain ⟨g, ρ, cs, en, c, p⟩ := h
  refine PySem.W.methodCall_KW (pl := do return (← importBound o X.env).getD true) (thn (ho.run pins s σ H _ I ⟨g, ρ, cs, en, c, Post.bind (R := Rep X.K nm) p⟩) fun u s1 ⟨x, H1, I1, rx, d, g1, cs1, e1, c1, r1, p1⟩ => ?_) (mc_formK hk hb hs hl hp)
  refine meth_run (C := C) I1 c1 r1 rx p1 fun f p2 ⟨cc, hkp, hm⟩ => ?_
  obtain ⟨CX, nn, hr, hx, hxn, hF, hN, hK, _⟩ := C.fns.ex
  obtain ⟨dvs, hdv, hK⟩ := hK f (n + 1) ks (permS perm) (hkw cc f hm)
  have en1 := en.mono e1 c.ok
  refine cw_kw hn0 hs hk ha hkk hkp I1 ?_
  refine ⟨g1, ρ, cs1, en1, c1, ?_⟩
  cases h1 : fs ρ cs1 with
  | bad => rw [h1] at p2; exact p2.elim
  | exc ee cs2 => rw [h1] at p2; exact p2
  | ok ds cs2 =>
    have l1 := hlen ρ cs1 ds cs2 h1
    rw [h1] at p2
    have p2 : Post X.K nm W (Rep X.K nm) g1 H1 ((fk ρ cs2).bind fun ks cs => (match permD perm (ds ++ ks ++ dflT T f) with
      | some es => O false f (d :: es) cs
      | none => .bad)) Q := p2
    intro vs g2 H2 e2 c2 r2
    refine ⟨g2, ρ, cs2, en1.mono e2 c1.ok, c2, ?_⟩
    have p2 := Post.mono p2 e2
    cases h2 : fk ρ cs2 with
    | bad => rw [h2] at p2; exact p2.elim
    | exc ee cs3 => rw [h2] at p2; exact p2
    | ok zs cs3 =>
      have l2 := hlk ρ cs2 zs cs3 h2
      rw [h2] at p2
      have p2 : Post X.K nm W (Rep X.K nm) g2 H2 (match permD perm (ds ++ zs ++ dflT T f) with
        | some es => O false f (d :: es) cs3
        | none => .bad) Q := p2
      intro vz g3 H3 e3 c3 r3 us ws s3 I3 rv rz
      cases h3 : permD perm (ds ++ zs ++ dflT T f) with
      | none => rw [h3] at p2; exact p2.elim
      | some es3 =>
        rw [h3] at p2
        have r2' := r2.mono e3 c2.ok
        obtain ⟨ys, y1, y2⟩ := permD_rep ((r2'.append r3).append (hdv g3 H3)) h3
        have y3 : permD (permS perm) (x :: (vs ++ vz ++ dvs)) = some (x :: ys) := by
          simp only [permS, permD, List.getElem?_cons_zero, permS_get y1]
        refine run_fnK (vs := x :: vs) (us := u :: us) (zs := vz) (ys := x :: ys) hK (hr.mono (Nat.le_add_right nn 3)) hx I3 (.cons rx rv) rz (by rw [List.length_cons, ← r2'.length, l1]) (by rw [← r3.length, l2]) y3 ?_
        exact ⟨rfl, g3, cs3, d :: es3, c3, .cons (((r1.mono e2 c1.ok).mono e3 c2.ok)) y2, Post.mono p2 e3⟩
end
end Dv
end
section
set_option Elab.async false
set_option linter.all false
set_option maxRecDepth 100000
set_option maxHeartbeats 4000000
namespace Dv
open PySem PySem.Spec PyProof.Rows L2
section
variable {T : Tab} {O : Orc} {nm : Nm} {X : Cx} {W : XK} {a b c e : Expr} {es : List Expr} {fa fb fc : Env → Cells → Res D} {pos : Pos} {na nb nc : Den}
/-! ### built-in functions -/
def rB (T : Tab) (O : Orc) (X : Cx) (nm : Nm) (W : XK) (b : Blt) : List V → Hp → VK → Prop := fun vs H Q => ∃ g cs ds, CsOk X.K nm g H cs ∧ BReps X.K nm g H ds vs ∧ Post X.K nm W (Rep X.K nm) g H (bltD T O b ds cs) Q
theorem brep1 {K : PySem.W.Frag} {g : Gh} {H : Hp} {d : D} {vs : List V} (h : BReps K nm g H [d] vs) : ∃ v, vs = [v] ∧ BRep K nm g H d v := by
  cases h with
  | cons h t => cases t; exact ⟨_, rfl, h⟩
theorem brep2 {K : PySem.W.Frag} {g : Gh} {H : Hp} {d e : D} {vs : List V} (h : BReps K nm g H [d, e] vs) : ∃ v u, vs = [v, u] ∧ BRep K nm g H d v ∧ BRep K nm g H e u := by
  cases h with
  | cons h t =>
    obtain ⟨u, rfl, r⟩ := brep1 t
    exact ⟨_, _, rfl, h, r⟩
theorem b_len (C : Ctx T O nm X W) : CallR X (.builtin "len") (rB T O X nm W .len) := by
  intro pins s σ H xs us Q I r ⟨g, cs, ds, co, rs, p⟩
  match ds, rs, p with
  | [d], rs, p =>
    obtain ⟨v, rfl, rd⟩ := brep1 rs
    have p : Post X.K nm W (Rep X.K nm) g H (bLen T O [d] cs) Q := p
    simp only [bLen] at p
    cases q : deref d cs with
    | tup es =>
      rw [q] at p
      obtain ⟨a, vs, rfl, h1, h2⟩ := view_tup rd q
      refine call_len pins s σ H _ us Q I r ⟨_, vs.length, rfl, .inr ⟨vs, h1, rfl⟩, ?_⟩
      rw [← h2.length]
      exact Post.ok p co (.int _)
    | lst es =>
      rw [q] at p
      obtain ⟨a, vs, rfl, h1, h2⟩ := view_lst co rd q
      refine call_len pins s σ H _ us Q I r ⟨_, vs.length, rfl, .inl ⟨vs, .of h1, rfl⟩, ?_⟩
      rw [← h2.length]
      exact Post.ok p co (.int _)
    | str x =>
      rw [q] at p
      have e := view_str rd (deref_id q (fun _ z => nomatch z) (fun _ _ z => nomatch z) (fun _ z => nomatch z))
      subst e
      have p : Post X.K nm W (Rep X.K nm) g H (if x.length ≤ sizeLine then .ok (.int x.length) cs else .bad) Q := p
      split at p
      · rename_i hz
        exact call_len pins s σ H _ us Q I r ⟨_, x.length, rfl, ⟨hz, rfl⟩, Post.ok p co (.int _)⟩
      · exact p.elim
    | ins cc fs =>
      rw [q] at p
      have rd : Rep X.K nm g H d v := rd.rep fun ds e => by subst e; simp [deref] at q
      have p := Post.bind (R := Rep X.K nm) (S := Rep X.K nm) p
      obtain ⟨c', fs', f, e, e2, p⟩ := callM_post p
      obtain ⟨k, hk, M⟩ := methOf_ok C.top e2
      obtain ⟨u, rfl, r1⟩ := vals1 r
      obtain ⟨ad, ox, od, rfl, J, _⟩ := inst_at I co (.inl rd) r1 e
      obtain ⟨mm, F⟩ := I.fr
      refine PySem.W.len_K F I.ok.mod.kin J (by rw [← C.top.dn.2.2.2.2.1]; exact M.at_) M.fn ?_
      refine wpAny_mono (C.calls f _ pins s σ H [.ref ad] [v] [d] cs g _ (.inr (.inl rfl)) I (.cons r1 .nil) co (.cons rd .nil) p) ?_ fun _ _ z => z
      rintro rv s' ⟨w, H', I', rw', dd, g1, cs1, e1, c1, rd1, p1⟩
      cases dd with
      | int n =>
        cases rd1
        obtain ⟨t, rfl⟩ := rw'
        have p1 : Post X.K nm W (Rep X.K nm) g1 H' (if okLen n = true then .ok (.int n) cs1 else .bad) Q := p1
        split at p1
        · rename_i hz
          exact ⟨okLen_iff.mp hz, .int n, H', I'.tok _, ⟨_, rfl⟩, Post.ok p1 c1 (.int _)⟩
        · exact p1.elim
      | _ => exact p1.elim
    | _ => rw [q] at p; exact p.elim
  | [], _, p => exact p.elim
  | _ :: _ :: _, _, p => exact p.elim
theorem b_int (C : Ctx T O nm X W) : CallR X (.type "int") (rB T O X nm W .int) := by
  intro pins s σ H xs us Q I r ⟨g, cs, ds, co, rs, p⟩
  match ds, rs, p with
  | [.int i], rs, p =>
    obtain ⟨v, rfl, rd⟩ := brep1 rs
    have e := view_int rd rfl
    subst e
    exact call_int1 pins s σ H _ us Q I r (.inl ⟨i, rfl, Post.ok p co (.int _)⟩)
  | [.bl i], rs, p =>
    obtain ⟨v, rfl, rd⟩ := brep1 rs
    have e := view_bl rd rfl
    subst e
    exact call_int1 pins s σ H _ us Q I r (.inr ⟨i, rfl, Post.ok p co (.int _)⟩)
  | [.str z], rs, p =>
    obtain ⟨v, rfl, rd⟩ := brep1 rs
    have e := view_str rd rfl
    subst e
    have p : Post X.K nm W (Rep X.K nm) g H (if z.length ≤ 640 then ofRes cs ((PySem.intText? z).map .int) else .bad) Q := p
    split at p
    · rename_i hz
      cases q3 : PySem.intText? z with
      | none => rw [q3] at p; exact p.elim
      | some n =>
        rw [q3] at p
        exact call_int_str pins s σ H _ us Q I r ⟨z, n, rfl, q3, hz, Post.ok p co (.int _)⟩
    · exact p.elim
  | [], _, p => exact p.elim
  | d :: _ :: _, _, p => cases d <;> exact p.elim
  | [.non], _, p => exact p.elim
  | [.tup _], _, p => exact p.elim
  | [.lst _], _, p => exact p.elim
  | [.dic _], _, p => exact p.elim
  | [.ins _ _], _, p => exact p.elim
  | [.cell _], _, p => exact p.elim
  | [.cls _], _, p => exact p.elim
  | [.scr _], _, p => exact p.elim
theorem b_str (C : Ctx T O nm X W) : CallR X (.type "str") (rB T O X nm W .str) := by
  intro pins s σ H xs us Q I r ⟨g, cs, ds, co, rs, p⟩
  match ds, rs, p with
  | [.int i], rs, p =>
    obtain ⟨v, rfl, rd⟩ := brep1 rs
    have e := view_int rd rfl
    subst e
    have p : Post X.K nm W (Rep X.K nm) g H (if i.natAbs.log2 < 1920 then .ok (.str (toString i)) cs else .bad) Q := p
    split at p
    · rename_i hz
      exact call_str_int pins s σ H _ us Q I r ⟨i, rfl, hz, Post.ok p co (.str _)⟩
    · exact p.elim
  | [.ins c fs], rs, p =>
    obtain ⟨v, rfl, rd⟩ := brep1 rs
    have rd : Rep X.K nm g H (.ins c fs) v := rd.rep fun ds e => nomatch e
    have p : Post X.K nm W (Rep X.K nm) g H ((callM T O nStr (.ins c fs) [] cs).bind fun r cs => (match r with
      | .str x => .ok (.str x) cs
      | _ => .bad)) Q := p
    have p := Post.bind (R := Rep X.K nm) (S := Rep X.K nm) p
    obtain ⟨c', fs', f, e, e2, p⟩ := callM_post p
    obtain ⟨k, hk, M⟩ := methOf_ok C.top e2
    obtain ⟨u, rfl, r1⟩ := vals1 r
    obtain ⟨ad, ox, od, rfl, J, _⟩ := inst_at I co (.inl rd) r1 e
    refine PySem.W.kso_call (by have := C.room.un; show X.A.units + 1 + 1 < cLine; omega) I.kIn J (by rw [← C.top.dn.2.2.2.1]; exact M.at_) M.fn ?_
    refine wpAny_mono (C.calls f _ pins s σ H [.ref ad] [v] [.ins c fs] cs g _ (.inr (.inr rfl)) I (.cons r1 .nil) co (.cons rd .nil) p) ?_ fun _ _ z => z
    rintro rv s' ⟨w, H', I', rw', dd, g1, cs1, e1, c1, rd1, p1⟩
    cases dd with
    | str n =>
      cases rd1
      obtain ⟨t, rfl⟩ := rw'
      exact ⟨.str n, H', I', ⟨_, rfl⟩, Post.ok p1 c1 (.str _)⟩
    | _ => exact p1.elim
  | [], _, p => exact p.elim
  | d :: _ :: _, _, p => cases d <;> exact p.elim
  | [.non], _, p => exact p.elim
  | [.str _], _, p => exact p.elim
  | [.tup _], _, p => exact p.elim
  | [.lst _], _, p => exact p.elim
  | [.dic _], _, p => exact p.elim
  | [.bl _], _, p => exact p.elim
  | [.cell _], _, p => exact p.elim
  | [.cls _], _, p => exact p.elim
  | [.scr _], _, p => exact p.elim
theorem b_sum (C : Ctx T O nm X W) : CallR X (.builtin "sum") (rB T O X nm W .sum) := by
  intro pins s σ H xs us Q I r ⟨g, cs, ds, co, rs, p⟩
  match ds, rs, p with
  | [d], rs, p =>
    obtain ⟨v, rfl, rd⟩ := brep1 rs
    have p : Post X.K nm W (Rep X.K nm) g H (bSum [d] cs) Q := p
    simp only [bSum] at p
    cases q : deref d cs with
    | lst es =>
      rw [q] at p
      have p : Post X.K nm W (Rep X.K nm) g H (ofRes cs ((intsD es).map fun ns => .int ns.sum)) Q := p
      cases q2 : intsD es with
      | none => rw [q2] at p; exact p.elim
      | some ns =>
        rw [q2] at p
        obtain ⟨a, vs, rfl, h1, h2⟩ := view_lst co rd q
        have e := h2.intsD q2
        subst e
        exact cr_sum C.calm pins s σ H _ us Q I r ⟨a, ns, rfl, .of h1, Post.ok p co (.int _)⟩
    | _ => rw [q] at p; exact p.elim
  | [], _, p => exact p.elim
  | _ :: _ :: _, _, p => exact p.elim
theorem b_all (C : Ctx T O nm X W) : CallR X (.builtin "all") (rB T O X nm W .all) := by
  intro pins s σ H xs us Q I r ⟨g, cs, ds, co, rs, p⟩
  match ds, rs, p with
  | [d], rs, p =>
    obtain ⟨v, rfl, rd⟩ := brep1 rs
    have p : Post X.K nm W (Rep X.K nm) g H (bAll [d] cs) Q := p
    simp only [bAll] at p
    cases q : deref d cs with
    | lst es =>
      rw [q] at p
      have p : Post X.K nm W (Rep X.K nm) g H (ofRes cs ((boolsD es).map fun ns => .bl (ns.all id))) Q := p
      cases q2 : boolsD es with
      | none => rw [q2] at p; exact p.elim
      | some ns =>
        rw [q2] at p
        obtain ⟨a, vs, rfl, h1, h2⟩ := view_lst co rd q
        have e := h2.boolsD q2
        subst e
        exact cr_all C.calm pins s σ H _ us Q I r ⟨a, ns, rfl, .of h1, Post.ok p co (.bl _)⟩
    | _ => rw [q] at p; exact p.elim
  | [], _, p => exact p.elim
  | _ :: _ :: _, _, p => exact p.elim
theorem b_any (C : Ctx T O nm X W) : CallR X (.builtin "any") (rB T O X nm W .any) := by
  intro pins s σ H xs us Q I r ⟨g, cs, ds, co, rs, p⟩
  match ds, rs, p with
  | [d], rs, p =>
    obtain ⟨v, rfl, rd⟩ := brep1 rs
    have p : Post X.K nm W (Rep X.K nm) g H (bAny [d] cs) Q := p
    simp only [bAny] at p
    cases q : deref d cs with
    | lst es =>
      rw [q] at p
      have p : Post X.K nm W (Rep X.K nm) g H (ofRes cs ((boolsD es).map fun ns => .bl (ns.any id))) Q := p
      cases q2 : boolsD es with
      | none => rw [q2] at p; exact p.elim
      | some ns =>
        rw [q2] at p
        obtain ⟨a, vs, rfl, h1, h2⟩ := view_lst co rd q
        have e := h2.boolsD q2
        subst e
        exact cr_any C.calm pins s σ H _ us Q I r ⟨a, ns, rfl, .of h1, Post.ok p co (.bl _)⟩
    | _ => rw [q] at p; exact p.elim
  | [], _, p => exact p.elim
  | _ :: _ :: _, _, p => exact p.elim
theorem b_abs (C : Ctx T O nm X W) : CallR X (.builtin "abs") (rB T O X nm W .abs) := by
  intro pins s σ H xs us Q I r ⟨g, cs, ds, co, rs, p⟩
  match ds, rs, p with
  | [.int i], rs, p =>
    obtain ⟨v, rfl, rd⟩ := brep1 rs
    have e := view_int rd rfl
    subst e
    exact call_abs pins s σ H _ us Q I r ⟨i, rfl, Post.ok p co (.int _)⟩
  | [], _, p => exact p.elim
  | d :: _ :: _, _, p => cases d <;> exact p.elim
  | [.non], _, p => exact p.elim
  | [.str _], _, p => exact p.elim
  | [.tup _], _, p => exact p.elim
  | [.lst _], _, p => exact p.elim
  | [.dic _], _, p => exact p.elim
  | [.ins _ _], _, p => exact p.elim
  | [.bl _], _, p => exact p.elim
  | [.cell _], _, p => exact p.elim
  | [.cls _], _, p => exact p.elim
  | [.scr _], _, p => exact p.elim
theorem b_tuple (C : Ctx T O nm X W) : CallR X (.type "tuple") (rB T O X nm W .tuple) := by
  intro pins s σ H xs us Q I r ⟨g, cs, ds, co, rs, p⟩
  match ds, rs, p with
  | [d], rs, p =>
    obtain ⟨v, rfl, rd⟩ := brep1 rs
    have p : Post X.K nm W (Rep X.K nm) g H (ofRes cs ((seqOf d cs).map .tup)) Q := p
    unfold seqOf at p
    cases q : deref d cs with
    | lst es =>
      rw [q] at p
      obtain ⟨a, vs, rfl, h1, h2⟩ := view_lst co rd q
      exact call_tuple_of pins s σ H _ us Q I r ⟨a, vs, rfl, .inl ⟨.of h1, fun l hl => new_tup co h2 hl p⟩⟩
    | tup es =>
      rw [q] at p
      obtain ⟨a, vs, rfl, h1, h2⟩ := view_tup rd q
      exact call_tuple_of pins s σ H _ us Q I r ⟨a, vs, rfl, .inr ⟨h1, Post.ok p co (tup_rep rd q)⟩⟩
    | _ => rw [q] at p; exact p.elim
  | [], _, p => exact p.elim
  | _ :: _ :: _, _, p => exact p.elim
theorem b_list (C : Ctx T O nm X W) : CallR X (.type "list") (rB T O X nm W .list) := by
  intro pins s σ H xs us Q I r ⟨g, cs, ds, co, rs, p⟩
  match ds, rs, p with
  | [d], rs, p =>
    obtain ⟨v, rfl, rd⟩ := brep1 rs
    have p : Post X.K nm W (Rep X.K nm) g H (ofRes cs ((seqOf d cs).map .lst)) Q := p
    unfold seqOf at p
    cases q : deref d cs with
    | lst es =>
      rw [q] at p
      obtain ⟨a, vs, rfl, h1, h2⟩ := view_lst co rd q
      exact call_list_of pins s σ H _ us Q I r ⟨a, vs, rfl, .inl (.of h1), fun l hl => new_lst co h2 hl p⟩
    | tup es =>
      rw [q] at p
      obtain ⟨a, vs, rfl, h1, h2⟩ := view_tup rd q
      exact call_list_of pins s σ H _ us Q I r ⟨a, vs, rfl, .inr h1, fun l hl => new_lst co h2 hl p⟩
    | _ => rw [q] at p; exact p.elim
  | [], _, p => exact p.elim
  | _ :: _ :: _, _, p => exact p.elim
theorem reps_ints {K : PySem.W.Frag} {nm : Nm} {g : Gh} {H : Hp} : ∀ ns : List Int, Reps K nm g H (ns.map D.int) (ns.map V.int)
  | [] => .nil
  | n :: ns => .cons (.int n) (reps_ints ns)
theorem sort_of {ns ns' : List Int} (h1 : ns'.Perm ns) (h2 : ns'.Pairwise (· ≤ ·)) : ns' = ns.mergeSort fun a b => decide (a ≤ b) := by
  refine List.Perm.eq_of_pairwise (le := (· ≤ ·)) (fun a b _ _ h1 h2 => by omega) h2 ?_ (h1.trans (List.mergeSort_perm ns _).symm)
  have := List.pairwise_mergeSort (le := fun a b : Int => decide (a ≤ b)) (fun a b c h1 h2 => by simp at *; omega) (fun a b => by simp; omega) ns
  exact this.imp fun h => by simpa using h
theorem b_sorted (C : Ctx T O nm X W) : CallR X (.builtin "sorted") (rB T O X nm W .sorted) := by
  intro pins s σ H xs us Q I r ⟨g, cs, ds, co, rs, p⟩
  match ds, rs, p with
  | [d], rs, p =>
    obtain ⟨v, rfl, rd⟩ := brep1 rs
    have p : Post X.K nm W (Rep X.K nm) g H (bSorted [d] cs) Q := p
    simp only [bSorted] at p
    cases q : deref d cs with
    | lst es =>
      rw [q] at p
      have p : Post X.K nm W (Rep X.K nm) g H (ofRes cs ((intsD es).map fun ns => .lst ((ns.mergeSort fun a b => decide (a ≤ b)).map .int))) Q := p
      cases q2 : intsD es with
      | none => rw [q2] at p; exact p.elim
      | some ns =>
        rw [q2] at p
        obtain ⟨a, vs, rfl, h1, h2⟩ := view_lst co rd q
        have e := h2.intsD q2
        subst e
        refine cr_sortedI pins s σ H _ us Q I r ⟨a, ns, rfl, .of h1, fun ns' l k1 k2 hl => ?_⟩
        rw [sort_of k1 k2]
        exact new_lst co (reps_ints _) hl p
    | _ => rw [q] at p; exact p.elim
  | [], _, p => exact p.elim
  | _ :: _ :: _, _, p => exact p.elim
theorem b_max (C : Ctx T O nm X W) : CallR X (.builtin "max") (rB T O X nm W .max) := by
  intro pins s σ H xs us Q I r ⟨g, cs, ds, co, rs, p⟩
  match ds, rs, p with
  | [d], rs, p =>
    obtain ⟨v, rfl, rd⟩ := brep1 rs
    have p : Post X.K nm W (Rep X.K nm) g H (bBest (fun ns => ns.max?) [d] cs) Q := p
    simp only [bBest] at p
    cases q : deref d cs with
    | lst es =>
      rw [q] at p
      have p : Post X.K nm W (Rep X.K nm) g H (ofRes cs (((intsD es).bind fun ns => ns.max?).map .int)) Q := p
      cases q2 : intsD es with
      | none => rw [q2] at p; exact p.elim
      | some ns =>
        rw [q2] at p
        have p : Post X.K nm W (Rep X.K nm) g H (ofRes cs ((ns.max?).map .int)) Q := p
        obtain ⟨a, vs, rfl, h1, h2⟩ := view_lst co rd q
        have e := h2.intsD q2
        subst e
        cases q3 : ns.max? with
        | none => rw [q3] at p; exact p.elim
        | some m0 =>
          rw [q3] at p
          have hp : 0 < ns.length := by cases ns with
            | nil => cases q3
            | cons _ _ => simp
          refine cr_max C.calm pins s σ H _ us Q I r ⟨a, ns, rfl, .of h1, hp, fun m k1 k2 => ?_⟩
          have e : ns.max? = some m := List.max?_eq_some_iff.mpr ⟨k1, k2⟩
          rw [q3] at e
          cases e
          exact Post.ok p co (.int _)
    | _ => rw [q] at p; exact p.elim
  | [], _, p => exact p.elim
  | _ :: _ :: _, _, p => exact p.elim
theorem b_min (C : Ctx T O nm X W) : CallR X (.builtin "min") (rB T O X nm W .min) := by
  intro pins s σ H xs us Q I r ⟨g, cs, ds, co, rs, p⟩
  match ds, rs, p with
  | [d], rs, p =>
    obtain ⟨v, rfl, rd⟩ := brep1 rs
    have p : Post X.K nm W (Rep X.K nm) g H (bBest (fun ns => ns.min?) [d] cs) Q := p
    simp only [bBest] at p
    cases q : deref d cs with
    | lst es =>
      rw [q] at p
      have p : Post X.K nm W (Rep X.K nm) g H (ofRes cs (((intsD es).bind fun ns => ns.min?).map .int)) Q := p
      cases q2 : intsD es with
      | none => rw [q2] at p; exact p.elim
      | some ns =>
        rw [q2] at p
        have p : Post X.K nm W (Rep X.K nm) g H (ofRes cs ((ns.min?).map .int)) Q := p
        obtain ⟨a, vs, rfl, h1, h2⟩ := view_lst co rd q
        have e := h2.intsD q2
        subst e
        cases q3 : ns.min? with
        | none => rw [q3] at p; exact p.elim
        | some m0 =>
          rw [q3] at p
          have hp : 0 < ns.length := by cases ns with
            | nil => cases q3
            | cons _ _ => simp
          refine cr_min C.calm pins s σ H _ us Q I r ⟨a, ns, rfl, .of h1, hp, fun m k1 k2 => ?_⟩
          have e : ns.min? = some m := List.min?_eq_some_iff.mpr ⟨k1, k2⟩
          rw [q3] at e
          cases e
          exact Post.ok p co (.int _)
    | _ => rw [q] at p; exact p.elim
  | [], _, p => exact p.elim
  | _ :: _ :: _, _, p => exact p.elim
theorem b_two {f : Int → Int → Int} {bb : Blt} {id : String} (h : CallR X (.builtin id) (fun xs H Q => ∃ i j, xs = [.int i, .int j] ∧ Q (.int (f i j)) H)) (e : ∀ ds cs, bltD T O bb ds cs = bTwo f ds cs) : CallR X (.builtin id) (rB T O X nm W bb) := by
  intro pins s σ H xs us Q I r ⟨g, cs, ds, co, rs, p⟩
  rw [e] at p
  by_cases z : ∃ i j, ds = [.int i, .int j]
  · obtain ⟨i, j, rfl⟩ := z
    obtain ⟨v, u, rfl, r1, r2⟩ := brep2 rs
    have e3 := view_int r1 rfl
    have e4 := view_int r2 rfl
    subst e3 e4
    exact h pins s σ H _ us Q I r ⟨i, j, rfl, Post.ok p co (.int _)⟩
  · unfold bTwo at p
    split at p
    · exact absurd ⟨_, _, rfl⟩ z
    · exact p.elim
theorem b_max2 (C : Ctx T O nm X W) : CallR X (.builtin "max") (rB T O X nm W .max2) := b_two (call_max2 C.calm) fun ds cs => rfl
theorem b_min2 (C : Ctx T O nm X W) : CallR X (.builtin "min") (rB T O X nm W .min2) := b_two (call_min2 C.calm) fun ds cs => rfl
end
end Dv
end
section
set_option Elab.async false
set_option linter.all false
set_option maxRecDepth 100000
set_option maxHeartbeats 4000000
namespace Dv
open PySem PySem.Spec PyProof.Rows L2
section
variable {T : Tab} {O : Orc} {nm : Nm} {X : Cx} {W : XK} {a b c e : Expr} {es : List Expr} {fa fb fc : Env → Cells → Res D} {pos : Pos} {na nb nc : Den}
/-! ### isinstance -/
def tyTV (nm : Nm) : Ty → Value
  | .int => .type "int"
  | .bool => .type "bool"
  | .str => .type "str"
  | .list => .type "list"
  | .tuple => .type "tuple"
  | .dict => .type "dict"
  | .cls c => .ref (nm.ca c)
def tyVV (nm : Nm) : Ty → V
  | .int => .ty "int"
  | .bool => .ty "bool"
  | .str => .ty "str"
  | .list => .ty "list"
  | .tuple => .ty "tuple"
  | .dict => .ty "dict"
  | .cls c => .ref (nm.ca c)
theorem cls_ty (nm : Nm) (t : Ty) : ClsV (tyVV nm t) (tyTV nm t) := by
  cases t <;> first | exact .ty _ | exact .own _
theorem kb_none : kitB "NoneType" "int" = some false ∧ kitB "NoneType" "bool" = some false ∧ kitB "NoneType" "str" = some false ∧ kitB "NoneType" "list" = some false ∧ kitB "NoneType" "tuple" = some false ∧ kitB "NoneType" "dict" = some false := by decide +kernel
theorem kb_bool : kitB "bool" "int" = some true ∧ kitB "bool" "bool" = some true ∧ kitB "bool" "str" = some false ∧ kitB "bool" "list" = some false ∧ kitB "bool" "tuple" = some false ∧ kitB "bool" "dict" = some false := by decide +kernel
theorem kb_int : kitB "int" "int" = some true ∧ kitB "int" "bool" = some false ∧ kitB "int" "str" = some false ∧ kitB "int" "list" = some false ∧ kitB "int" "tuple" = some false ∧ kitB "int" "dict" = some false := by decide +kernel
theorem kb_str : kitB "str" "int" = some false ∧ kitB "str" "bool" = some false ∧ kitB "str" "str" = some true ∧ kitB "str" "list" = some false ∧ kitB "str" "tuple" = some false ∧ kitB "str" "dict" = some false := by decide +kernel
theorem kb_tuple : kitB "tuple" "int" = some false ∧ kitB "tuple" "bool" = some false ∧ kitB "tuple" "str" = some false ∧ kitB "tuple" "list" = some false ∧ kitB "tuple" "tuple" = some true ∧ kitB "tuple" "dict" = some false := by decide +kernel
theorem kb_list : kitB "list" "int" = some false ∧ kitB "list" "bool" = some false ∧ kitB "list" "str" = some false ∧ kitB "list" "list" = some true ∧ kitB "list" "tuple" = some false ∧ kitB "list" "dict" = some false := by decide +kernel
theorem kb_dict : kitB "dict" "int" = some false ∧ kitB "dict" "bool" = some false ∧ kitB "dict" "str" = some false ∧ kitB "dict" "list" = some false ∧ kitB "dict" "tuple" = some false ∧ kitB "dict" "dict" = some true := by decide +kernel
theorem kb_all {K : PySem.W.Frag} {s : String} {r : Ty → Bool} (h : kitB s "int" = some (r .int) ∧ kitB s "bool" = some (r .bool) ∧ kitB s "str" = some (r .str) ∧ kitB s "list" = some (r .list) ∧ kitB s "tuple" = some (r .tuple) ∧ kitB s "dict" = some (r .dict))
    (hc : ∀ c, (T.cls[c]?).isSome = true → PySem.W.kitOne K (.type s) (.ref (nm.ca c)) = some (r (.cls c))) (t : Ty) (ht : tyThere T t = true) : PySem.W.kitOne K (.type s) (tyTV nm t) = some (r t) := by
  obtain ⟨h1, h2, h3, h4, h5, h6⟩ := h
  cases t with
  | int => exact kit_ty h1
  | bool => exact kit_ty h2
  | str => exact kit_ty h3
  | list => exact kit_ty h4
  | tuple => exact kit_ty h5
  | dict => exact kit_ty h6
  | cls c => exact hc c ht
theorem kit_is (C : Top T nm X.K) {d : D} {cs : Cells} {t : Ty} (h : tyOk T d cs = true) (ht : tyThere T t = true) : PySem.W.kitOne X.K (tyVal nm d cs) (tyTV nm t) = some (isTy T d cs t) := by
  have own : ∀ {s : String}, s ∈ ["NoneType", "bool", "int", "str", "tuple", "list", "dict"] → ∀ c, (T.cls[c]?).isSome = true → PySem.W.kitOne X.K (.type s) (.ref (nm.ca c)) = some false := fun hs c hk => by
    obtain ⟨k, hk⟩ := Option.isSome_iff_exists.mp hk
    exact C.kBC c k _ hk hs
  unfold tyVal isTy
  unfold tyOk at h
  cases q : deref d cs with
  | non => exact (kb_all (r := fun _ => false) kb_none (own (by decide)) t ht).trans (by cases t <;> rfl)
  | bl _ => exact (kb_all (r := fun t => match t with | .int => true | .bool => true | _ => false) kb_bool (own (by decide)) t ht).trans (by cases t <;> rfl)
  | int _ => exact (kb_all (r := fun t => match t with | .int => true | _ => false) kb_int (own (by decide)) t ht).trans (by cases t <;> rfl)
  | str _ => exact (kb_all (r := fun t => match t with | .str => true | _ => false) kb_str (own (by decide)) t ht).trans (by cases t <;> rfl)
  | tup _ => exact (kb_all (r := fun t => match t with | .tuple => true | _ => false) kb_tuple (own (by decide)) t ht).trans (by cases t <;> rfl)
  | lst _ => exact (kb_all (r := fun t => match t with | .list => true | _ => false) kb_list (own (by decide)) t ht).trans (by cases t <;> rfl)
  | dic _ => exact (kb_all (r := fun t => match t with | .dict => true | _ => false) kb_dict (own (by decide)) t ht).trans (by cases t <;> rfl)
  | ins c fs =>
    rw [q] at h
    obtain ⟨k, hk⟩ := Option.isSome_iff_exists.mp h
    cases t with
    | cls c' =>
      obtain ⟨k', hk'⟩ := Option.isSome_iff_exists.mp (show (T.cls[c']?).isSome = true from ht)
      refine (C.kCC c c' k k' hk hk').trans ?_
      simp only [hk]
    | int => exact C.kCB c k _ hk (by decide)
    | bool => exact C.kCB c k _ hk (by decide)
    | str => exact C.kCB c k _ hk (by decide)
    | list => exact C.kCB c k _ hk (by decide)
    | tuple => exact C.kCB c k _ hk (by decide)
    | dict => exact C.kCB c k _ hk (by decide)
  | cell n => rw [q] at h; cases h
  | scr ds => rw [q] at h; cases h
  | cls ds => rw [q] at h; cases h
theorem kit_any (C : Top T nm X.K) {d : D} {cs : Cells} (h : tyOk T d cs = true) : ∀ {ts : List Ty}, ts.all (tyThere T) = true → PySem.W.kitAny X.K (tyVal nm d cs) (ts.map (tyTV nm)) = some (ts.any (isTy T d cs))
  | [], _ => rfl
  | t :: ts, ht => by
    rw [List.all_cons, Bool.and_eq_true] at ht
    have h1 := kit_is C h ht.1
    have h2 := kit_any C h ht.2
    rw [List.map_cons, List.any_cons]
    unfold PySem.W.kitAny
    rw [h1]
    cases isTy T d cs t with
    | true => rfl
    | false => simpa using h2
theorem tyx_of (C : Top T nm X.K) {g : Gh} {H : Hp} {cs : Cells} {d : D} {v : V} (co : CsOk X.K nm g H cs) (r : Rep X.K nm g H d v) (h : tyOk T d cs = true) : TyX X.K H v (tyVal nm d cs) := by
  unfold tyVal
  unfold tyOk at h
  cases q : deref d cs with
  | non =>
    have e := view_non (.inl r) (deref_id q (fun _ z => nomatch z) (fun _ _ z => nomatch z) (fun _ z => nomatch z))
    subst e; exact .base .non
  | bl b =>
    have e := view_bl (.inl r) (deref_id q (fun _ z => nomatch z) (fun _ _ z => nomatch z) (fun _ z => nomatch z))
    subst e; exact .base (.bl _)
  | int b =>
    have e := view_int (.inl r) (deref_id q (fun _ z => nomatch z) (fun _ _ z => nomatch z) (fun _ z => nomatch z))
    subst e; exact .base (.int _)
  | str b =>
    have e := view_str (.inl r) (deref_id q (fun _ z => nomatch z) (fun _ _ z => nomatch z) (fun _ z => nomatch z))
    subst e; exact .base (.str _)
  | tup ds =>
    obtain ⟨ad, vs, rfl, h1, _⟩ := view_tup (.inl r) q
    rcases h1 with (h1 | ⟨o, h1⟩) | ⟨o, its, n, h1, h2, _⟩
    · exact .base (.tup h1)
    · exact .fTuple h1
    · exact .kTuple h1 h2
  | lst ds =>
    obtain ⟨ad, vs, rfl, h1, _⟩ := view_lst co (.inl r) q
    exact .base (.lst h1)
  | dic kvs =>
    have e := deref_id q (fun _ z => nomatch z) (fun _ _ z => nomatch z) (fun _ z => nomatch z)
    subst e
    cases r with
    | dic h1 h2 => exact .base (.dK h2)
    | dicF h1 h2 h3 => rw [q] at h; cases h
  | ins c fs =>
    rw [q] at h
    obtain ⟨k, hk⟩ := Option.isSome_iff_exists.mp h
    obtain ⟨ad, dx, vs, rfl, h1, _⟩ := view_ins co (.inl r) q
    obtain ⟨i1, i2, i3, i4⟩ := C.insT c k hk
    exact .base (.ins h1 (C.cls c k hk) i1 i2 i3 i4)
  | cell n => rw [q] at h; cases h
  | scr ds => rw [q] at h; cases h
  | cls ds => rw [q] at h; cases h
theorem d_isi1 (C : Top T nm X.K) {p : Pos} {t : Ty} (hg : Gl X "isinstance") (hm : X.mg "isinstance" = none) (hn : isStar a = false) (ha : PE X a (tV X.K nm W fa)) (hnc : isStar c = false) (hc : PE X c (tC (tyVV nm t))) :
    PE X (.Call (.Name "isinstance" p) [a, c] [] pos) (tV X.K nm W fun ρ cs => (fa ρ cs).bind fun x cs => isiD T [t] x cs) := by
  have hA : PA X [a, c] (tCons (tV X.K nm W fa) (tCons (tC (tyVV nm t)) tNil)) := pa_cons ha (pa_cons hc pa_nil (star_not (isStar_not hnc))) (star_not (isStar_not hn))
  have hpl : ∀ pos : Pos, (backTo pos (starEach [c] X.env)).any (·.1) = false := fun pos => by rw [any_star]; simp [hnc]
  refine (pe_callB (x := "isinstance") (p := p) (pos := pos) call_isi hg hm (by kernel_rfl) hA (he := star_not (isStar_not hn)) (hpl := hpl pos)).imp fun σ H Q q => ?_
  refine (fun (z : tV X.K nm W fa σ H fun x H1 => rIsi X.K [x, tyVV nm t] H1 Q) => z) ?_
  obtain ⟨g, ρ, cs, en, c, p⟩ := q
  refine ⟨g, ρ, cs, en, c, (Post.bind (R := Rep X.K nm) p).imp ?_⟩
  rintro v H1 ⟨d, g1, cs1, e1, c1, r1, p1⟩
  unfold isiD at p1
  split at p1
  · rename_i hz
    have hz2 : tyThere T t = true := by simpa using hz.2
    have p1 : Post X.K nm W (Rep X.K nm) g1 H1 (.ok (.bl ([t].any (isTy T d cs1))) cs1) Q := p1
    refine ⟨v, _, _, _, isTy T d cs1 t, rfl, cls_ty nm t, tyx_of C c1 r1 hz.1, kit_is C hz.1 hz2, ?_⟩
    have := Post.ok p1 c1 (.bl _)
    simpa using this
  · exact p1.elim
theorem paired_ty (nm : Nm) : ∀ ts : List Ty, Paired ClsV (ts.map (tyVV nm)) (ts.map (tyTV nm))
  | [] => .nil
  | t :: ts => .cons (cls_ty nm t) (paired_ty nm ts)
/-- the classes in a tuple -/
theorem d_isiT (C : Top T nm X.K) {p : Pos} {ts : List Ty} {x1 : Nat} {pt : Pos} (hg : Gl X "isinstance") (hm : X.mg "isinstance" = none) (hn : isStar a = false) (ha : PE X a (tV X.K nm W fa)) (hz : ts.length ≤ sizeLine) (hc : PA X es fun _ H Q => Q (ts.map (tyVV nm)) H) :
    PE X (.Call (.Name "isinstance" p) [a, .Tuple es x1 pt] [] pos) (tV X.K nm W fun ρ cs => (fa ρ cs).bind fun x cs => isiD T ts x cs) := by
  have hA : PA X [a, .Tuple es x1 pt] (tCons (tV X.K nm W fa) (tCons (tTup fun _ H Q => Q (ts.map (tyVV nm)) H) tNil)) := pa_cons ha (pa_cons (pe_tup hc) pa_nil rfl) (star_not (isStar_not hn))
  refine (pe_callB (x := "isinstance") (p := p) (pos := pos) call_isiT hg hm (by kernel_rfl) hA (he := star_not (isStar_not hn)) (hpl := by rfl)).imp fun σ H Q q => ?_
  refine (fun (z : tV X.K nm W fa σ H fun x H1 => (ts.map (tyVV nm)).length ≤ sizeLine ∧ ∀ p, H1 p = none → rIsiT X.K [x, .ref p] (upd H1 p (.tup (ts.map (tyVV nm)))) Q) => z) ?_
  obtain ⟨g, ρ, cs, en, c, p⟩ := q
  refine ⟨g, ρ, cs, en, c, (Post.bind (R := Rep X.K nm) p).imp ?_⟩
  rintro v H1 ⟨d, g1, cs1, e1, c1, r1, p1⟩
  unfold isiD at p1
  split at p1
  · rename_i hq
    refine ⟨by rw [List.length_map]; exact hz, fun q hq' => ?_⟩
    have c2 := c1.laid (o := .tup (ts.map (tyVV nm))) hq'
    have r2 := r1.mono (ext_laid (o := .tup (ts.map (tyVV nm))) hq') c1.ok
    exact ⟨v, q, _, _, _, _, rfl, upd_same, paired_ty nm ts, tyx_of C c2 r2 hq.1, kit_any C hq.1 hq.2, Post.okE p1 (ext_laid hq') c2 (.bl _)⟩
  · exact p1.elim
/-! ### texts -/
theorem d_join {p : Pos} (ho : PE X a (tV X.K nm W fa)) (he : PE X b (tBr X.K nm W fb)) (hs : isStar b = false) (hb : noSup a = true) (hl : (p.endLine == pos.line) = true) :
    PE X (.Call (.Attribute a "join" p) [b] [] pos) (tV X.K nm W fun ρ cs => (fa ρ cs).bind fun x cs => (match x with
    | .str s => (fb ρ cs).bind fun y cs => joinD s y cs
    | _ => .bad)) := by
  refine (pe_join ho he (star_not (isStar_not hs)) (noSup_base hb) hl).imp fun σ H Q q => ?_
  obtain ⟨g, ρ, cs, en, c, p⟩ := q
  refine ⟨g, ρ, cs, en, c, (Post.bind (R := Rep X.K nm) p).imp ?_⟩
  rintro v H1 ⟨d, g1, cs1, e1, c1, r1, p1⟩
  cases d with
  | str s =>
    cases r1
    refine ⟨⟨s, rfl⟩, g1, ρ, cs1, en.mono e1 c.ok, c1, (Post.bind (R := BRep X.K nm) p1).imp ?_⟩
    rintro y H2 ⟨dy, g2, cs2, e2, c2, r2, p2⟩
    unfold joinD at p2
    cases q : seqOf dy cs2 with
    | none => rw [q] at p2; exact p2.elim
    | some ds =>
      rw [q] at p2
      have p2 : Post X.K nm W (Rep X.K nm) g2 H2 (match strsD ds with
        | some ss => if (ss.map (·.length)).sum + ss.length * s.length ≤ 16777216 then .ok (.str (Txt.join s ss)) cs2 else .bad
        | none => .bad) Q := p2
      cases q2 : strsD ds with
      | none => rw [q2] at p2; exact p2.elim
      | some ss =>
        rw [q2] at p2
        have p2 : Post X.K nm W (Rep X.K nm) g2 H2 (if (ss.map (·.length)).sum + ss.length * s.length ≤ 16777216 then .ok (.str (Txt.join s ss)) cs2 else .bad) Q := p2
        split at p2
        · rename_i hz
          obtain ⟨a, vs, rfl, h1, h2⟩ := view_seq c2 r2 q
          have e := h2.strsD q2
          subst e
          exact ⟨s, a, ss, rfl, rfl, h1, hz, Post.ok p2 c2 (.str _)⟩
        · exact p2.elim
  | _ => exact p1.elim
theorem d_split {p : Pos} (ho : PE X a (tV X.K nm W fa)) (he : PE X b (tV X.K nm W fb)) (hs : isStar b = false) (hb : noSup a = true) (hl : (p.endLine == pos.line) = true) :
    PE X (.Call (.Attribute a "split" p) [b] [] pos) (tV X.K nm W fun ρ cs => (fa ρ cs).bind fun x cs => (match x with
    | .str s => (fb ρ cs).bind fun y cs => splitD s y cs
    | _ => .bad)) := by
  refine (pe_split ho he (star_not (isStar_not hs)) (noSup_base hb) hl).imp fun σ H Q q => ?_
  obtain ⟨g, ρ, cs, en, c, p⟩ := q
  refine ⟨g, ρ, cs, en, c, (Post.bind (R := Rep X.K nm) p).imp ?_⟩
  rintro v H1 ⟨d, g1, cs1, e1, c1, r1, p1⟩
  cases d with
  | str s =>
    cases r1
    refine ⟨⟨s, rfl⟩, g1, ρ, cs1, en.mono e1 c.ok, c1, (Post.bind (R := Rep X.K nm) p1).imp ?_⟩
    rintro y H2 ⟨dy, g2, cs2, e2, c2, r2, p2⟩
    cases dy with
    | str t =>
      cases r2
      have p2 : Post X.K nm W (Rep X.K nm) g2 H2 (if t.length = 0 ∨ sizeLine < s.length + 2 then .bad else .ok (.lst ((Txt.split s t).map .str)) cs2) Q := p2
      split at p2
      · exact p2.elim
      · rename_i hz
        refine ⟨s, t, rfl, rfl, by simp; omega, by omega, fun q hq => ?_⟩
        exact new_lst c2 Reps.strs hq p2
    | _ => exact p2.elim
  | _ => exact p1.elim
theorem d_fmt (ha : PE X a (tV X.K nm W fa)) : PE X (.FormattedValue a (-1) none pos) (tV X.K nm W fun ρ cs => (fa ρ cs).bind fun x cs => fmtD x cs) := (pe_fmt ha).imp fun σ H Q q => by
  obtain ⟨g, ρ, cs, en, c, p⟩ := q
  refine ⟨g, ρ, cs, en, c, (Post.bind (R := Rep X.K nm) p).imp ?_⟩
  rintro v H1 ⟨d, g1, cs1, e1, c1, r1, p1⟩
  cases d with
  | str s =>
    cases r1
    have p1 : Post X.K nm W (Rep X.K nm) g1 H1 (if s.length ≤ sizeLine then .ok (.str s) cs1 else .bad) Q := p1
    split at p1
    · rename_i hz
      exact .inl ⟨s, rfl, hz, Post.ok p1 c1 (.str _)⟩
    · exact p1.elim
  | int i =>
    cases r1
    have p1 : Post X.K nm W (Rep X.K nm) g1 H1 (if i.natAbs.log2 < 1920 then .ok (.str (toString i)) cs1 else .bad) Q := p1
    split at p1
    · rename_i hz
      exact .inr ⟨i, rfl, hz, Post.ok p1 c1 (.str _)⟩
    · exact p1.elim
  | _ => exact p1.elim
/-- a text's parts -/
def FJ (X : Cx) (nm : Nm) (W : XK) (es : List Expr) (f : Str → Env → Cells → Res Str) : Prop := ∃ ts, PJ X es ts ∧ ∀ acc σ H Q, tG X.K nm W (fun _ _ (a b : Str) => a = b) (f acc) σ H Q → tJs ts acc σ H Q
theorem fj_nil : FJ X nm W [] (fun acc _ cs => .ok acc cs) := ⟨[], .nil, fun acc σ H Q q => by
  obtain ⟨g, ρ, cs, en, c, p⟩ := q
  exact Post.ok p c rfl⟩
theorem fj_cons {f : Str → Env → Cells → Res Str} (ha : PE X a (tV X.K nm W fa)) (hr : FJ X nm W es f) : FJ X nm W (a :: es) (fun acc ρ cs => (fa ρ cs).bind fun x cs => (match x with
        | .str y => if (acc ++ y).length ≤ sizeLine then f (acc ++ y) ρ cs else .bad
        | _ => .bad)) := by
  obtain ⟨ts, h1, h2⟩ := hr
  refine ⟨_ :: ts, .cons ha h1, fun acc σ H Q q => ?_⟩
  obtain ⟨g, ρ, cs, en, c, p⟩ := q
  refine (fun (z : tV X.K nm W fa σ H fun x H1 => ∃ y : Str, x = .str y ∧ (acc ++ y).length ≤ sizeLine ∧ tJs ts (acc ++ y) σ H1 Q) => z) ?_
  refine ⟨g, ρ, cs, en, c, (Post.bind (R := Rep X.K nm) p).imp ?_⟩
  rintro v H1 ⟨d, g1, cs1, e1, c1, r1, p1⟩
  cases d with
  | str y =>
    cases r1
    have p1 : Post X.K nm W (fun _ _ (a b : Str) => a = b) g1 H1 (if (acc ++ y).length ≤ sizeLine then f (acc ++ y) ρ cs1 else .bad) Q := p1
    split at p1
    · rename_i hz
      exact ⟨y, rfl, hz, h2 _ _ _ _ ⟨g1, ρ, cs1, en.mono e1 c.ok, c1, p1⟩⟩
    · exact p1.elim
  | _ => exact p1.elim
theorem d_fstr {v1 v2 : Expr} {rest : List Expr} {f : Str → Env → Cells → Res Str} (h : FJ X nm W (v1 :: v2 :: rest) f) : PE X (.JoinedStr (v1 :: v2 :: rest) pos) (tV X.K nm W fun ρ cs => (f Str.empty ρ cs).bind fun x cs => .ok (.str x) cs) := by
  obtain ⟨ts, h1, h2⟩ := h
  refine (pe_joined h1).imp fun σ H Q q => ?_
  obtain ⟨g, ρ, cs, en, c, p⟩ := q
  refine h2 _ _ _ _ ⟨g, ρ, cs, en, c, (Post.bind (R := fun _ _ (a b : Str) => a = b) p).imp ?_⟩
  rintro v H1 ⟨d, g1, cs1, e1, c1, rfl, p1⟩
  exact Post.ok p1 c1 (.str _)
theorem d_fstr1 (h : PE X a (tV X.K nm W fa)) : PE X (.JoinedStr [a] pos) (tV X.K nm W fa) := pe_joined1 h
end
end Dv
end
section
set_option Elab.async false
set_option linter.all false
set_option maxRecDepth 100000
set_option maxHeartbeats 4000000
namespace Dv
open PySem PySem.Spec PyProof.Rows L2
/-! ### states apart: what is frozen stays -/
structure ExtS (g : Gh) (H : Hp) (g' : Gh) (H' : Hp) : Prop where
  io : ∃ t, g'.io = g.io ++ t
  fz : ∀ a, g.fz a → g'.fz a
  kf : ∀ a o, g.fz a → H a = some o → H' a = some o
section
variable {K : PySem.W.Frag} {nm : Nm} {W : XK} {g g' g2 : Gh} {H H' H2 : Hp} {cs : Cells}
theorem ExtS.refl : ExtS g H g H := ⟨⟨[], by simp⟩, fun _ h => h, fun _ _ _ h => h⟩
theorem ExtS.trans (e : ExtS g H g' H') (f : ExtS g' H' g2 H2) : ExtS g H g2 H2 := by
  obtain ⟨t, e1⟩ := e.io
  obtain ⟨u, f1⟩ := f.io
  exact ⟨⟨t ++ u, by rw [f1, e1, List.append_assoc]⟩, fun a h => f.fz a (e.fz a h), fun a o h q => f.kf a o (e.fz a h) (e.kf a o h q)⟩
theorem Ext.s (e : Ext g H g' H') (ok : GOk g H) : ExtS g H g' H' := by
  obtain ⟨t, e1, _⟩ := e.io
  exact ⟨⟨t, e1⟩, e.fz, fun a o h q => e.kf ok h q⟩
theorem ExtS.ioGet (e : ExtS g H g' H') {n : Nat} {a : Addr} (h : g.io[n]? = some a) : g'.io[n]? = some a := by
  obtain ⟨t, e1⟩ := e.io
  rw [e1]
  have hn : n < g.io.length := by
    rcases Nat.lt_or_ge n g.io.length with q | q
    · exact q
    · rw [List.getElem?_eq_none q] at h
      cases h
  rw [List.getElem?_append_left hn, h]
mutual
theorem Rep.monoS (e : ExtS g H g' H') : ∀ {d : D} {v : V}, Rep K nm g H d v → Rep K nm g' H' d v
  | _, _, .non => .non
  | _, _, .bl b => .bl b
  | _, _, .int i => .int i
  | _, _, .str x => .str x
  | _, _, .tup h1 h2 h3 => .tup (e.fz _ h1) (e.kf _ _ h1 h2) (Reps.monoS e h3)
  | _, _, .tupK h1 h3 => .tupK h1 (Reps.monoS e h3)
  | _, _, .lst h1 h2 h3 => .lst (e.fz _ h1) (e.kf _ _ h1 h2) (Reps.monoS e h3)
  | _, _, .scr h1 h2 h3 => .scr (e.fz _ h1) (e.kf _ _ h1 h2) (Reps.monoS e h3)
  | _, _, .scrK h1 h3 => .scrK h1 (Reps.monoS e h3)
  | _, _, .ins h1 h2 h3 => .ins (e.fz _ h1) (e.kf _ _ h1 h2) (Repf.monoS e h3)
  | _, _, .cell h => .cell (e.ioGet h)
  | _, _, .cls c => .cls c
  | _, _, .dic h1 h2 => .dic (e.fz _ h1) (e.kf _ _ h1 h2)
  | _, _, .dicF h1 h2 h3 => .dicF (e.fz _ h1) (e.kf _ _ h1 h2) (Repd.monoS e h3)
theorem Repd.monoS (e : ExtS g H g' H') : ∀ {fs : List (Key × D)} {vs : List (Key × V)}, Repd K nm g H fs vs → Repd K nm g' H' fs vs
  | _, _, .nil => .nil
  | _, _, .cons h t => .cons (Rep.monoS e h) (Repd.monoS e t)
theorem Reps.monoS (e : ExtS g H g' H') : ∀ {ds : List D} {vs : List V}, Reps K nm g H ds vs → Reps K nm g' H' ds vs
  | _, _, .nil => .nil
  | _, _, .cons h t => .cons (Rep.monoS e h) (Reps.monoS e t)
theorem Repf.monoS (e : ExtS g H g' H') : ∀ {fs : List (Nat × D)} {vs : List (Str × V)}, Repf K nm g H fs vs → Repf K nm g' H' fs vs
  | _, _, .nil => .nil
  | _, _, .cons h t => .cons (Rep.monoS e h) (Repf.monoS e t)
end
/-! ### an object of one holder changed -/
theorem own_upd {a : Addr} {d : D} {o : HO} (h : Own K nm g H d (.ref a)) : ExtS g H g (upd H a o) := by
  obtain ⟨b, e, h1, h2, _⟩ := h
  cases e
  exact ⟨⟨[], by simp⟩, fun _ h => h, fun b o' hb q => by rw [upd_ne (show b ≠ a from fun e => h1 (e ▸ hb))]; exact q⟩
theorem own_gok {a : Addr} {d : D} {o : HO} (h : Own K nm g H d (.ref a)) (ok : GOk g H) : GOk g (upd H a o) := by
  have k : ∀ b, H b ≠ none → upd H a o b ≠ none := fun b q => by
    by_cases e : b = a
    · subst e; rw [upd_same]; simp
    · rw [upd_ne e]; exact q
  exact ⟨fun b q => k b (ok.fzt b q), fun b q => k b (ok.iot b q), ok.dis, ok.nd⟩
theorem own_cs {a : Addr} {d : D} {o : HO} (h : Own K nm g H d (.ref a)) (c : CsOk K nm g H cs) : CsOk K nm g (upd H a o) cs := by
  refine ⟨own_gok h c.ok, c.len, fun n x b hn hb => ?_⟩
  have z := c.at_ n x b hn hb
  have hne : b ≠ a := by
    obtain ⟨a', e, _, h2, _⟩ := h
    cases e
    exact fun e : b = a => h2 (e ▸ List.mem_of_getElem? hb)
  have ex := own_upd (o := o) h
  cases x with
  | lst ds => obtain ⟨vs, q, r⟩ := z; exact ⟨vs, (upd_ne hne).trans q, r.monoS ex⟩
  | ins c fs => obtain ⟨dx, vs, q, r⟩ := z; exact ⟨dx, vs, (upd_ne hne).trans q, r.monoS ex⟩
theorem own_ext {g0 : Gh} {H0 : Hp} {a : Addr} {o : HO} (e : Ext g0 H0 g H) (hn : H0 a = none) : Ext g0 H0 g (upd H a o) := by
  obtain ⟨t, e1, e2⟩ := e.io
  refine ⟨⟨t, e1, e2⟩, e.fz, e.fzn, fun b u q n => ?_, fun b q => ?_⟩
  · rw [upd_ne (show b ≠ a from fun z => by rw [z, hn] at q; cases q)]
    exact e.keep b u q n
  · by_cases z : b = a
    · rw [z]; exact hn
    · rw [upd_ne z] at q; exact e.there b q
/-- a thing that nobody changes any more -/
theorem own_frz {a : Addr} {d : D} (h : Own K nm g H d (.ref a)) (c : CsOk K nm g H cs) : Rep K nm (g.add a) H d (.ref a) ∧ CsOk K nm (g.add a) H cs ∧ ExtS g H (g.add a) H := by
  have ex : ExtS g H (g.add a) H := ⟨⟨[], by simp [Gh.add]⟩, fun b hb => .inl hb, fun b o hb q => q⟩
  have h0 := h
  obtain ⟨b, e, h1, h2, m⟩ := h
  cases e
  obtain ⟨o, ho⟩ := h0.there
  have ok : GOk (g.add a) H := by
    refine ⟨fun b q => ?_, c.ok.iot, fun b q z => ?_, c.ok.nd⟩
    · rcases q with q | q
      · exact c.ok.fzt b q
      · rw [q, ho]; simp
    · rcases z with z | z
      · exact c.ok.dis b q z
      · exact h2 (z ▸ q)
  refine ⟨?_, ⟨ok, c.len, fun n x b hn hb => ?_⟩, ex⟩
  · cases d with
    | lst ds => obtain ⟨vs, q, r⟩ := m; exact .lst (.inr rfl) q (r.monoS ex)
    | ins c fs => obtain ⟨dx, vs, q, r⟩ := m; exact .ins (.inr rfl) q (r.monoS ex)
    | _ => exact m.elim
  · have z := c.at_ n x b hn hb
    cases x with
    | lst ds => obtain ⟨vs, q, r⟩ := z; exact ⟨vs, q, r.monoS ex⟩
    | ins c fs => obtain ⟨dx, vs, q, r⟩ := z; exact ⟨dx, vs, q, r.monoS ex⟩
theorem frz_ext {g0 : Gh} {H0 : Hp} {a : Addr} (e : Ext g0 H0 g H) (hn : H0 a = none) : Ext g0 H0 (g.add a) H := by
  obtain ⟨t, e1, e2⟩ := e.io
  refine ⟨⟨t, e1, e2⟩, fun b q => .inl (e.fz b q), fun b q => ?_, e.keep, e.there⟩
  rcases q with q | q
  · exact e.fzn b q
  · exact .inr (q ▸ hn)
end
/-! ### slots -/
section
variable {K : PySem.W.Frag} {nm : Nm} {W : XK} {g g' g2 : Gh} {H H' H2 : Hp} {cs : Cells}
theorem EnvOk.set {σ : L2.St} {ρ : Env} {i : Nat} {d : D} {v : V} (h : EnvOk K nm g H σ ρ) (r : Rep K nm g H d v) : EnvOk K nm g H (σ.set i (some v)) (ρ.set i (.val d)) := by
  refine ⟨by rw [List.length_set, List.length_set, h.len], fun j s hs => ?_, fun j k e f w h1 h2 h3 h4 => ?_⟩
  · by_cases q : i = j
    · subst q
      have hi : i < ρ.length := by
        have := (List.getElem?_eq_some_iff.mp hs).1
        rwa [List.length_set] at this
      rw [List.getElem?_set_self hi] at hs
      cases hs
      rw [List.getElem?_set_self (by rw [h.len]; exact hi)]
      exact ⟨v, rfl, r⟩
    · rw [List.getElem?_set_ne q] at hs ⊢
      exact h.sl j s hs
  · have ne : ∀ {j : Nat} {e : D}, (ρ.set i (.val d))[j]? = some (.own e) → i ≠ j := fun {j e} z q => by
      subst q
      have hi : i < ρ.length := by
        have := (List.getElem?_eq_some_iff.mp z).1
        rwa [List.length_set] at this
      rw [List.getElem?_set_self hi] at z
      cases z
    have n1 := ne h1
    have n2 := ne h2
    rw [List.getElem?_set_ne n1] at h1 h3
    rw [List.getElem?_set_ne n2] at h2 h4
    exact h.ap j k e f w h1 h2 h3 h4
theorem EnvOk.emp {σ : L2.St} {ρ : Env} {i : Nat} {x : Option V} (h : EnvOk K nm g H σ ρ) : EnvOk K nm g H (σ.set i x) (ρ.set i .emp) := by
  refine ⟨by rw [List.length_set, List.length_set, h.len], fun j s hs => ?_, fun j k e f w h1 h2 h3 h4 => ?_⟩
  · by_cases q : i = j
    · subst q
      have hi : i < ρ.length := by
        have := (List.getElem?_eq_some_iff.mp hs).1
        rwa [List.length_set] at this
      rw [List.getElem?_set_self hi] at hs
      cases hs
      exact True.intro
    · rw [List.getElem?_set_ne q] at hs ⊢
      exact h.sl j s hs
  · have ne : ∀ {j : Nat} {e : D}, (ρ.set i .emp)[j]? = some (.own e) → i ≠ j := fun {j e} z q => by
      subst q
      have hi : i < ρ.length := by
        have := (List.getElem?_eq_some_iff.mp z).1
        rwa [List.length_set] at this
      rw [List.getElem?_set_self hi] at z
      cases z
    have n1 := ne h1
    have n2 := ne h2
    rw [List.getElem?_set_ne n1] at h1 h3
    rw [List.getElem?_set_ne n2] at h2 h4
    exact h.ap j k e f w h1 h2 h3 h4
theorem EnvOk.wipe {σ : L2.St} {ρ : Env} (h : EnvOk K nm g H σ ρ) : ∀ vs : List Nat, EnvOk K nm g H (L2.wipe σ vs) (wipeE ρ vs)
  | [] => h
  | v :: vs => (h.wipe vs).emp
theorem wipe_set {σ : L2.St} {i : Nat} {x : Option V} : ∀ {vs : List Nat}, i ∈ vs → L2.wipe (σ.set i x) vs = L2.wipe σ vs
  | v :: vs, h => by
    unfold L2.wipe
    by_cases q : i = v
    · subst q
      by_cases m : i ∈ vs
      · rw [wipe_set m]
      · have : ∀ ws : List Nat, i ∉ ws → L2.wipe (σ.set i x) ws = (L2.wipe σ ws).set i x := by
          intro ws
          induction ws with
          | nil => intro _; rfl
          | cons w ws ih =>
            intro hn
            simp only [List.mem_cons, not_or] at hn
            unfold L2.wipe
            rw [ih hn.2, List.set_comm _ _ hn.1]
        rw [this vs m, List.set_set]
    · have m : i ∈ vs := (List.mem_cons.mp h).resolve_left q
      rw [wipe_set m]
/-! ### targets -/
def gTgs : List Nat → TGs
  | [] => gNil
  | i :: is => gCons (gName i) (gTgs is)
def tgOf (K : PySem.W.Frag) (is : List Nat) (one : Bool) : TG := if one = true then gName (is.headD 0) else gTup K is.length (gTgs is)
theorem set_own {σ : L2.St} {ρ : Env} {i : Nat} {d : D} {x : Option V} (j : Nat) (e : D) (h : (ρ.set i (.val d))[j]? = some (.own e)) : ρ[j]? = some (.own e) ∧ (σ.set i x)[j]? = σ[j]? := by
  by_cases q : i = j
  · subst q
    have hi : i < ρ.length := by
      have := (List.getElem?_eq_some_iff.mp h).1
      rwa [List.length_set] at this
    rw [List.getElem?_set_self hi] at h
    cases h
  · rw [List.getElem?_set_ne q] at h
    exact ⟨h, List.getElem?_set_ne q⟩
theorem gTgs_ok {Q : L2.St → Hp → Prop} : ∀ {is : List Nat} {σ : L2.St} {ρ ρ' : Env} {ds : List D} {vs : List V}, EnvOk K nm g H σ ρ → Reps K nm g H ds vs → setAll is ds ρ = some ρ' →
    (∀ σ', EnvOk K nm g H σ' ρ' → (∀ ws, (∀ i ∈ is, i ∈ ws) → L2.wipe σ' ws = L2.wipe σ ws) → (∀ (j : Nat) (e : D), ρ'[j]? = some (.own e) → ρ[j]? = some (.own e) ∧ σ'[j]? = σ[j]?) → Q σ' H) → gTgs is vs σ H Q
  | [], σ, ρ, ρ', ds, vs, en, r, h, k => by
    cases r with
    | nil => cases h; exact ⟨rfl, k σ en (fun _ _ => rfl) fun _ _ h => ⟨h, rfl⟩⟩
    | cons _ _ => cases h
  | i :: is, σ, ρ, ρ', ds, vs, en, r, h, k => by
    cases r with
    | nil => cases h
    | cons r rs =>
      rename_i d v ds vs
      unfold setAll at h
      split at h
      · refine ⟨v, vs, rfl, ?_⟩
        show gTgs is vs (σ.set i (some v)) H Q
        refine gTgs_ok (en.set r) rs h fun σ' en' hw ho => k σ' en' (fun ws hws => ?_) fun j e he => ?_
        · rw [hw ws fun j hj => hws j (List.mem_cons_of_mem _ hj), wipe_set (hws i (by simp))]
        · obtain ⟨h1, h2⟩ := ho j e he
          obtain ⟨h3, h4⟩ := set_own (σ := σ) (x := some v) j e h1
          exact ⟨h3, h2.trans h4⟩
      · cases h
theorem setAll_len : ∀ {is : List Nat} {ds : List D} {ρ ρ' : Env}, setAll is ds ρ = some ρ' → ds.length = is.length
  | [], [], _, _, _ => rfl
  | [], _ :: _, _, _, h => by cases h
  | _ :: _, [], _, _, h => by cases h
  | i :: is, d :: ds, ρ, ρ', h => by
    unfold setAll at h
    split at h
    · rw [List.length_cons, List.length_cons, setAll_len h]
    · cases h
theorem tgOf_ok {Q : L2.St → Hp → Prop} {is : List Nat} {one : Bool} {σ : L2.St} {ρ ρ' : Env} {d : D} {v : V} (en : EnvOk K nm g H σ ρ) (r : Rep K nm g H d v) (h : setTg is one d ρ = some ρ')
    (k : ∀ σ', EnvOk K nm g H σ' ρ' → (∀ ws, (∀ i ∈ is, i ∈ ws) → L2.wipe σ' ws = L2.wipe σ ws) → (∀ (j : Nat) (e : D), ρ'[j]? = some (.own e) → ρ[j]? = some (.own e) ∧ σ'[j]? = σ[j]?) → Q σ' H) : tgOf K is one v σ H Q := by
  cases one with
  | true =>
    have h : setAll is [d] ρ = some ρ' := h
    have hl := setAll_len h
    match is, hl, h, k with
    | [i], _, h, k =>
      unfold setAll at h
      split at h
      · have e : ρ.set i (.val d) = ρ' := Option.some.inj h
        subst e
        exact k _ (en.set r) (fun vs hv => wipe_set (hv i (by simp))) fun j e he => set_own j e he
      · cases h
  | false =>
    unfold setTg at h
    cases d with
    | tup ds =>
      have h : setAll is ds ρ = some ρ' := h
      obtain ⟨a, vs, rfl, h1, h2⟩ := view_tup (cs := []) (.inl r) rfl
      exact ⟨a, vs, rfl, h1, by rw [← h2.length, setAll_len h], gTgs_ok en h2 h k⟩
    | _ => cases h
end
section
variable {X : Cx} {nm : Nm} {W : XK} {e : Expr} {es : List Expr} {pos : Pos}
theorem tg_name {i : Nat} {x : Str} (hN : X.N.Nodup) (hi : X.N[i]? = some x) (hx : Loc X.env.scope x) (hf : X.fn x = true ∨ X.env.scope.names.lookup x = some .local) : PG X (.Name x pos) (tgOf X.K [i] true) := pg_name hN hi hx hf
theorem tgs_nil : PGs X [] (gTgs []) := pgs_nil
theorem tgs_cons {i : Nat} {x : Str} {is : List Nat} (hN : X.N.Nodup) (hi : X.N[i]? = some x) (hx : Loc X.env.scope x) (hf : X.fn x = true ∨ X.env.scope.names.lookup x = some .local) (h2 : PGs X es (gTgs is)) : PGs X (.Name x pos :: es) (gTgs (i :: is)) := pgs_cons (pg_name hN hi hx hf) h2 rfl
theorem tg_tup {is : List Nat} {k : Nat} (hc : X.calm = true) (h : PGs X es (gTgs is)) (hn : (assignEach es X.env).length = is.length) (hst : (assignEach es X.env).findIdx? (·.1) = none) : PG X (.Tuple es k pos) (tgOf X.K is false) := pg_tup (n := is.length) hc h hn hst
end
end Dv
end
section
set_option Elab.async false
set_option linter.all false
set_option maxRecDepth 100000
set_option maxHeartbeats 4000000
namespace Dv
open PySem PySem.Spec PyProof.Rows L2
/-- the heap as it was, or with a new object that never changes -/
def Grow (g : Gh) (H : Hp) (g' : Gh) (H' : Hp) : Prop := (g' = g ∧ H' = H) ∨ ∃ p o, H p = none ∧ g' = g.add p ∧ H' = upd H p o
section
variable {K : PySem.W.Frag} {nm : Nm} {W : XK} {g g' g2 : Gh} {H H' H2 : Hp} {cs : Cells}
theorem Grow.ext (h : Grow g H g' H') : Ext g H g' H' := by
  rcases h with ⟨rfl, rfl⟩ | ⟨p, o, hp, rfl, rfl⟩
  · exact .refl
  · exact ext_new hp
theorem Grow.csOk (h : Grow g H g' H') (c : CsOk K nm g H cs) : CsOk K nm g' H' cs := by
  rcases h with ⟨rfl, rfl⟩ | ⟨p, o, hp, rfl, rfl⟩
  · exact c
  · exact c.new hp
/-- what is walked yields these, one by one -/
def Yl (K : PySem.W.Frag) (nm : Nm) (g : Gh) (H : Hp) (xs : List D) (J : It) : Prop := ∀ g1 H1, ExtS g H g1 H1 → GOk g1 H1 → ∀ i, (xs.length ≤ i → J.stop i H1) ∧
  (∀ d, xs[i]? = some d → J.go i H1 ∧ ∀ x H2, J.yld i H1 x H2 → ∃ g2, Grow g1 H1 g2 H2 ∧ Rep K nm g2 H2 d x)
theorem yl_list {a : Addr} {ds : List D} (r : Rep K nm g H (.lst ds) (.ref a)) : Yl K nm g H ds (Itl K a) := by
  intro g1 H1 e ok i
  obtain ⟨b, vs, eb, h1, h2, _⟩ := (r.monoS e).ref_lst
  cases eb
  refine ⟨fun hi => ⟨vs, .of h1, by rw [← h2.length]; exact hi⟩, fun d hd => ?_⟩
  obtain ⟨v, hv, rv⟩ := h2.get hd
  refine ⟨⟨vs, v, .of h1, hv⟩, fun x H2 ⟨e1, e2⟩ => ?_⟩
  subst e1
  have : vs[i]? = some x := e2 vs (.of h1)
  rw [hv] at this
  cases this
  exact ⟨g1, .inl ⟨rfl, rfl⟩, rv⟩
theorem yl_tup {a : Addr} {ds : List D} (r : Rep K nm g H (.tup ds) (.ref a)) : Yl K nm g H ds (Itt K a) := by
  intro g1 H1 e ok i
  obtain ⟨b, vs, eb, h1, h2⟩ := view_tup (cs := []) (.inl (r.monoS e)) rfl
  cases eb
  refine ⟨fun hi => ⟨vs, h1, by rw [← h2.length]; exact hi⟩, fun d hd => ?_⟩
  obtain ⟨v, hv, rv⟩ := h2.get hd
  refine ⟨⟨vs, v, h1, hv⟩, fun x H2 ⟨e1, e2⟩ => ?_⟩
  subst e1
  have : vs[i]? = some x := e2 vs h1
  rw [hv] at this
  cases this
  exact ⟨g1, .inl ⟨rfl, rfl⟩, rv⟩
theorem enumD_get : ∀ {ds : List D} {k i : Nat} {d : D}, (enumD k ds)[i]? = some d → ∃ x, ds[i]? = some x ∧ d = .tup [.int ((k + i : Nat) : Int), x]
  | [], _, _, _, h => by simp [enumD] at h
  | x :: ds, k, 0, d, h => by
    simp [enumD] at h
    exact ⟨x, by simp, by rw [← h]; simp⟩
  | x :: ds, k, i + 1, d, h => by
    simp only [enumD, List.getElem?_cons_succ] at h
    obtain ⟨y, h1, h2⟩ := enumD_get h
    exact ⟨y, by simpa using h1, by rw [h2]; congr 3; omega⟩
theorem enumD_len : ∀ {ds : List D} {k : Nat}, (enumD k ds).length = ds.length
  | [], _ => rfl
  | _ :: ds, k => by simp [enumD, enumD_len]
theorem pair_new {p : Addr} {i : Nat} {x : V} {d : D} (r : Rep K nm g H d x) (ok : GOk g H) (hp : H p = none) : Rep K nm (g.add p) (upd H p (.tup [.int (i : Nat), x])) (.tup [.int (i : Nat), d]) (.ref p) :=
  .tup (.inr rfl) upd_same (.cons (.int _) (.cons (r.mono (ext_new hp) ok) .nil))
theorem yl_enumL {a : Addr} {ds : List D} (r : Rep K nm g H (.lst ds) (.ref a)) : Yl K nm g H (enumD 0 ds) (Ite K a) := by
  intro g1 H1 e ok i
  obtain ⟨b, vs, eb, h1, h2, _⟩ := (r.monoS e).ref_lst
  cases eb
  refine ⟨fun hi => ⟨vs, .of h1, by rw [← h2.length, ← enumD_len (k := 0)]; exact hi⟩, fun d hd => ?_⟩
  obtain ⟨y, hy, rfl⟩ := enumD_get hd
  obtain ⟨v, hv, rv⟩ := h2.get hy
  refine ⟨⟨vs, v, .of h1, hv⟩, fun x H2 ⟨T, w, e1, e2, e3, e4⟩ => ?_⟩
  subst e1 e3
  have : vs[i]? = some w := e4 vs (.of h1)
  rw [hv] at this
  cases this
  refine ⟨g1.add T, .inr ⟨T, _, e2, rfl, rfl⟩, ?_⟩
  have := pair_new (i := i) rv ok e2
  simpa using this
theorem yl_enumT {a : Addr} {ds : List D} (r : Rep K nm g H (.tup ds) (.ref a)) : Yl K nm g H (enumD 0 ds) (IteT K a) := by
  intro g1 H1 e ok i
  obtain ⟨b, vs, eb, h1, h2⟩ := view_tup (cs := []) (.inl (r.monoS e)) rfl
  cases eb
  refine ⟨fun hi => ⟨vs, h1, by rw [← h2.length, ← enumD_len (k := 0)]; exact hi⟩, fun d hd => ?_⟩
  obtain ⟨y, hy, rfl⟩ := enumD_get hd
  obtain ⟨v, hv, rv⟩ := h2.get hy
  refine ⟨⟨vs, v, h1, hv⟩, fun x H2 ⟨T, w, e1, e2, e3, e4⟩ => ?_⟩
  subst e1 e3
  have : vs[i]? = some w := e4 vs h1
  rw [hv] at this
  cases this
  refine ⟨g1.add T, .inr ⟨T, _, e2, rfl, rfl⟩, ?_⟩
  have := pair_new (i := i) rv ok e2
  simpa using this
theorem yl_rng {lo : Int} {n : Nat} : Yl K nm g H ((List.range n).map fun (i : Nat) => .int (lo + (i : Int))) (Itr lo n) := by
  intro g1 H1 e ok i
  refine ⟨fun hi => (show n ≤ i by simpa using hi), fun d hd => ?_⟩
  rw [List.getElem?_map] at hd
  cases q : (List.range n)[i]? with
  | none => rw [q] at hd; cases hd
  | some j =>
    rw [q] at hd
    cases hd
    have hj : j = i ∧ i < n := by
      obtain ⟨h1, h2⟩ := List.getElem?_eq_some_iff.mp q
      rw [List.getElem_range] at h2
      exact ⟨h2.symm, by simpa using h1⟩
    obtain ⟨rfl, hi⟩ := hj
    refine ⟨hi, fun x H2 ⟨e1, e2⟩ => ?_⟩
    subst e1 e2
    exact ⟨g1, .inl ⟨rfl, rfl⟩, .int _⟩
end
theorem _root_.L2.PI.imp {X : Cx} {tg e : Expr} {t t' : TI} (h : PI X tg e t) (k : ∀ σ H R, t' σ H R → t σ H R) : PI X tg e t' := ⟨fun pins s σ H R I q => h.run pins s σ H R I (k σ H R q)⟩
abbrev tI (K : PySem.W.Frag) (nm : Nm) (W : XK) (f : Env → Cells → Res (List D)) : TI := tG K nm W (Yl K nm) f
section
variable {T : Tab} {O : Orc} {nm : Nm} {X : Cx} {W : XK} {a b c e tg : Expr} {es : List Expr} {fa fb fc : Env → Cells → Res D} {pos : Pos} {na nb nc : Den}
/-- a list or a tuple, walked -/
theorem pi_seq {l : Expr} {tl : TE} (hl : PE X l tl) : PI X tg l (fun σ H R => tl σ H fun x H1 => ∃ a, x = .ref a ∧ ((∃ xs, SqL X.K H1 a xs) ∧ R (Itl X.K a) H1 ∨ (∃ xs, SqT X.K H1 a xs) ∧ R (Itt X.K a) H1)) := by
  refine ⟨fun pins s σ H R I h => ?_⟩
  refine thn (hl.run pins s σ H _ I h) fun v s1 ⟨x, H1, I1, r1, q1⟩ => ?_
  obtain ⟨a, e, q1⟩ := q1
  subst e
  cases r1
  rcases q1 with ⟨⟨xs, hq⟩, q⟩ | ⟨⟨xs, hq⟩, q⟩
  · obtain ⟨its, rv, p, hz⟩ := I1.list hq
    refine wpAny_pyIter_list p.isList ?_
    refine ⟨s1.heap.objs.size, [s1.heap.objs.size], _, _, H1, rfl, I1.kept (t' := s1.toks) fun b o e => Heap.get?_push_of_some _ e, turn_list a _, ⟨_, Heap.get?_push_size _ rfl, rfl, rfl⟩, fun b hb => ?_, q⟩
    have e : b = s1.heap.objs.size := by simpa using hb
    subst e
    exact I1.fpOk (Nat.le_refl _) (I1.hok.fresh (Nat.le_refl _))
  · obtain ⟨its, rv, p, hz⟩ := I1.tuple hq
    refine wpAny_pyIter_tuple (show s1.heap.IsTuple a its.toArray from p) ?_
    refine ⟨s1.heap.objs.size, [s1.heap.objs.size], _, _, H1, rfl, I1.kept (t' := s1.toks) fun b o e => Heap.get?_push_of_some _ e, turn_tuple a _, ⟨_, Heap.get?_push_size _ rfl, rfl, rfl⟩, fun b hb => ?_, q⟩
    have e : b = s1.heap.objs.size := by simpa using hb
    subst e
    exact I1.fpOk (Nat.le_refl _) (I1.hok.fresh (Nat.le_refl _))
theorem items_seq {K : PySem.W.Frag} {g : Gh} {H : Hp} {d : D} {ds : List D} {v : V} (r : Rep K nm g H d v) (e : items d = some ds) : ∃ a, v = .ref a ∧ ((d = .lst ds ∧ ∃ xs, SqL K H a xs) ∨ (d = .tup ds ∧ ∃ xs, SqT K H a xs)) := by
  cases d with
  | lst es =>
    cases e
    obtain ⟨a, vs, rfl, h1, _, _⟩ := r.ref_lst
    exact ⟨a, rfl, .inl ⟨rfl, vs, .of h1⟩⟩
  | tup es =>
    cases e
    obtain ⟨a, vs, rfl, h1, h2⟩ := view_tup (cs := []) (.inl r) rfl
    exact ⟨a, rfl, .inr ⟨rfl, vs, h1⟩⟩
  | _ => cases e
theorem si_seq0 (h : PE X e (tV X.K nm W fa)) : PI X tg e (tI X.K nm W fun ρ cs => (fa ρ cs).bind fun x cs => ofRes cs (items x)) := (pi_seq h).imp fun σ H R q => by
  obtain ⟨g, ρ, cs, en, c, p⟩ := q
  refine ⟨g, ρ, cs, en, c, (Post.bind (R := Rep X.K nm) p).imp ?_⟩
  rintro x H1 ⟨d, g1, cs1, e1, c1, r1, p1⟩
  cases q : items d with
  | none => rw [q] at p1; exact p1.elim
  | some ds =>
    rw [q] at p1
    obtain ⟨a, rfl, ⟨rfl, h1⟩ | ⟨rfl, h1⟩⟩ := items_seq r1 q
    · exact ⟨a, rfl, .inl ⟨h1, Post.ok p1 c1 (yl_list r1)⟩⟩
    · exact ⟨a, rfl, .inr ⟨h1, Post.ok p1 c1 (yl_tup r1)⟩⟩
/-- a list, a tuple or a text, walked -/
theorem pi_seqS {l : Expr} {tl : TE} (hl : PE X l tl) : PI X tg l (fun σ H R => tl σ H fun x H1 => (∃ y, x = .str y ∧ R (Its y) H1) ∨ ∃ a, x = .ref a ∧ ((∃ xs, SqL X.K H1 a xs) ∧ R (Itl X.K a) H1 ∨ (∃ xs, SqT X.K H1 a xs) ∧ R (Itt X.K a) H1)) := by
  refine ⟨fun pins s σ H R I h => ?_⟩
  refine thn (hl.run pins s σ H _ I h) fun v s1 ⟨x, H1, I1, r1, q1⟩ => ?_
  rcases q1 with ⟨y, ex, q⟩ | ⟨a, e, q1⟩
  · subst ex
    obtain ⟨t, rfl⟩ := r1
    cases ha : y.cps.all (· < 128)
    · exact wpAny_pyIter_wide ha (pi_one (tk := s1.toks) I1 _ (turn_str _ y t "str_iterator" (.inr rfl)) ⟨_, Heap.get?_push_size _ rfl, rfl, rfl⟩ q)
    · exact wpAny_pyIter_ascii ha (pi_one (tk := s1.toks) I1 _ (turn_str _ y t "str_ascii_iterator" (.inl rfl)) ⟨_, Heap.get?_push_size _ rfl, rfl, rfl⟩ q)
  subst e
  cases r1
  rcases q1 with ⟨⟨xs, hq⟩, q⟩ | ⟨⟨xs, hq⟩, q⟩
  · obtain ⟨its, rv, p, hz⟩ := I1.list hq
    refine wpAny_pyIter_list p.isList ?_
    refine ⟨s1.heap.objs.size, [s1.heap.objs.size], _, _, H1, rfl, I1.kept (t' := s1.toks) fun b o e => Heap.get?_push_of_some _ e, turn_list a _, ⟨_, Heap.get?_push_size _ rfl, rfl, rfl⟩, fun b hb => ?_, q⟩
    have e : b = s1.heap.objs.size := by simpa using hb
    subst e
    exact I1.fpOk (Nat.le_refl _) (I1.hok.fresh (Nat.le_refl _))
  · obtain ⟨its, rv, p, hz⟩ := I1.tuple hq
    refine wpAny_pyIter_tuple (show s1.heap.IsTuple a its.toArray from p) ?_
    refine ⟨s1.heap.objs.size, [s1.heap.objs.size], _, _, H1, rfl, I1.kept (t' := s1.toks) fun b o e => Heap.get?_push_of_some _ e, turn_tuple a _, ⟨_, Heap.get?_push_size _ rfl, rfl, rfl⟩, fun b hb => ?_, q⟩
    have e : b = s1.heap.objs.size := by simpa using hb
    subst e
    exact I1.fpOk (Nat.le_refl _) (I1.hok.fresh (Nat.le_refl _))
theorem chars_len (x : Str) : (chars x).length = x.cps.size := by simp [chars]
theorem yl_str {K : PySem.W.Frag} {g : Gh} {H : Hp} (x : Str) : Yl K nm g H (chars x) (Its x) := by
  intro g1 H1 e ok i
  refine ⟨fun hi => by show x.cps.size ≤ i; rw [← chars_len]; exact hi, fun d hd => ?_⟩
  unfold chars at hd
  rw [List.getElem?_map] at hd
  cases q : x.cps.toList[i]? with
  | none => rw [q] at hd; cases hd
  | some c =>
    rw [q] at hd
    cases hd
    have q' : x.cps[i]? = some c := by simpa using q
    have hi : i < x.cps.size := by
      rcases Nat.lt_or_ge i x.cps.size with z | z
      · exact z
      · rw [Array.getElem?_eq_none z] at q'; cases q'
    refine ⟨hi, fun v H2 ⟨e1, c', e2, e3⟩ => ?_⟩
    subst e1
    rw [q'] at e2
    cases e2
    subst e3
    exact ⟨g1, .inl ⟨rfl, rfl⟩, .str _⟩
theorem si_seq (h : PE X e (tV X.K nm W fa)) : PI X tg e (tI X.K nm W fun ρ cs => (fa ρ cs).bind fun x cs => ofRes cs (itemsI x)) := (pi_seqS h).imp fun σ H R q => by
  obtain ⟨g, ρ, cs, en, c, p⟩ := q
  refine ⟨g, ρ, cs, en, c, (Post.bind (R := Rep X.K nm) p).imp ?_⟩
  rintro x H1 ⟨d, g1, cs1, e1, c1, r1, p1⟩
  have other : itemsI d = items d → (∃ y, x = V.str y ∧ R (Its y) H1) ∨ ∃ a, x = V.ref a ∧ ((∃ xs, SqL X.K H1 a xs) ∧ R (Itl X.K a) H1 ∨ (∃ xs, SqT X.K H1 a xs) ∧ R (Itt X.K a) H1) := fun hd => by
    rw [hd] at p1
    cases q : items d with
    | none => rw [q] at p1; exact p1.elim
    | some ds =>
      rw [q] at p1
      obtain ⟨a, rfl, ⟨rfl, h1⟩ | ⟨rfl, h1⟩⟩ := items_seq r1 q
      · exact .inr ⟨a, rfl, .inl ⟨h1, Post.ok p1 c1 (yl_list r1)⟩⟩
      · exact .inr ⟨a, rfl, .inr ⟨h1, Post.ok p1 c1 (yl_tup r1)⟩⟩
  cases d with
  | str y =>
    cases r1
    exact .inl ⟨y, rfl, Post.ok p1 c1 (yl_str y)⟩
  | _ => exact other rfl
theorem si_enum {p tpos : Pos} {elts : List Expr} {kk : Nat} (hg : Gl X "enumerate") (hm : X.mg "enumerate" = none) (hn : isStar e = false) (h : PE X e (tV X.K nm W fa)) :
    PI X (.Tuple elts kk tpos) (.Call (.Name "enumerate" p) [e] [] pos) (tI X.K nm W fun ρ cs => (fa ρ cs).bind fun x cs => ofRes cs ((items x).map (enumD 0))) :=
  (pi_enumA (ta := tCons (tV X.K nm W fa) tNil) hg hm (pa_cons h pa_nil (star_not (isStar_not hn))) (star_not (isStar_not hn))).imp fun σ H R q => by
    obtain ⟨g, ρ, cs, en, c, p⟩ := q
    refine (fun (z : tV X.K nm W fa σ H fun x H1 => ∃ a xs, [x] = [V.ref a] ∧ ((SqL X.K H1 a xs ∧ R (Ite X.K a) H1) ∨ (SqT X.K H1 a xs ∧ R (IteT X.K a) H1))) => z) ?_
    refine ⟨g, ρ, cs, en, c, (Post.bind (R := Rep X.K nm) p).imp ?_⟩
    rintro x H1 ⟨d, g1, cs1, e1, c1, r1, p1⟩
    cases q : items d with
    | none => rw [q] at p1; exact p1.elim
    | some ds =>
      rw [q] at p1
      obtain ⟨a, rfl, ⟨rfl, xs, h1⟩ | ⟨rfl, xs, h1⟩⟩ := items_seq r1 q
      · exact ⟨a, xs, rfl, .inl ⟨h1, Post.ok p1 c1 (yl_enumL r1)⟩⟩
      · exact ⟨a, xs, rfl, .inr ⟨h1, Post.ok p1 c1 (yl_enumT r1)⟩⟩
theorem si_rng {p : Pos} (hg : Gl X "range") (hm : X.mg "range" = none) (hn : isStar e = false) (h : PE X e (tV X.K nm W fa)) :
    PI X tg (.Call (.Name "range" p) [e] [] pos) (tI X.K nm W fun ρ cs => (fa ρ cs).bind rngD) :=
  (pi_range1 (ta := tCons (tV X.K nm W fa) tNil) hg hm (pa_cons h pa_nil (star_not (isStar_not hn))) (star_not (isStar_not hn))).imp fun σ H R q => by
    obtain ⟨g, ρ, cs, en, c, p⟩ := q
    refine (fun (z : tV X.K nm W fa σ H fun x H1 => ∃ j : Int, [x] = [V.int j] ∧ -(2 ^ 62) ≤ j ∧ j < 2 ^ 62 ∧ R (Itr 0 j.toNat) H1) => z) ?_
    refine ⟨g, ρ, cs, en, c, (Post.bind (R := Rep X.K nm) p).imp ?_⟩
    rintro x H1 ⟨d, g1, cs1, e1, c1, r1, p1⟩
    cases d with
    | int n =>
      cases r1
      have p1 : Post X.K nm W (Yl X.K nm) g1 H1 (if ok62 n = true then .ok ((List.range n.toNat).map fun (i : Nat) => .int (i : Int)) cs1 else .bad) R := p1
      split at p1
      · rename_i hz
        rw [ok62_iff] at hz
        refine ⟨n, rfl, by omega, by omega, Post.ok p1 c1 ?_⟩
        have := yl_rng (K := X.K) (nm := nm) (g := g1) (H := H1) (lo := 0) (n := n.toNat)
        simpa using this
      · exact p1.elim
    | _ => exact p1.elim
theorem si_rng2 {p : Pos} (hg : Gl X "range") (hm : X.mg "range" = none) (hn : isStar a = false) (hn2 : isStar b = false) (ha : PE X a (tV X.K nm W fa)) (hb : PE X b (tV X.K nm W fb)) :
    PI X tg (.Call (.Name "range" p) [a, b] [] pos) (tI X.K nm W fun ρ cs => (fa ρ cs).bind fun x cs => (fb ρ cs).bind fun y cs => rng2D x y cs) :=
  (pi_range2 (ta := tCons (tV X.K nm W fa) (tCons (tV X.K nm W fb) tNil)) hg hm (pa_cons ha (pa_cons hb pa_nil (star_not (isStar_not hn2))) (star_not (isStar_not hn))) (by rw [star_not (isStar_not hn), star_not (isStar_not hn2)]; rfl) (by rw [star_not (isStar_not hn2)]; rfl)).imp fun σ H R q => by
    obtain ⟨g, ρ, cs, en, c, p⟩ := q
    refine (fun (z : tV X.K nm W fa σ H fun x H1 => tV X.K nm W fb σ H1 fun y H2 => ∃ i j : Int, [x, y] = [V.int i, V.int j] ∧ (-(2 ^ 62) ≤ i ∧ i < 2 ^ 62 ∧ -(2 ^ 62) ≤ j ∧ j < 2 ^ 62) ∧ R (Itr i (j - i).toNat) H2) => z) ?_
    refine ⟨g, ρ, cs, en, c, (Post.bind (R := Rep X.K nm) p).imp ?_⟩
    rintro x H1 ⟨d, g1, cs1, e1, c1, r1, p1⟩
    refine ⟨g1, ρ, cs1, en.mono e1 c.ok, c1, (Post.bind (R := Rep X.K nm) p1).imp ?_⟩
    rintro y H2 ⟨d2, g2, cs2, e2, c2, r2, p2⟩
    have r1 := r1.mono e2 c1.ok
    cases d with
    | int m =>
      cases d2 with
      | int n =>
        cases r1
        cases r2
        have p2 : Post X.K nm W (Yl X.K nm) g2 H2 (if ok62 m = true ∧ ok62 n = true then .ok ((List.range (n - m).toNat).map fun (i : Nat) => .int (m + (i : Int))) cs2 else .bad) R := p2
        split at p2
        · rename_i hz
          rw [ok62_iff, ok62_iff] at hz
          exact ⟨m, n, rfl, ⟨by omega, by omega, by omega, by omega⟩, Post.ok p2 c2 yl_rng⟩
        · exact p2.elim
      | _ => exact p2.elim
    | _ => exact p2.elim
end
end Dv
end
section
set_option Elab.async false
set_option linter.all false
set_option maxRecDepth 100000
set_option maxHeartbeats 4000000
namespace Dv
open PySem PySem.Spec PyProof.Rows L2
def E0 : XK := fun _ _ _ => False
theorem wipe_wipe {σ : L2.St} {vs : List Nat} : L2.wipe (L2.wipe σ vs) vs = L2.wipe σ vs := by
  have h : ∀ (ws : List Nat) (σ' : L2.St), (∀ i ∈ ws, i ∈ vs) → L2.wipe (L2.wipe σ' ws) vs = L2.wipe σ' vs := by
    intro ws
    induction ws with
    | nil => intro σ' _; rfl
    | cons w ws ih =>
      intro σ' hw
      have e1 : L2.wipe σ' (w :: ws) = (L2.wipe σ' ws).set w none := rfl
      rw [e1, wipe_set (hw w (by simp)), ih σ' fun i hi => hw i (List.mem_cons_of_mem _ hi)]
  exact h vs σ fun i hi => hi
section
variable {T : Tab} {O : Orc} {nm : Nm} {X : Cx} {W : XK} {a b c e tg : Expr} {es : List Expr} {fa fb : Env → Cells → Res D} {pos : Pos} {na nb nc : Den}
theorem lc_of {K : PySem.W.Frag} {is : List Nat} {one : Bool} {fi : Env → Cells → Res (List D)} {fc : Env → Cells → Res Bool} {fe : Env → Cells → Res D} {σ : L2.St} {H : Hp} {Q : VK}
    (q : tV K nm W (fun ρ cs => (fi ρ cs).bind fun xs cs => (compL (turnD is one fc fe ρ) [] xs cs).bind fun ds cs => .ok (.lst ds) cs) σ H Q) :
    tLc (tI K nm W fi) (tgOf K is one) (tT K nm E0 fc) (tV K nm E0 fe) is σ H Q := by
  obtain ⟨g, ρ, cs, en, c, p⟩ := q
  refine ⟨g, ρ, cs, en, c, (Post.bind (R := Yl K nm) p).imp ?_⟩
  rintro J H1 ⟨xs, g1, cs1, e1, c1, yl, p1⟩ D hD
  have en1 := en.mono e1 c.ok
  have h0 : Own K nm g1 (upd H1 D (.lst [])) (.lst []) (.ref D) := ⟨D, rfl, fun z => c1.ok.fzt D z hD, fun z => c1.ok.iot D z hD, [], upd_same, .nil⟩
  refine ⟨fun i m H => m = xs.length - i ∧ i ≤ xs.length ∧ ∃ g' cs' acc, Ext g1 H1 g' H ∧ CsOk K nm g' H cs' ∧ Own K nm g' H (.lst acc) (.ref D) ∧
    Post K nm W (Rep K nm) g1 H1 ((compL (turnD is one fc fe ρ) acc (xs.drop i) cs').bind fun ds cs => .ok (.lst ds) cs) Q, ⟨_, rfl, Nat.zero_le _, g1, cs1, [], ext_laid hD, c1.laid hD, h0, p1⟩, ?_⟩
  rintro i m H' ⟨rfl, hi, g', cs', acc, e', c', ow, p'⟩
  have Y := yl g' H' (e'.s c1.ok) c'.ok i
  by_cases hlt : i < xs.length
  · have hx : xs[i]? = some xs[i] := by simp [hlt]
    have hdr : xs.drop i = xs[i] :: xs.drop (i + 1) := (List.drop_eq_getElem_cons hlt)
    rw [hdr] at p'
    refine .inr ⟨(Y.2 _ hx).1, fun H => i + 1 ≤ xs.length ∧ ∃ g' cs' acc, Ext g1 H1 g' H ∧ CsOk K nm g' H cs' ∧ Own K nm g' H (.lst acc) (.ref D) ∧
      Post K nm W (Rep K nm) g1 H1 ((compL (turnD is one fc fe ρ) acc (xs.drop (i + 1)) cs').bind fun ds cs => .ok (.lst ds) cs) Q, fun H'' z => ⟨_, by omega, rfl, z⟩, fun x H2 hy => ?_⟩
    obtain ⟨g2, gr, rx⟩ := (Y.2 _ hx).2 x H2 hy
    have c2 := gr.csOk c'
    have e2 := e'.trans gr.ext
    have ow2 := ow.mono gr.ext c'.ok
    have en2 : EnvOk K nm g2 H2 (L2.wipe σ is) (wipeE ρ is) := (en1.mono e2 c1.ok).wipe is
    unfold compL turnD at p'
    cases hs : setTg is one xs[i] (wipeE ρ is) with
    | none => simp only [hs] at p'; exact p'.elim
    | some ρ' =>
      refine tgOf_ok en2 rx hs fun σ2 en3 hw _ => ⟨(hw is fun _ h => h).trans wipe_wipe, ?_⟩
      simp only [hs] at p'
      cases hf : fc ρ' cs' with
      | bad => rw [hf] at p'; exact p'.elim
      | exc _ _ => rw [hf] at p'; exact p'.elim
      | ok t cs3 =>
        rw [hf] at p'
        refine ⟨g2, ρ', cs', en3, c2, ?_⟩
        rw [hf]
        intro tt g3 H3 e3 c3 ht
        subst ht
        have en4 := en3.mono e3 c2.ok
        have e4 := e2.trans e3
        have ow3 := ow2.mono e3 c2.ok
        cases t with
        | false =>
          show _ ∧ _
          exact ⟨hlt, g3, cs3, acc, e4, c3, ow3, p'⟩
        | true =>
          refine (fun (z : tV K nm E0 fe σ2 H3 _) => z) ?_
          refine ⟨g3, ρ', cs3, en4, c3, ?_⟩
          cases hd : fe ρ' cs3 with
          | bad => simp only [bind_ok, hd, bind_bad, if_true] at p'; exact p'.elim
          | exc _ _ => simp only [bind_ok, hd, bind_exc, if_true] at p'; exact p'.elim
          | ok d cs4 =>
            simp only [bind_ok, hd, if_true] at p'
            intro v g5 H5 e5 c5 r5
            split at p'
            · rename_i hz
              have ow5 := ow3.mono e5 c3.ok
              have ow5' := ow5
              obtain ⟨D', eD, f1, f2, vs, hv, rv⟩ := ow5
              cases eD
              have ex := own_upd (o := .lst (vs ++ [v])) ow5'
              refine ⟨vs, hv, by rw [← rv.length]; exact hz, hlt, g5, cs4, acc ++ [d], own_ext (e4.trans e5) hD, own_cs ow5' c5, ⟨D, rfl, f1, f2, vs ++ [v], upd_same, (rv.append (.cons r5 .nil)).monoS ex⟩, p'⟩
            · exact p'.elim
  · have e : i = xs.length := by omega
    subst e
    refine .inl ⟨Y.1 (Nat.le_refl _), ?_⟩
    rw [List.drop_length] at p'
    have p' : Post K nm W (Rep K nm) g1 H1 (.ok (.lst acc) cs') Q := p'
    obtain ⟨r, c3, _⟩ := own_frz ow c'
    exact Post.okE p' (frz_ext e' hD) c3 r
/-- a comprehension -/
theorem d_comp {elt iter : Expr} {ifs : List Expr} {scope : Scope} {own : List (Str × Nat)} {is : List Nat} {one : Bool} {fi : Env → Cells → Res (List D)} {fc : Env → Cells → Res Bool} {fe : Env → Cells → Res D}
    (hc : X.calm = true) (hN : X.N.Nodup) (hi : PI X tg iter (tI X.K nm W fi)) (ok : BlkOk X.N X.env.scope scope own) (hown : own.map (·.2) = is)
    (hg : ∀ (s : Shared) (H : Hp) (C : Addr) (cl : List (Str × Addr)) (fp : List Addr), PG (X.blk s H scope (compEnvC scope cl C X.env) fp) tg (tgOf X.K is one))
    (ht : ∀ (s : Shared) (H : Hp) (C : Addr) (cl : List (Str × Addr)) (fp : List Addr), PTs (X.blk s H scope (compEnvC scope cl C X.env) fp) ifs (tT X.K nm E0 fc))
    (he : ∀ (s : Shared) (H : Hp) (C : Addr) (cl : List (Str × Addr)) (fp : List Addr), PE (X.blk s H scope (compEnvC scope cl C X.env) fp) elt (tV X.K nm E0 fe)) (hs : ∀ x, foldedSetIterable iter X.env x = pure x) :
    PE X (.ListComp elt [⟨tg, iter, ifs, 0⟩] scope pos) (tV X.K nm W fun ρ cs => (fi ρ cs).bind fun xs cs => (compL (turnD is one fc fe ρ) [] xs cs).bind fun ds cs => .ok (.lst ds) cs) := by
  subst hown
  exact (pe_lc hc hN hi ok hg ht he hs).imp fun σ H Q q => lc_of q
/-- its ifs: none, or one -/
theorem d_if0 : PTs X [] (tT X.K nm W fun _ cs => .ok true cs) := ⟨fun pins s σ H Q I h => by
  obtain ⟨g, ρ, cs, en, c, p⟩ := h
  exact pts_nil.run pins s σ H Q I (Post.ok p c rfl)⟩
theorem d_if1 {f : Env → Cells → Res Bool} (h : PT X c (tT X.K nm W f)) : PTs X [c] (tT X.K nm W f) := pts_one h
end
end Dv
end
section
set_option Elab.async false
set_option linter.all false
set_option maxRecDepth 100000
set_option maxHeartbeats 4000000
namespace Dv
open PySem PySem.Spec PyProof.Rows L2
/-! ### the keys of a dict that a comprehension makes of ints -/
section
variable {X : Cx} {tg e : Expr} {td : TE}
/-- a new dict walked: it stays as it is from then on -/
def iKeysN (td : TE) : TI := fun σ H R => td σ H fun x H1 => ∃ d kvs, x = .ref d ∧ H1 d = some (.dK kvs) ∧ ∀ o, R (Itk d o kvs) (upd H1 d (.frz o (.dK kvs)))
theorem pi_keysN (he : PE X e td) : PI X tg e (iKeysN td) := by
  refine ⟨fun pins s σ H R I h => ?_⟩
  refine thn (he.run pins s σ H _ I h) fun u s1 ⟨x, H1, I1, rx, d, kvs, ex, hd, q⟩ => ?_
  subst ex
  obtain rfl : u = Value.ref d := rx
  obtain ⟨o, I2⟩ := I1.lock hd (show Mut (some (.dK kvs)) from by trivial)
  have hd2 : upd H1 d (.frz o (.dK kvs)) d = some (.frz o (.dK kvs)) := upd_same
  obtain ⟨hs, hgd, hx, es, ep, vs, hdt, hsz, kv, hm⟩ := I2.frzK hd2
  refine iter_keys hs hgd hx hdt (pi_one (tk := s1.toks) I2 _ (turn_keys _ hdt) ⟨_, Heap.get?_push_size _ rfl, rfl, ?_⟩ (q o))
  rw [hsz] <;> rfl
end
def kvT (acc : List Int) : List (Key × V) := acc.map fun n => (Sum.inl n, V.bl true)
theorem put_kvT (acc : List Int) (n : Int) : putK (kvT acc) (Sum.inl n) (V.bl true) = kvT (if n ∈ acc then acc else acc ++ [n]) := by
  unfold putK kvT
  have e : ((acc.map fun n => ((Sum.inl n : Key), V.bl true)).any fun kv => decide (kv.1 = Sum.inl n)) = decide (n ∈ acc) := by
    rw [Bool.eq_iff_iff]
    simp
  rw [e]
  by_cases h : n ∈ acc
  · simp [h]
  · simp [h]
theorem ddp_len : ∀ (ns acc : List Int), (ddp acc ns).length ≤ acc.length + ns.length
  | [], acc => by simp [ddp]
  | n :: ns, acc => by
    unfold ddp
    split
    · have := ddp_len ns acc
      simp; omega
    · have := ddp_len ns (acc ++ [n])
      simp at this ⊢; omega
theorem intsD_of : ∀ {ds : List D} {ns : List Int}, intsD ds = some ns → ds = ns.map .int
  | [], ns, h => by simp [intsD] at h; subst h; rfl
  | .int i :: ds, ns, h => by
    simp only [intsD] at h
    cases q : intsD ds with
    | none => rw [q] at h; cases h
    | some ms =>
      rw [q] at h
      cases h
      rw [intsD_of q]
      rfl
  | .non :: _, _, e => by simp [intsD] at e
  | .bl _ :: _, _, e => by simp [intsD] at e
  | .str _ :: _, _, e => by simp [intsD] at e
  | .tup _ :: _, _, e => by simp [intsD] at e
  | .lst _ :: _, _, e => by simp [intsD] at e
  | .dic _ :: _, _, e => by simp [intsD] at e
  | .ins _ _ :: _, _, e => by simp [intsD] at e
  | .cell _ :: _, _, e => by simp [intsD] at e
  | .cls _ :: _, _, e => by simp [intsD] at e
  | .scr _ :: _, _, e => by simp [intsD] at e
section
variable {K : PySem.W.Frag} {nm : Nm} {W : XK} {g g' : Gh} {H H' : Hp} {cs : Cells}
/-- an object of its own, not known by any value -/
def Lone (g : Gh) (H : Hp) (a : Addr) (o : HO) : Prop := ¬ g.fz a ∧ a ∉ g.io ∧ H a = some o
theorem Lone.mono {a : Addr} {o : HO} (h : Lone g H a o) (e : Ext g H g' H') : Lone g' H' a o := by
  obtain ⟨h1, h2, h3⟩ := h
  obtain ⟨t, e1, e2⟩ := e.io
  refine ⟨fun q => ?_, fun q => ?_, e.keep a o h3 h2⟩
  · rcases e.fzn a q with z | z
    · exact h1 z
    · rw [h3] at z; cases z
  · rw [e1] at q
    rcases List.mem_append.mp q with z | z
    · exact h2 z
    · have := e2 a z; rw [h3] at this; cases this
theorem Lone.exS {a : Addr} {o o' : HO} (h : Lone g H a o) : ExtS g H g (upd H a o') :=
  ⟨⟨[], by simp⟩, fun _ h => h, fun b o' hb q => by rw [upd_ne (show b ≠ a from fun e => h.1 (e ▸ hb))]; exact q⟩
theorem Lone.csOk {a : Addr} {o o' : HO} (h : Lone g H a o) (c : CsOk K nm g H cs) : CsOk K nm g (upd H a o') cs := by
  have k : ∀ b, H b ≠ none → upd H a o' b ≠ none := fun b q => by
    by_cases e : b = a
    · subst e; rw [upd_same]; simp
    · rw [upd_ne e]; exact q
  refine ⟨⟨fun b q => k b (c.ok.fzt b q), fun b q => k b (c.ok.iot b q), c.ok.dis, c.ok.nd⟩, c.len, fun n x b hn hb => ?_⟩
  have z := c.at_ n x b hn hb
  have hne : b ≠ a := fun e => h.2.1 (e ▸ List.mem_of_getElem? hb)
  have ex := h.exS (o' := o')
  cases x with
  | lst ds => obtain ⟨vs, q, r⟩ := z; exact ⟨vs, (upd_ne hne).trans q, r.monoS ex⟩
  | ins c fs => obtain ⟨dx, vs, q, r⟩ := z; exact ⟨dx, vs, (upd_ne hne).trans q, r.monoS ex⟩
theorem Lone.frz {a : Addr} {o : HO} (h : Lone g H a o) (c : CsOk K nm g H cs) : CsOk K nm (g.add a) H cs := by
  have ex : ExtS g H (g.add a) H := ⟨⟨[], by simp [Gh.add]⟩, fun b hb => .inl hb, fun b o hb q => q⟩
  have ok : GOk (g.add a) H := by
    refine ⟨fun b q => ?_, c.ok.iot, fun b q z => ?_, c.ok.nd⟩
    · rcases q with q | q
      · exact c.ok.fzt b q
      · rw [q, h.2.2]; simp
    · rcases z with z | z
      · exact c.ok.dis b q z
      · exact h.2.1 (z ▸ q)
  refine ⟨ok, c.len, fun n x b hn hb => ?_⟩
  have z := c.at_ n x b hn hb
  cases x with
  | lst ds => obtain ⟨vs, q, r⟩ := z; exact ⟨vs, q, r.monoS ex⟩
  | ins c fs => obtain ⟨dx, vs, q, r⟩ := z; exact ⟨dx, vs, q, r.monoS ex⟩
theorem yl_keys {a : Addr} {o : Obj} {acc : List Int} (hf : g.fz a) (h : H a = some (.frz o (.dK (kvT acc)))) : Yl K nm g H (acc.map .int) (Itk a o (kvT acc)) := by
  intro g1 H1 e ok i
  have h1 := e.kf a _ hf h
  have hl : (kvT acc).length = acc.length := by simp [kvT]
  refine ⟨fun hi => ⟨h1, by rw [hl]; simpa using hi⟩, fun d hd => ?_⟩
  rw [List.getElem?_map] at hd
  cases q : acc[i]? with
  | none => rw [q] at hd; cases hd
  | some n =>
    rw [q] at hd
    cases hd
    have hi : i < acc.length := by
      rcases Nat.lt_or_ge i acc.length with z | z
      · exact z
      · rw [List.getElem?_eq_none z] at q; cases q
    refine ⟨⟨h1, by rw [hl]; exact hi⟩, fun x H2 ⟨e1, k, v, e2, e3⟩ => ?_⟩
    subst e1
    have : (kvT acc)[i]? = some (Sum.inl n, V.bl true) := by simp [kvT, q]
    rw [this] at e2
    cases e2
    subst e3
    exact ⟨g1, .inl ⟨rfl, rfl⟩, .int n⟩
theorem lone_new {a : Addr} {o : HO} (c : CsOk K nm g H cs) (h : H a = none) : Lone g (upd H a o) a o :=
  ⟨fun q => c.ok.fzt a q h, fun q => c.ok.iot a q h, upd_same⟩
end
section
variable {T : Tab} {O : Orc} {nm : Nm} {X : Cx} {W : XK} {a b c e tg : Expr} {pos : Pos}
theorem dk_of {K : PySem.W.Frag} {j : Nat} {fi : Env → Cells → Res (List D)} {σ : L2.St} {H : Hp} {R : It → Hp → Prop}
    (q : tI K nm W (fun ρ cs => (fi ρ cs).bind fun xs cs => if j < ρ.length then dkD xs cs else .bad) σ H R) :
    iKeysN (tDc (tI K nm W fi) (tgOf K [j] true) (tT K nm E0 fun _ cs => .ok true cs) (tV K nm E0 fun ρ cs => ofRes cs (getV ρ j)) (tV K nm E0 fun _ cs => .ok (.bl true) cs) [j]) σ H R := by
  obtain ⟨g, ρ, cs, en, c, p⟩ := q
  refine ⟨g, ρ, cs, en, c, (Post.bind (R := Yl K nm) p).imp ?_⟩
  rintro J H1 ⟨xs, g1, cs1, e1, c1, yl, p1⟩ D hD
  have en1 := en.mono e1 c.ok
  by_cases hj : j < ρ.length
  case neg => rw [if_neg hj] at p1; exact p1.elim
  rw [if_pos hj] at p1
  unfold dkD at p1
  cases hx : intsD xs with
  | none => rw [hx] at p1; exact p1.elim
  | some ns =>
    rw [hx] at p1
    have hx := intsD_of hx
    subst hx
    have p1 : Post K nm W (Yl K nm) g1 H1 (if ns.length < sizeLine then .ok ((ddp [] ns).map .int) cs1 else .bad) R := p1
    split at p1
    · rename_i hz
      refine ⟨fun i m H => m = ns.length - i ∧ i ≤ ns.length ∧ ∃ g' acc, Ext g1 H1 g' H ∧ CsOk K nm g' H cs1 ∧ Lone g' H D (.dK (kvT acc)) ∧ acc.length ≤ i ∧ ddp acc (ns.drop i) = ddp [] ns, ⟨_, rfl, Nat.zero_le _, g1, [], ext_laid hD, c1.laid hD, lone_new c1 hD, Nat.le_refl _, rfl⟩, ?_⟩
      rintro i m H' ⟨rfl, hi, g', acc, e', c', lo, hl, hd⟩
      have Y := yl g' H' (e'.s c1.ok) c'.ok i
      by_cases hlt : i < ns.length
      · have hx : (ns.map Dv.D.int)[i]? = some (.int ns[i]) := by simp [hlt]
        have hdr : ns.drop i = ns[i] :: ns.drop (i + 1) := (List.drop_eq_getElem_cons hlt)
        rw [hdr] at hd
        refine .inr ⟨(Y.2 _ hx).1, fun H => i + 1 ≤ ns.length ∧ ∃ g' acc, Ext g1 H1 g' H ∧ CsOk K nm g' H cs1 ∧ Lone g' H D (.dK (kvT acc)) ∧ acc.length ≤ i + 1 ∧ ddp acc (ns.drop (i + 1)) = ddp [] ns, fun H'' z => ⟨_, by omega, rfl, z⟩, fun x H2 hy => ?_⟩
        obtain ⟨g2, gr, rx⟩ := (Y.2 _ hx).2 x H2 hy
        have c2 := gr.csOk c'
        have e2 := e'.trans gr.ext
        have lo2 := lo.mono gr.ext
        have en2 : EnvOk K nm g2 H2 (L2.wipe σ [j]) (wipeE ρ [j]) := (en1.mono e2 c1.ok).wipe [j]
        have hjw : j < (wipeE ρ [j]).length := by simpa [wipeE] using hj
        have hs : setTg [j] true (.int ns[i]) (wipeE ρ [j]) = some ((wipeE ρ [j]).set j (.val (.int ns[i]))) := by
          show setAll [j] [_] _ = _
          unfold setAll
          rw [if_pos hjw]
          rfl
        have hv : getV ((wipeE ρ [j]).set j (.val (.int ns[i]))) j = some (.int ns[i]) := by
          unfold getV
          rw [List.getElem?_set_self hjw]
        refine tgOf_ok en2 rx hs fun σ2 en3 hw _ => ⟨(hw [j] fun _ h => h).trans wipe_wipe, g2, _, cs1, en3, c2, ?_⟩
        intro tt g3 H3 e3 c3 ht
        subst ht
        refine (fun (z : tV K nm E0 (fun ρ cs => ofRes cs (getV ρ j)) σ2 H3 _) => z) ⟨g3, _, cs1, en3.mono e3 c2.ok, c3, ?_⟩
        show Post K nm E0 (Rep K nm) g3 H3 (ofRes cs1 (getV ((wipeE ρ [j]).set j (.val (.int ns[i]))) j)) _
        rw [hv]
        intro v g4 H4 e4 c4 r4
        cases r4
        refine ⟨g4, _, cs1, (en3.mono e3 c2.ok).mono e4 c3.ok, c4, ?_⟩
        intro v g5 H5 e5 c5 r5
        cases r5
        have lo5 := ((lo2.mono e3).mono e4).mono e5
        refine ⟨kvT acc, Sum.inl ns[i], rfl, lo5.2.2, ?_, hlt, g5, _, own_ext (((e2.trans e3).trans e4).trans e5) hD, lo5.csOk c5, ⟨lo5.1, lo5.2.1, by rw [upd_same, put_kvT]⟩, ?_, ?_⟩
        · simp only [kvT, List.length_map]
          omega
        · split
          · omega
          · simp; omega
        · rw [← hd]
          show _ = if ns[i] ∈ acc then ddp acc _ else ddp (acc ++ [ns[i]]) _
          split <;> rfl
      · have e : i = ns.length := by omega
        subst e
        refine .inl ⟨Y.1 (by simp), D, kvT acc, rfl, lo.2.2, fun o => ?_⟩
        rw [List.drop_length] at hd
        have hd : acc = ddp [] ns := hd
        subst hd
        have lo3 : Lone g' (upd H' D (.frz o (.dK (kvT (ddp [] ns))))) D (.frz o (.dK (kvT (ddp [] ns)))) := ⟨lo.1, lo.2.1, upd_same⟩
        exact Post.okE p1 (frz_ext (own_ext e' hD) hD) (lo3.frz (lo.csOk c')) (yl_keys (.inr rfl) upd_same)
    · exact p1.elim
/-- the keys walked -/
theorem si_dkeys {kx vx iter : Expr} {scope : Scope} {own : List (Str × Nat)} {j : Nat} {tg2 : Expr} {fi : Env → Cells → Res (List D)}
    (hc : X.calm = true) (hN : X.N.Nodup) (hi : PI X tg iter (tI X.K nm W fi)) (ok : BlkOk X.N X.env.scope scope own) (hown : own.map (·.2) = [j])
    (hg : ∀ (s : Shared) (H : Hp) (C : Addr) (cl : List (Str × Addr)) (fp : List Addr), PG (X.blk s H scope (compEnvC scope cl C X.env) fp) tg (tgOf X.K [j] true))
    (hk : ∀ (s : Shared) (H : Hp) (C : Addr) (cl : List (Str × Addr)) (fp : List Addr), PE (X.blk s H scope (compEnvC scope cl C X.env) fp) kx (tV X.K nm E0 fun ρ cs => ofRes cs (getV ρ j)))
    (he : ∀ (s : Shared) (H : Hp) (C : Addr) (cl : List (Str × Addr)) (fp : List Addr), PE (X.blk s H scope (compEnvC scope cl C X.env) fp) vx (tV X.K nm E0 fun _ cs => .ok (.bl true) cs)) (hs : ∀ x, foldedSetIterable iter X.env x = pure x) :
    PI X tg2 (.DictComp kx vx [⟨tg, iter, [], 0⟩] scope pos) (tI X.K nm W fun ρ cs => (fi ρ cs).bind fun xs cs => if j < ρ.length then dkD xs cs else .bad) :=
  (pi_keysN (pe_dc hc hN hi ok hg (fun s H C cl fp => d_if0) hk he hs)).imp fun σ H Q q => by
    rw [hown]
    exact dk_of q
end
end Dv
end
section
set_option Elab.async false
set_option linter.all false
set_option maxRecDepth 100000
set_option maxHeartbeats 4000000
namespace Dv
open PySem PySem.Spec PyProof.Rows L2
/-! ### a comprehension over a list of one's own, which stays as it is meanwhile -/
/-- what is walked yields these, as long as nothing that stands is changed -/
def YlE (K : PySem.W.Frag) (nm : Nm) (g : Gh) (H : Hp) (xs : List D) (J : It) : Prop := ∀ g1 H1, Ext g H g1 H1 → GOk g1 H1 → ∀ i, (xs.length ≤ i → J.stop i H1) ∧
  (∀ d, xs[i]? = some d → J.go i H1 ∧ ∀ x H2, J.yld i H1 x H2 → ∃ g2, Grow g1 H1 g2 H2 ∧ Rep K nm g2 H2 d x)
section
variable {K : PySem.W.Frag} {nm : Nm} {W : XK} {g g' : Gh} {H H' : Hp} {cs : Cells}
theorem yle_own {a : Addr} {ds : List D} (ok : GOk g H) (o : Own K nm g H (.lst ds) (.ref a)) : YlE K nm g H ds (Itl K a) := by
  intro g1 H1 e ok1 i
  obtain ⟨b, eb, _, _, vs, h1, h2⟩ := o.mono e ok
  cases eb
  refine ⟨fun hi => ⟨vs, .of h1, by rw [← h2.length]; exact hi⟩, fun d hd => ?_⟩
  obtain ⟨v, hv, rv⟩ := h2.get hd
  refine ⟨⟨vs, v, .of h1, hv⟩, fun x H2 ⟨e1, e2⟩ => ?_⟩
  subst e1
  have : vs[i]? = some x := e2 vs (.of h1)
  rw [hv] at this
  cases this
  exact ⟨g1, .inl ⟨rfl, rfl⟩, rv⟩
end
section
variable {T : Tab} {O : Orc} {nm : Nm} {X : Cx} {W : XK} {a b c e tg : Expr} {es : List Expr} {fa fb : Env → Cells → Res D} {pos : Pos} {na nb nc : Den}
theorem lcO_of {K : PySem.W.Frag} {is : List Nat} {one : Bool} {fi : Env → Cells → Res (List D)} {fc : Env → Cells → Res Bool} {fe : Env → Cells → Res D} {σ : L2.St} {H : Hp} {Q : VK}
    (q : tV K nm W (fun ρ cs => (fi ρ cs).bind fun xs cs => (compL (turnD is one fc fe ρ) [] xs cs).bind fun ds cs => .ok (.lst ds) cs) σ H Q) :
    tLc (tG K nm W (YlE K nm) fi) (tgOf K is one) (tT K nm E0 fc) (tV K nm E0 fe) is σ H Q := by
  obtain ⟨g, ρ, cs, en, c, p⟩ := q
  refine ⟨g, ρ, cs, en, c, (Post.bind (R := YlE K nm) p).imp ?_⟩
  rintro J H1 ⟨xs, g1, cs1, e1, c1, yl, p1⟩ D hD
  have en1 := en.mono e1 c.ok
  have h0 : Own K nm g1 (upd H1 D (.lst [])) (.lst []) (.ref D) := ⟨D, rfl, fun z => c1.ok.fzt D z hD, fun z => c1.ok.iot D z hD, [], upd_same, .nil⟩
  refine ⟨fun i m H => m = xs.length - i ∧ i ≤ xs.length ∧ ∃ g' cs' acc, Ext g1 H1 g' H ∧ CsOk K nm g' H cs' ∧ Own K nm g' H (.lst acc) (.ref D) ∧
    Post K nm W (Rep K nm) g1 H1 ((compL (turnD is one fc fe ρ) acc (xs.drop i) cs').bind fun ds cs => .ok (.lst ds) cs) Q, ⟨_, rfl, Nat.zero_le _, g1, cs1, [], ext_laid hD, c1.laid hD, h0, p1⟩, ?_⟩
  rintro i m H' ⟨rfl, hi, g', cs', acc, e', c', ow, p'⟩
  have Y := yl g' H' e' c'.ok i
  by_cases hlt : i < xs.length
  · have hx : xs[i]? = some xs[i] := by simp [hlt]
    have hdr : xs.drop i = xs[i] :: xs.drop (i + 1) := (List.drop_eq_getElem_cons hlt)
    rw [hdr] at p'
    refine .inr ⟨(Y.2 _ hx).1, fun H => i + 1 ≤ xs.length ∧ ∃ g' cs' acc, Ext g1 H1 g' H ∧ CsOk K nm g' H cs' ∧ Own K nm g' H (.lst acc) (.ref D) ∧
      Post K nm W (Rep K nm) g1 H1 ((compL (turnD is one fc fe ρ) acc (xs.drop (i + 1)) cs').bind fun ds cs => .ok (.lst ds) cs) Q, fun H'' z => ⟨_, by omega, rfl, z⟩, fun x H2 hy => ?_⟩
    obtain ⟨g2, gr, rx⟩ := (Y.2 _ hx).2 x H2 hy
    have c2 := gr.csOk c'
    have e2 := e'.trans gr.ext
    have ow2 := ow.mono gr.ext c'.ok
    have en2 : EnvOk K nm g2 H2 (L2.wipe σ is) (wipeE ρ is) := (en1.mono e2 c1.ok).wipe is
    unfold compL turnD at p'
    cases hs : setTg is one xs[i] (wipeE ρ is) with
    | none => simp only [hs] at p'; exact p'.elim
    | some ρ' =>
      refine tgOf_ok en2 rx hs fun σ2 en3 hw _ => ⟨(hw is fun _ h => h).trans wipe_wipe, ?_⟩
      simp only [hs] at p'
      cases hf : fc ρ' cs' with
      | bad => rw [hf] at p'; exact p'.elim
      | exc _ _ => rw [hf] at p'; exact p'.elim
      | ok t cs3 =>
        rw [hf] at p'
        refine ⟨g2, ρ', cs', en3, c2, ?_⟩
        rw [hf]
        intro tt g3 H3 e3 c3 ht
        subst ht
        have en4 := en3.mono e3 c2.ok
        have e4 := e2.trans e3
        have ow3 := ow2.mono e3 c2.ok
        cases t with
        | false =>
          show _ ∧ _
          exact ⟨hlt, g3, cs3, acc, e4, c3, ow3, p'⟩
        | true =>
          refine (fun (z : tV K nm E0 fe σ2 H3 _) => z) ?_
          refine ⟨g3, ρ', cs3, en4, c3, ?_⟩
          cases hd : fe ρ' cs3 with
          | bad => simp only [bind_ok, hd, bind_bad, if_true] at p'; exact p'.elim
          | exc _ _ => simp only [bind_ok, hd, bind_exc, if_true] at p'; exact p'.elim
          | ok d cs4 =>
            simp only [bind_ok, hd, if_true] at p'
            intro v g5 H5 e5 c5 r5
            split at p'
            · rename_i hz
              have ow5 := ow3.mono e5 c3.ok
              have ow5' := ow5
              obtain ⟨D', eD, f1, f2, vs, hv, rv⟩ := ow5
              cases eD
              have ex := own_upd (o := .lst (vs ++ [v])) ow5'
              refine ⟨vs, hv, by rw [← rv.length]; exact hz, hlt, g5, cs4, acc ++ [d], own_ext (e4.trans e5) hD, own_cs ow5' c5, ⟨D, rfl, f1, f2, vs ++ [v], upd_same, (rv.append (.cons r5 .nil)).monoS ex⟩, p'⟩
            · exact p'.elim
  · have e : i = xs.length := by omega
    subst e
    refine .inl ⟨Y.1 (Nat.le_refl _), ?_⟩
    rw [List.drop_length] at p'
    have p' : Post K nm W (Rep K nm) g1 H1 (.ok (.lst acc) cs') Q := p'
    obtain ⟨r, c3, _⟩ := own_frz ow c'
    exact Post.okE p' (frz_ext e' hD) c3 r
theorem d_compO {elt iter : Expr} {ifs : List Expr} {scope : Scope} {own : List (Str × Nat)} {is : List Nat} {one : Bool} {fi : Env → Cells → Res (List D)} {fc : Env → Cells → Res Bool} {fe : Env → Cells → Res D}
    (hc : X.calm = true) (hN : X.N.Nodup) (hi : PI X tg iter (tG X.K nm W (YlE X.K nm) fi)) (ok : BlkOk X.N X.env.scope scope own) (hown : own.map (·.2) = is)
    (hg : ∀ (s : Shared) (H : Hp) (C : Addr) (cl : List (Str × Addr)) (fp : List Addr), PG (X.blk s H scope (compEnvC scope cl C X.env) fp) tg (tgOf X.K is one))
    (ht : ∀ (s : Shared) (H : Hp) (C : Addr) (cl : List (Str × Addr)) (fp : List Addr), PTs (X.blk s H scope (compEnvC scope cl C X.env) fp) ifs (tT X.K nm E0 fc))
    (he : ∀ (s : Shared) (H : Hp) (C : Addr) (cl : List (Str × Addr)) (fp : List Addr), PE (X.blk s H scope (compEnvC scope cl C X.env) fp) elt (tV X.K nm E0 fe)) (hs : ∀ x, foldedSetIterable iter X.env x = pure x) :
    PE X (.ListComp elt [⟨tg, iter, ifs, 0⟩] scope pos) (tV X.K nm W fun ρ cs => (fi ρ cs).bind fun xs cs => (compL (turnD is one fc fe ρ) [] xs cs).bind fun ds cs => .ok (.lst ds) cs) := by
  subst hown
  exact (pe_lc hc hN hi ok hg ht he hs).imp fun σ H Q q => lcO_of q
theorem si_own {i : Nat} {x : Str} (h : PE X (.Name x pos) (tVar i)) : PI X tg (.Name x pos) (tG X.K nm W (YlE X.K nm) fun ρ cs => ownD ρ i cs) :=
  (pi_list h).imp fun σ H R q => by
    obtain ⟨g, ρ, cs, en, c, p⟩ := q
    have p : Post X.K nm W (YlE X.K nm) g H (ownD ρ i cs) R := p
    unfold ownD at p
    cases e1 : ρ[i]? with
    | none => rw [e1] at p; exact p.elim
    | some s =>
      rw [e1] at p
      have := en.sl i s e1
      cases s with
      | own d =>
        cases d with
        | lst ds =>
          obtain ⟨v, e2, r⟩ := this
          have r0 := r
          obtain ⟨a, ea, _, _, vs, h1, h2⟩ := r
          subst ea
          exact ⟨.ref a, e2, a, rfl, ⟨vs, .of h1⟩, Post.ok p c (yle_own c.ok r0)⟩
        | _ => exact p.elim
      | _ => exact p.elim
end
end Dv
end
section
set_option Elab.async false
set_option linter.all false
set_option maxRecDepth 100000
set_option maxHeartbeats 4000000
namespace Dv
open PySem PySem.Spec PyProof.Rows L2
/-! ### classes: constants, classmethods, a class in a local name -/
section
variable {T : Tab} {O : Orc} {nm : Nm} {X : Cx} {W : XK} {a b e : Expr} {es : List Expr} {fa fb : Env → Cells → Res D} {pos : Pos}
theorem isbD_bl {neg b : Bool} {x d : D} {cs cs' : Cells} (h : isbD neg b x cs = .ok d cs') : ∃ k, d = .bl k := by
  unfold isbD at h
  split at h
  · injection h with h _
    exact ⟨_, h.symm⟩
  · cases h
theorem d_isB (neg b : Bool) {na : Den} (ha : DE X nm W a na) {j : Nat} {pos' : Pos} : DE X nm W (.Compare a [if neg = true then .IsNot else .Is] [.Constant (.bool b) j pos'] pos) (ofV fun ρ cs => (na.v ρ cs).bind fun x cs => isbD neg b x cs) := by
  have main : ∀ σ H Q, tV X.K nm W (fun ρ cs => (na.v ρ cs).bind fun x cs => isbD neg b x cs) σ H Q → tOp (fun x y H Q => ∃ a b, x = .bl a ∧ y = .bl b ∧ Q (.bl (if neg = true then !decide (a = b) else decide (a = b))) H) (tV X.K nm W na.v) (tC (.bl b)) σ H Q := by
    intro σ H Q q
    obtain ⟨g, ρ, cs, en, c, p⟩ := q
    refine ⟨g, ρ, cs, en, c, (Post.bind (R := Rep X.K nm) p).imp ?_⟩
    rintro x H1 ⟨dx, g1, cs1, e1, c1, r1, p1⟩
    cases dx with
    | bl k =>
      cases r1
      exact ⟨k, b, rfl, rfl, Post.ok (a := D.bl (if neg = true then !decide (k = b) else decide (k = b))) p1 c1 (.bl _)⟩
    | _ => exact p1.elim
  have ho : OpR X (compareOp (if neg = true then .IsNot else .Is)) (fun x y H Q => ∃ a b, x = .bl a ∧ y = .bl b ∧ Q (.bl (if neg = true then !decide (a = b) else decide (a = b))) H) := by
    cases neg with
    | true => exact op_isnot_bl
    | false => exact op_is_bl
  have hm : behindInMarks (if neg = true then CmpOp.IsNot else .Is) (.Constant (.bool b) j pos') = false := by cases neg <;> rfl
  have hv := (pe_cmpR (pos := pos) ho ha.v (pe_bl (b := b) (j := j) (pos := pos')) hm).imp main
  exact ⟨hv, d_B hv, (pt_cmpR ho ha.v pe_bl hm).imp fun σ H Q q => main σ H _ (to_bool (fun ρ cs d cs' e => by
    cases q : na.v ρ cs with
    | ok x cs2 => rw [q] at e; exact isbD_bl e
    | exc _ _ => rw [q] at e; cases e
    | bad => rw [q] at e; cases e) q)⟩
theorem d_cval (C : Ctx T O nm X W) {x f : Str} {p : Pos} {c j : Nat} (he : PE X (.Name x p) (tC (.ref (nm.ca c)))) (hf : nm.at_ j = f) :
    PE X (.Attribute (.Name x p) f pos) (tV X.K nm W fun _ cs => ofRes cs ((T.cls[c]?).bind fun k => k.cvs.lookup j)) := (ClX.pe_cval he).imp fun σ H Q q => by
  obtain ⟨g, ρ, cs, en, co, p⟩ := q
  have p : Post X.K nm W (Rep X.K nm) g H (ofRes cs ((T.cls[c]?).bind fun k => k.cvs.lookup j)) Q := p
  cases hk : T.cls[c]? with
  | none => rw [hk] at p; exact p.elim
  | some k =>
    rw [hk] at p
    have p : Post X.K nm W (Rep X.K nm) g H (ofRes cs (k.cvs.lookup j)) Q := p
    cases hl : k.cvs.lookup j with
    | none => rw [hl] at p; exact p.elim
    | some d =>
      rw [hl] at p
      obtain ⟨mc, v, u, h1, h2, h3⟩ := C.top.cvl c k j d hk hl
      rw [hf] at h2
      exact ⟨_, mc, v, u, rfl, h1, h2, Post.ok p co (h3 g H)⟩
theorem d_cmeth (C : Ctx T O nm X W) {x ms : Str} {p apos : Pos} {c m f : Nat} {k : Cl} {fs : Env → Cells → Res (List D)} (he : PE X (.Name x p) (tC (.ref (nm.ca c)))) (hms : nm.mt m = ms) (hk : T.cls[c]? = some k) (hl : k.cms.lookup m = some f)
    (hs : (a :: es).any isStar = false) (hn : (a :: es).length < 30) (hp : (apos.endLine == pos.line) = true) (ha : PA X (a :: es) (tAs X.K nm W fs)) :
    PE X (.Call (.Attribute (.Name x p) ms apos) (a :: es) [] pos) (tV X.K nm W fun ρ cs => (fs ρ cs).bind fun ds cs => (match (T.cls[c]?).bind fun k => k.cms.lookup m with
      | some f => O false f (.cls c :: ds) cs
      | none => .bad)) := by
  obtain ⟨mc, q, h1, h2⟩ := C.top.cmt c k m f hk hl
  rw [hms] at h2
  obtain ⟨CX, n, hr, hx, hxn, hF, hN, hK⟩ := C.fns.ex
  rw [List.any_cons, Bool.or_eq_false_iff] at hs
  refine (ClX.pe_cmeth (pl := do return (← importBound (.Name x p) X.env).getD true) he h1 h2 (hF f) (hr.mono (Nat.le_add_right n 3)) hx ha (star_not (isStar_not hs.1)) (by rw [any_star, hs.2]) (mc_form rfl (by rw [List.any_cons, hs.1, hs.2]; rfl) hn hp)).imp fun σ H Q z => ?_
  obtain ⟨g, ρ, cs, en, co, z⟩ := z
  refine ⟨rfl, g, ρ, cs, en, co, (Post.bind (R := Reps X.K nm) z).imp ?_⟩
  rintro vs H2 ⟨ds, g2, cs2, e2, c2, r2, p3⟩
  have e : ((T.cls[c]?).bind fun k => k.cms.lookup m) = some f := by rw [hk]; exact hl
  rw [e] at p3
  exact ⟨rfl, g2, cs2, .cls c :: ds, c2, .cons (.cls c) r2, p3⟩
theorem d_newv (C : Ctx T O nm X W) {i : Nat} {x : Str} {p : Pos} {fs : Env → Cells → Res (List D)} (hN : X.N[i]? = some x) (hv : Vis X.env.scope x) (hd : (x == ("__debug__" : Str)) = false) (hcd : (x == ("__classdict__" : Str)) = false) (ha : AC X es (tAs X.K nm W fs)) :
    PE X (.Call (.Name x p) es [] pos) (tV X.K nm W fun ρ cs => (match getV ρ i with
      | some (.cls c) => (match T.cls[c]? with
        | some k => (match k.init with
          | some f => (fs ρ cs).bind fun ds cs => O true f ds cs
          | none => .bad)
        | none => .bad)
      | _ => .bad)) := by
  refine ⟨fun pins s σ H Q I h => ?_⟩
  obtain ⟨g, ρ, cs, en, co, z⟩ := h
  have z : Post X.K nm W (Rep X.K nm) g H (match getV ρ i with
      | some (.cls c) => (match T.cls[c]? with
        | some k => (match k.init with
          | some f => (fs ρ cs).bind fun ds cs => O true f ds cs
          | none => .bad)
        | none => .bad)
      | _ => .bad) Q := z
  cases hg : getV ρ i with
  | none => rw [hg] at z; exact z.elim
  | some d =>
    rw [hg] at z
    cases d with
    | cls c =>
      have z : Post X.K nm W (Rep X.K nm) g H (match T.cls[c]? with
        | some k => (match k.init with
          | some f => (fs ρ cs).bind fun ds cs => O true f ds cs
          | none => .bad)
        | none => .bad) Q := z
      cases hk : T.cls[c]? with
      | none => rw [hk] at z; exact z.elim
      | some k =>
        rw [hk] at z
        have z : Post X.K nm W (Rep X.K nm) g H (match k.init with
          | some f => (fs ρ cs).bind fun ds cs => O true f ds cs
          | none => .bad) Q := z
        cases hi : k.init with
        | none => rw [hi] at z; exact z.elim
        | some f =>
          rw [hi] at z
          have z : Post X.K nm W (Rep X.K nm) g H ((fs ρ cs).bind fun ds cs => O true f ds cs) Q := z
          refine wpAny_Call_Name_kw (thn ((d_var (W := W) (nm := nm) (pe_var (pos := p) (i := i) hN hv hd hcd)).run pins s σ H (fun v H1 => v = .ref (nm.ca c) ∧ ∃ g1, EnvOk X.K nm g1 H1 σ ρ ∧ CsOk X.K nm g1 H1 cs ∧ Post X.K nm W (Rep X.K nm) g1 H1 ((fs ρ cs).bind fun ds cs => O true f ds cs) Q) I ⟨g, ρ, cs, en, co, ?_⟩) fun u s1 ⟨v, H1, I1, r1, ev, g1, en1, c1, z1⟩ => ?_)
          · show Post X.K nm W (Rep X.K nm) g H (ofRes cs (getV ρ i)) _
            rw [hg]
            intro v g1 H1 e1 c1 r1
            cases r1
            exact ⟨rfl, g1, en.mono e1 co.ok, c1, Post.mono z e1⟩
          · subst ev
            cases r1
            refine ha (.ref (nm.ca c)) [] pos pins s1 σ H1 _ (C.top.mkr c k f hk hi).kp I1 ⟨g1, ρ, cs, en1, c1, (Post.bind (R := Reps X.K nm) z1).imp ?_⟩
            rintro vs H2 ⟨ds, g2, cs2, e2, c2, r2, p3⟩ us s2 I2 rv
            exact call_new C hk hi pins s2 σ H2 vs us Q I2 rv ⟨g2, cs2, ds, c2, r2, p3⟩
    | _ => exact z.elim
theorem d_callv (C : Ctx T O nm X W) {i : Nat} {x : Str} {p : Pos} {fs : Env → Cells → Res (List D)} (hN : X.N[i]? = some x) (hv : Vis X.env.scope x) (hd : (x == ("__debug__" : Str)) = false) (hcd : (x == ("__classdict__" : Str)) = false)
    (hs : (a :: es).any isStar = false) (ha : PA X (a :: es) (tAs X.K nm W fs)) :
    PE X (.Call (.Name x p) (a :: es) [] pos) (tV X.K nm W fun ρ cs => (match getV ρ i with
      | some (.ins c ff) => (fs ρ cs).bind fun ds cs => callM T O nCall (.ins c ff) ds cs
      | _ => .bad)) := by
  rw [List.any_cons, Bool.or_eq_false_iff] at hs
  have he : starEach (a :: es) X.env = (false, eval a X.env) :: starEach es X.env := star_not (isStar_not hs.1)
  have hpl : (backTo pos (starEach es X.env)).any (·.1) = false := by rw [any_star, hs.2]
  refine ⟨fun pins s σ H Q I h => ?_⟩
  obtain ⟨g, ρ, cs, en, co, z⟩ := h
  have z : Post X.K nm W (Rep X.K nm) g H (match getV ρ i with
      | some (.ins c ff) => (fs ρ cs).bind fun ds cs => callM T O nCall (.ins c ff) ds cs
      | _ => .bad) Q := z
  cases hg : getV ρ i with
  | none => rw [hg] at z; exact z.elim
  | some d =>
    rw [hg] at z
    cases d with
    | ins c ff =>
      have z : Post X.K nm W (Rep X.K nm) g H ((fs ρ cs).bind fun ds cs => callM T O nCall (.ins c ff) ds cs) Q := z
      refine Call_ (thn ((d_var (W := W) (nm := nm) (pe_var (pos := p) (i := i) hN hv hd hcd)).run pins s σ H (fun v H1 => ∃ g1, EnvOk X.K nm g1 H1 σ ρ ∧ CsOk X.K nm g1 H1 cs ∧ Rep X.K nm g1 H1 (.ins c ff) v ∧ Post X.K nm W (Rep X.K nm) g1 H1 ((fs ρ cs).bind fun ds cs => callM T O nCall (.ins c ff) ds cs) Q) I ⟨g, ρ, cs, en, co, ?_⟩) fun u s1 ⟨v, H1, I1, rv, g1, en1, c1, r1, z1⟩ => ?_) rfl
      · show Post X.K nm W (Rep X.K nm) g H (ofRes cs (getV ρ i)) _
        rw [hg]
        intro v g1 H1 e1 c1 r1
        exact ⟨g1, en.mono e1 co.ok, c1, r1, Post.mono z e1⟩
      · obtain ⟨ad, dx, vs0, rfl, _, _⟩ := view_ins c1 (.inl r1) rfl
        obtain rfl : u = Value.ref ad := rv
        obtain ⟨CX, n, hr, hx, hxn, hF, hN', hK⟩ := C.fns.ex
        refine StX.callO_with (thn (ha.run pos pins s1 σ H1 _ I1 ⟨g1, ρ, cs, en1, c1, (Post.bind (R := Reps X.K nm) z1).imp fun vs H2 q => q⟩) fun us s2 ⟨vs, H2, I2, r, ds, g2, cs2, e2, c2, r2, p3⟩ => ?_) he hpl
        have r1' := r1.mono e2 c1.ok
        obtain ⟨c', fs', f, e, hm, p4⟩ := callM_post p3
        cases e
        obtain ⟨k, hk, M⟩ := methOf_ok C.top hm
        obtain ⟨ad', dx', vs', e', h1, _⟩ := view_ins c2 (.inl r1') rfl
        cases e'
        have hi : StX.InsC X H2 ad (nm.ca c) := .inr ⟨dx', vs', h1⟩
        have co2 : StX.CallO X.K (nm.ca c) (nm.fa f) := ⟨by rw [← C.top.dn.2.2.2.2.2.2.2.2.2.1]; exact M.at_, M.fn, C.top.fni c k nCall f hk (by
          unfold methOf at hm; rw [hk] at hm; exact hm)⟩
        obtain ⟨ox, od, J, hd'⟩ := StX.insC_at I2 hi
        exact ⟨⟨_, ox, od, J, hd'⟩, StX.run_callO co2 (hF f) (hr.mono (Nat.le_add_right n 3)) hx I2 hi r ⟨rfl, g2, cs2, .ins c ff :: ds, c2, .cons r1' r2, p4⟩⟩
    | _ => exact z.elim
end
end Dv
end
section
set_option Elab.async false
set_option linter.all false
set_option maxRecDepth 100000
set_option maxHeartbeats 4000000
namespace Dv
open PySem PySem.Spec PyProof.Rows L2
/-! ### zip of two lists, of two tuples -/
section
variable {K : PySem.W.Frag} {nm : Nm} {g g' : Gh} {H H' : Hp} {cs : Cells}
theorem pair_new2 {p : Addr} {x y : V} {d e : D} (r : Rep K nm g H d x) (r2 : Rep K nm g H e y) (ok : GOk g H) (hp : H p = none) : Rep K nm (g.add p) (upd H p (.tup [x, y])) (.tup [d, e]) (.ref p) :=
  .tup (.inr rfl) upd_same (.cons (r.mono (ext_new hp) ok) (.cons (r2.mono (ext_new hp) ok) .nil))
theorem zip_get {xs ys : List D} {i : Nat} {d : D} (h : ((xs.zip ys).map fun p => D.tup [p.1, p.2])[i]? = some d) : ∃ x y, xs[i]? = some x ∧ ys[i]? = some y ∧ d = .tup [x, y] := by
  rw [List.getElem?_map] at h
  cases q : (xs.zip ys)[i]? with
  | none => rw [q] at h; cases h
  | some p =>
    rw [q] at h
    cases h
    rw [List.getElem?_zip_eq_some] at q
    exact ⟨p.1, p.2, q.1, q.2, rfl⟩
theorem zip_len {xs ys : List D} {i : Nat} (h : ((xs.zip ys).map fun p => D.tup [p.1, p.2]).length ≤ i) : xs.length ≤ i ∨ ys.length ≤ i := by
  simp at h
  omega
theorem yl_zipL {a b : Addr} {xs ys : List D} (r : Rep K nm g H (.lst xs) (.ref a)) (r2 : Rep K nm g H (.lst ys) (.ref b)) : Yl K nm g H ((xs.zip ys).map fun p => D.tup [p.1, p.2]) (Itz K a b) := by
  intro g1 H1 e ok i
  obtain ⟨a', vs, ea, h1, h2, _⟩ := (r.monoS e).ref_lst
  cases ea
  obtain ⟨b', ws, eb, k1, k2, _⟩ := (r2.monoS e).ref_lst
  cases eb
  refine ⟨fun hi => ⟨vs, ws, .of h1, .of k1, by rw [← h2.length, ← k2.length]; exact zip_len hi⟩, fun d hd => ?_⟩
  obtain ⟨x, y, hx, hy, rfl⟩ := zip_get hd
  obtain ⟨v, hv, rv⟩ := h2.get hx
  obtain ⟨w, hw, rw'⟩ := k2.get hy
  refine ⟨⟨vs, ws, v, w, .of h1, .of k1, hv, hw⟩, fun z H2 ⟨T, v', w', e1, e2, e3, e4, e5⟩ => ?_⟩
  subst e1 e3
  have q1 := e4 vs (.of h1)
  rw [hv] at q1
  cases q1
  have q2 := e5 ws (.of k1)
  rw [hw] at q2
  cases q2
  exact ⟨g1.add T, .inr ⟨T, _, e2, rfl, rfl⟩, pair_new2 rv rw' ok e2⟩
theorem yl_zipT {a b : Addr} {xs ys : List D} (r : Rep K nm g H (.tup xs) (.ref a)) (r2 : Rep K nm g H (.tup ys) (.ref b)) : Yl K nm g H ((xs.zip ys).map fun p => D.tup [p.1, p.2]) (RZ.ItzT K a b) := by
  intro g1 H1 e ok i
  obtain ⟨a', vs, ea, h1, h2⟩ := view_tup (cs := []) (.inl (r.monoS e)) rfl
  cases ea
  obtain ⟨b', ws, eb, k1, k2⟩ := view_tup (cs := []) (.inl (r2.monoS e)) rfl
  cases eb
  refine ⟨fun hi => ⟨vs, ws, h1, k1, by rw [← h2.length, ← k2.length]; exact zip_len hi⟩, fun d hd => ?_⟩
  obtain ⟨x, y, hx, hy, rfl⟩ := zip_get hd
  obtain ⟨v, hv, rv⟩ := h2.get hx
  obtain ⟨w, hw, rw'⟩ := k2.get hy
  refine ⟨⟨vs, ws, v, w, h1, k1, hv, hw⟩, fun z H2 ⟨T, v', w', e1, e2, e3, e4, e5⟩ => ?_⟩
  subst e1 e3
  have q1 := e4 vs h1
  rw [hv] at q1
  cases q1
  have q2 := e5 ws k1
  rw [hw] at q2
  cases q2
  exact ⟨g1.add T, .inr ⟨T, _, e2, rfl, rfl⟩, pair_new2 rv rw' ok e2⟩
end
section
variable {T : Tab} {O : Orc} {nm : Nm} {X : Cx} {W : XK} {a b e : Expr} {fa fb : Env → Cells → Res D} {pos : Pos}
theorem si_zip {p tpos : Pos} {elts : List Expr} {kk : Nat} (hg : Gl X "zip") (hm : X.mg "zip" = none) (hn : isStar a = false) (hn2 : isStar b = false) (ha : PE X a (tV X.K nm W fa)) (hb : PE X b (tV X.K nm W fb)) :
    PI X (.Tuple elts kk tpos) (.Call (.Name "zip" p) [a, b] [] pos) (tI X.K nm W fun ρ cs => (fa ρ cs).bind fun x cs => (fb ρ cs).bind fun y cs => ofRes cs (zipD x y)) :=
  (RZ.pi_zipA (ta := tCons (tV X.K nm W fa) (tCons (tV X.K nm W fb) tNil)) hg hm (pa_cons ha (pa_cons hb pa_nil (star_not (isStar_not hn2))) (star_not (isStar_not hn))) (by rw [star_not (isStar_not hn), star_not (isStar_not hn2)]) (by rw [star_not (isStar_not hn2)]; rfl)).imp fun σ H R q => by
    obtain ⟨g, ρ, cs, en, c, p⟩ := q
    refine (fun (z : tV X.K nm W fa σ H fun x H1 => tV X.K nm W fb σ H1 fun y H2 => ∃ a b xs ys, [x, y] = [V.ref a, V.ref b] ∧ ((SqL X.K H2 a xs ∧ SqL X.K H2 b ys ∧ R (Itz X.K a b) H2) ∨ (SqT X.K H2 a xs ∧ SqT X.K H2 b ys ∧ R (RZ.ItzT X.K a b) H2))) => z) ?_
    refine ⟨g, ρ, cs, en, c, (Post.bind (R := Rep X.K nm) p).imp ?_⟩
    rintro x H1 ⟨d, g1, cs1, e1, c1, r1, p1⟩
    refine ⟨g1, ρ, cs1, en.mono e1 c.ok, c1, (Post.bind (R := Rep X.K nm) p1).imp ?_⟩
    rintro y H2 ⟨d2, g2, cs2, e2, c2, r2, p2⟩
    have r1 := r1.mono e2 c1.ok
    cases d with
    | lst xs =>
      cases d2 with
      | lst ys =>
        have p2 : Post X.K nm W (Yl X.K nm) g2 H2 (.ok ((xs.zip ys).map fun p => D.tup [p.1, p.2]) cs2) R := p2
        obtain ⟨a', vs, rfl, h1, h2, _⟩ := r1.ref_lst
        obtain ⟨b', ws, rfl, k1, k2, _⟩ := r2.ref_lst
        exact ⟨a', b', vs, ws, rfl, .inl ⟨.of h1, .of k1, Post.ok p2 c2 (yl_zipL r1 r2)⟩⟩
      | _ => exact p2.elim
    | tup xs =>
      cases d2 with
      | tup ys =>
        have p2 : Post X.K nm W (Yl X.K nm) g2 H2 (.ok ((xs.zip ys).map fun p => D.tup [p.1, p.2]) cs2) R := p2
        obtain ⟨a', vs, rfl, h1, h2⟩ := view_tup (cs := []) (.inl r1) rfl
        obtain ⟨b', ws, rfl, k1, k2⟩ := view_tup (cs := []) (.inl r2) rfl
        exact ⟨a', b', vs, ws, rfl, .inr ⟨h1, k1, Post.ok p2 c2 (yl_zipT r1 r2)⟩⟩
      | _ => exact p2.elim
    | _ => exact p2.elim
end
end Dv
end
section
set_option Elab.async false
set_option linter.all false
set_option maxRecDepth 100000
set_option maxHeartbeats 4000000
namespace Dv
open PySem PySem.Spec PyProof.Rows L2
section
variable {T : Tab} {O : Orc} {nm : Nm} {X : Cx} {W : XK} {a b c e tg : Expr} {es : List Expr} {fa fb fc : Env → Cells → Res D} {pos : Pos}
/-! ### a class called with keywords -/
theorem d_newk (C : Ctx T O nm X W) {x : Str} {p : Pos} {c n f : Nat} {k' : Cl} {kws : List Keyword} {ks : List Str} {perm : List Nat} {fs fk : Env → Cells → Res (List D)} (hg : Gl X x) (hm : X.mg x = some (.ref (nm.ca c))) (hd : (x == ("__debug__" : Str)) = false) (hs : es.any isStar = false)
    (hn0 : es = [] → ∀ ρ cs, fs ρ cs = .ok [] cs) (hk : kwNames kws = some ks) (hlen : ∀ ρ cs ds cs', fs ρ cs = .ok ds cs' → ds.length = n) (hlk : ∀ ρ cs ds cs', fk ρ cs = .ok ds cs' → ds.length = ks.length)
    (h1 : T.cls[c]? = some k') (h2 : k'.init = some f) (hkw : nm.kw f (n + 1) ks (permS perm) = true) (ha : PA X es (tAs X.K nm W fs)) (hkk : PK X kws (tAs X.K nm W fk)) :
    PE X (.Call (.Name x p) es kws pos) (tV X.K nm W fun ρ cs => (fs ρ cs).bind fun ds cs => (fk ρ cs).bind fun ks cs => (match T.cls[c]? with
      | some k => (match k.init with
        | some f => (match permD perm (ds ++ ks ++ dflT T f) with
          | some es => O true f es cs
          | none => .bad)
        | none => .bad)
      | none => .bad)) := by
  have hmk := C.top.mkr c k' f h1 h2
  refine ⟨fun pins s σ H Q I h => ?_⟩
  refine wpAny_Call_Name_kw (ld_glob I hg hm ?_ hd)
  obtain ⟨g, ρ, cs, en, co, p1⟩ := h
  have p1 : Post X.K nm W (Rep X.K nm) g H ((fs ρ cs).bind fun ds cs => (fk ρ cs).bind fun ks cs => (match T.cls[c]? with
      | some k => (match k.init with
        | some f => (match permD perm (ds ++ ks ++ dflT T f) with
          | some es => O true f es cs
          | none => .bad)
        | none => .bad)
      | none => .bad)) Q := p1
  obtain ⟨CX, nn, hr, hx, hxn, hF, hN, hK, hM⟩ := C.fns.ex
  obtain ⟨dvs, hdv, fd, ps, its, FO, KB⟩ := hM c k' f (n + 1) ks (permS perm) h1 h2 hkw
  refine cw_kw (first := []) hn0 hs hk ha hkk hmk.kp I ?_
  refine ⟨g, ρ, cs, en, co, ?_⟩
  cases q1 : fs ρ cs with
  | bad => rw [q1] at p1; exact p1.elim
  | exc ee cs2 => rw [q1] at p1; exact p1
  | ok ds cs2 =>
    have l1 := hlen ρ cs ds cs2 q1
    rw [q1] at p1
    have p2 : Post X.K nm W (Rep X.K nm) g H ((fk ρ cs2).bind fun ks cs => (match T.cls[c]? with
      | some k => (match k.init with
        | some f => (match permD perm (ds ++ ks ++ dflT T f) with
          | some es => O true f es cs
          | none => .bad)
        | none => .bad)
      | none => .bad)) Q := p1
    intro vs g2 H2 e2 c2 r2
    refine ⟨g2, ρ, cs2, en.mono e2 co.ok, c2, ?_⟩
    have p2 := Post.mono p2 e2
    cases q2 : fk ρ cs2 with
    | bad => rw [q2] at p2; exact p2.elim
    | exc ee cs3 => rw [q2] at p2; exact p2
    | ok zs cs3 =>
      have l2 := hlk ρ cs2 zs cs3 q2
      rw [q2] at p2
      have p2 : Post X.K nm W (Rep X.K nm) g2 H2 (match T.cls[c]? with
        | some k => (match k.init with
          | some f => (match permD perm (ds ++ zs ++ dflT T f) with
            | some es => O true f es cs3
            | none => .bad)
          | none => .bad)
        | none => .bad) Q := p2
      rw [h1] at p2
      have p2 : Post X.K nm W (Rep X.K nm) g2 H2 (match k'.init with
          | some f => (match permD perm (ds ++ zs ++ dflT T f) with
            | some es => O true f es cs3
            | none => .bad)
          | none => .bad) Q := p2
      rw [h2] at p2
      have p2 : Post X.K nm W (Rep X.K nm) g2 H2 (match permD perm (ds ++ zs ++ dflT T f) with
            | some es => O true f es cs3
            | none => .bad) Q := p2
      intro vz g3 H3 e3 c3 r3 us ws s3 I3 rv rz
      cases h3 : permD perm (ds ++ zs ++ dflT T f) with
      | none => rw [h3] at p2; exact p2.elim
      | some es3 =>
        rw [h3] at p2
        have r2' := r2.mono e3 c2.ok
        obtain ⟨ys, y1, y2⟩ := permD_rep ((r2'.append r3).append (hdv g3 H3)) h3
        refine run_makeN (us := us) (ws := ws) (vs := vs) (zs := vz) hmk FO (hr.mono (by omega)) KB hx I3 rv rz (by rw [← r2'.length, l1]) (by rw [← r3.length, l2]) fun x dx hx0 hdx hne => ?_
        have y3 : (permD (permS perm) (V.ref x :: vs ++ vz ++ dvs)).getD [] = .ref x :: ys := by
          have : permD (permS perm) (V.ref x :: (vs ++ vz ++ dvs)) = some (.ref x :: ys) := by simp only [permS, permD, List.getElem?_cons_zero, permS_get y1]
          simpa using congrArg (·.getD []) this
        have z : spI X.K nm W O c f (V.ref x :: ys) (upd (upd H3 dx (.own x)) x (.ins (nm.ca c) dx [])) (fun v H4 => v = .non ∧ Q (.ref x) H4) W :=
          ⟨rfl, x, dx, ys, H3, g3, cs3, es3, rfl, hx0, hdx, hne, rfl, c3, y2, (Post.mono p2 e3).imp fun v H' q e => ⟨rfl, by rw [← e]; exact q⟩⟩
        rw [← y3] at z
        exact z
/-! ### {} -/
theorem d_dct : PE X (.Dict [] [] pos) (tV X.K nm W fun _ cs => .ok (.dic []) cs) := pe_dnewK.imp fun σ H Q q => by
  obtain ⟨g, ρ, cs, en, c, p⟩ := q
  intro a ha
  exact p.okE (ext_new ha) (c.new ha) (.dic (.inr rfl) upd_same)
/-! ### a thing that is walked by its __iter__ -/
theorem si_walk {nn : Nat} (C : Ctx T O nm X W) (hr : Room nn X.A) (hx0 : Passes C8.CX0 X E0) (hI : ∀ c k' f j, T.cls[c]? = some k' → k'.its = some j → k'.meths.lookup nIter = some f → ItR T X.prog X.w X.K X.mg X.base C8.CX0 nn nm (nm.fa f) c j) (h : PE X e (tV X.K nm W fa)) : PI X tg e (tI X.K nm W fun ρ cs => (fa ρ cs).bind fun x cs => ofRes cs (itemsT T x)) := by
  refine ⟨fun pins s σ H R I q => ?_⟩
  obtain ⟨g, ρ, cs, en, co, p⟩ := q
  refine thn (h.run pins s σ H _ I ⟨g, ρ, cs, en, co, Post.bind (R := Rep X.K nm) p⟩) fun u s1 ⟨x, H1, I1, rx, d, g1, cs1, e1, c1, r1, p1⟩ => ?_
  cases hd : itemsT T d with
  | none => rw [hd] at p1; exact p1.elim
  | some ds =>
    rw [hd] at p1
    obtain ⟨c, fs, k, j, rfl, hk, hj, hok, him, hl⟩ : ∃ c fs k j, d = .ins c fs ∧ T.cls[c]? = some k ∧ k.its = some j ∧ okAt T c j = true ∧ (k.meths.lookup nIter).isSome = true ∧ fs.lookup j = some (.tup ds) := by
      unfold itemsT at hd
      split at hd
      · rename_i c fs
        split at hd
        · rename_i k hk
          split at hd
          · rename_i j hj
            split at hd
            · rename_i ho
              split at hd
              · rename_i ds' hl
                cases hd
                exact ⟨c, fs, k, j, rfl, hk, hj, ho.1, ho.2, hl⟩
              · cases hd
            · cases hd
          · cases hd
        · cases hd
      · cases hd
    obtain ⟨a, ox, od, rfl, J, _⟩ := inst_at I1 c1 (.inl r1) rx (show deref (.ins c fs) cs1 = .ins c fs from rfl)
    obtain ⟨m0, hFr⟩ := I1.fr
    cases hm : k.meths.lookup nIter with
    | none => rw [hm] at him; cases him
    | some f =>
      have M := C.top.met c k nIter f hk hm
      have hn : nm.mt nIter = "__iter__" := C.top.dn.2.2.2.2.2.1
      refine PySem.W.owit_iter hFr I1.ok.mod.kin J (by rw [← hn]; exact M.at_) M.fn ?_
      refine wpAny_call (codeAny_mono (hI c k f j hk hj hm X.A X.stack s1 H1 (.ref a) x fs ds g1 cs1 (fun v H2 => ∃ it a2 g2 H3, v = .ref it ∧ H2 = upd H3 it (ItT a2 it) ∧ H3 it = none ∧ s1.heap.objs.size ≤ it ∧ Ext g1 H1 g2 H3 ∧ CsOk X.K nm g2 H3 cs1 ∧ Rep X.K nm g2 H3 (.tup ds) (.ref a2)) hr I1.env0 rx c1 r1 hok hl
        fun g' H' a2 it ex cc rt h0 hy => ⟨it, a2, g', H', rfl, rfl, h0, hy, ex, cc, rt⟩) fun r s' hq => ?_)
      cases r with
      | error ee => exact hx0 pins σ _ _ ee s' I1 hq
      | ok fl =>
        cases fl with
        | next => exact False.elim hq
        | brk => exact False.elim hq
        | cont => exact False.elim hq
        | ret u =>
          obtain ⟨v, H2, os, bare, un, hok2, rv, it, a2, g2, H3, rfl, rfl, h0, hyoung, ex, cc, rt⟩ := hq
          obtain ⟨v', H2', I2, rv2, e2, eH⟩ := I1.after (Q := fun v H' => v = .ref it ∧ H' = upd H3 it (ItT a2 it)) ⟨.ref it, _, os, bare, un, hok2, rv, rfl, rfl⟩
          subst e2 eH
          cases rv2
          have hit : s'.heap.get? it = some { cls := .type "tuple_iterator", data := .fields #[.ref a2, .int 0 0] } := (I2.hok it _ upd_same).1
          have st : s'.heap.IsTupleIter it a2 0 := ⟨_, hit, rfl, rfl⟩
          have hT : s'.TypeIs (.ref it) "tuple_iterator" := ⟨_, hit, rfl⟩
          unfold PySem.W.OwitIt
          refine wpAny_specialOf (name := Str.ofString "__next__") hT F.slot_tuple_iterator_next.lookup ?_
          have hd2 : ItX.dropH (upd H3 it (ItT a2 it)) it = H3 := ItX.dropH_upd h0
          have I3 := ItX.inv_drop (a := it) (φ := fun h => h.get? it = some { cls := .type "tuple_iterator", data := .fields #[.ref a2, .int 0 0] }) I2 upd_same
          have fp := ItX.inv_fp I2 (a := it) (u := ItT a2 it) upd_same (Nat.le_trans I1.sz hyoung)
          rw [hd2] at I3 fp
          refine ⟨it, [it], _, _, H3, rfl, I3, turn_tuple a2 it, st, fun b hb => ?_, ?_⟩
          · have e : b = it := by simpa using hb
            subst e
            exact fp
          · exact Post.ok (Post.mono p1 ex) cc (yl_tup rt)
/-! ### a def's call, at one state -/
theorem fn_at {CX : CXT} {P : Program} {w : World} {K : PySem.W.Frag} {mg : Str → Option Value} {base : Heap} {qual nam : Str} {params : Arguments} {body : List Stmt} {scope : Scope} {dvs : List V} {kws : List (Str × V)} {f : Addr} {fd : FuncData} {N ps : List Str} (k : Nat)
    (F : FunD K nam qual params body scope dvs kws f fd) (S : FnScope N ps scope) {A : Around} {outer : List PySem.Env} {s : Shared} {H : Hp} {args : Args} {us : List Value} {vs : List V} {Q : VK} {E : XK} (hr : Room (k + 1) A) (e0 : Env0 P w K mg base A outer s H) (hb : BindsTo s fd args (ps.zip us)) (rv : Vals vs us)
    (hl : vs.length = ps.length) (hbody : ∀ cdv, Room k (A.deeper (envOfC qual scope s.heap.objs.size f cdv)) → ∃ t, PSs (cxOf CX P w K mg base N qual scope f cdv A outer s H E) body t ∧ t { nx := fun _ H' => Q .non H', rt := Q } (L2.start N vs) H) :
    codeAny (model P w) A (.call (.ref f) args) (CR CX outer P w H s Q E) s := by
  obtain ⟨oc, od, dV, kV, doc, pm, an, cdv, ct, osl, rfl, lk, hcd, _, _⟩ := F.ex
  have inS : K.In s.heap := e0.mod.kin.keeps fun b o z => (e0.bs b o z).1
  have nol : s.heap.NoLimit := e0.mod.nolimit.keeps fun b o z => (e0.bs b o z).1
  have kinds : ∀ y ∈ ps.zip us, scope.names.lookup y.1 = some .local ∨ (scope.names.lookup y.1 = some .cell ∧ ((cellsFrom (s.heap.objs.size + 1) scope.names []).lookup y.1).isSome = true) := by
    rintro ⟨n, v⟩ hy
    have hn := (List.of_mem_zip hy).1
    exact (S.par n hn).imp id fun z => ⟨z, PySem.W.cellsFrom_some _ _ _ (.inl z)⟩
  refine codeAny_call_function hr.depth (inS _ _ lk) rfl S.co S.gen rfl
    (PySem.W.codeRec_of inS hcd) (hb _ _ _ _ ?_)
  refine wpAny_newFunctionEnv_cells S.kind kinds fun env he s1 inc => ?_
  subst he
  refine ⟨nol.keeps inc.toInCall.keep, codeAny_func ?_⟩
  obtain ⟨t, ht, hq⟩ := hbody cdv (hr.deeper _)
  have I0 := inv_start (CX := CX) (E := E) S hr.hd e0 hl rv inc
  refine wpAny_mono (ht.run [] s1 (L2.start N vs) H _ I0 hq) (fun fl s2 hs => ?_) fun _ _ z => z
  cases fl with
  | ret u =>
    obtain ⟨v, _, H2, J, r2, q⟩ := hs
    exact ⟨v, H2, J.os, J.bare, J.base, J.hok, r2, q⟩
  | next =>
    obtain ⟨_, H2, J, q⟩ := hs
    exact ⟨V.non, H2, J.os, J.bare, J.base, J.hok, rfl, q⟩
  | brk => obtain ⟨_, _, _, z⟩ := hs; exact z.elim
  | cont => obtain ⟨_, _, _, z⟩ := hs; exact z.elim
/-! ### iter(t), t a tuple -/
theorem itT_ok {P : Program} {w : World} {H : Hp} {h : Heap} {t it : Addr} (e : h.get? it = some { cls := .type "tuple_iterator", data := .fields #[.ref t, .int 0 0] }) : ObjOk P w H h it (ItT t it) := ⟨e, ⟨_, e⟩, fun _ _ q k => k _ q⟩
def rIterT (K : PySem.W.Frag) (n : Nat) : List V → Hp → VK → Prop := fun xs H Q => ∃ (t : Addr) (zs : List V), xs = [.ref t] ∧ SqT K H t zs ∧ ∀ it, H it = none → n ≤ it → Q (.ref it) (upd H it (ItT t it))
theorem call_iterT : CallR X (.builtin "iter") (rIterT X.K X.s_0.heap.objs.size) := by
  intro pins s σ H xs us Q I r ⟨t, zs, e, hq, q⟩
  subst e
  obtain rfl := Vals.ref1 r
  obtain ⟨its, rv, pt, hz⟩ := I.tuple hq
  have h1 := PySem.W.kdk_args_iter (Value.ref t)
  refine Calls.call_function_entry (by decide +kernel) (by decide +kernel)
    PySem.W.kdk_entry_iter h1 ?_
  unfold Builtin.«iter»
  refine wpAny_bind (m := someArgs "iter" 1 2 _) (wpAny_of_eq (a := [Value.ref t]) (by first | rfl | kernel_rfl!) ?_)
  show wpAny _ _ (pyIter (.ref t) >>= _) _ _ _
  refine wpAny_bind (wpAny_pyIter_tuple (show s.heap.IsTuple t its.toArray from pt) ?_)
  have I2 := I.laid (a := s.heap.objs.size) (o := ItT t s.heap.objs.size) (h' := s.heap.push { cls := .type "tuple_iterator", data := .fields #[.ref t, .int 0 0] }) (t' := s.toks) (fun b u e => Heap.get?_push_of_some _ e) (Nat.le_refl _) (itT_ok (Heap.get?_push_size _ rfl))
  exact wpAny_pure ⟨_, rfl, .ref s.heap.objs.size, _, I2, rfl, q _ (I.hok.fresh (Nat.le_refl _)) I.sz⟩
end
end Dv
end
section
set_option Elab.async false
set_option linter.all false
set_option maxRecDepth 100000
set_option maxHeartbeats 4000000
namespace Dv
open PySem PySem.Spec PyProof.Rows L2
/-! ### a def that takes what is left of the keywords: its dict -/
section
variable {prog : Program} {w : World} {A : Around} {E : Value → Shared → Prop} {s : Shared} {d : Addr}
/-- a name stored in a dict that has only names, none of them this one -/
theorem nsSet_dict {kvs : List (Key × Value)} {name : Str} {v : Value} {Q : Unit → Shared → Prop} (hm : s.heap.DictOf (mixKind prog w) d kvs) (hs : ∀ p ∈ kvs, ∃ x, p.1 = .inr x) (hn : Sum.inr name ∉ kvs.map (·.1))
    (h : ∀ h', h'.DictOf (mixKind prog w) d (kvs ++ [(.inr name, v)]) → Heap.SameBut d s.heap h' → Q () { s with heap := h', toks := s.toks + 1 }) : wpAny (model prog w) A (nsSet d name v) Q E s := by
  intro Γ p hΓ
  obtain ⟨o, es, ep, ho, hx, hd, hk, hp, nd⟩ := hm
  have hkey : ∀ e ∈ es.toList, ∃ x t, e.key = .str x t ∧ Sum.inr x ∈ kvs.map (·.1) := by
    clear hd hk hn h
    generalize es.toList = l at hp
    intro e he
    induction hp with
    | nil => cases he
    | cons h1 h2 _ ih =>
      rename_i e0 kv es0 kvs0 hr
      rcases List.mem_cons.mp he with rfl | he
      · obtain ⟨x, hx⟩ := hs _ List.mem_cons_self
        rcases keyIs_shape (show keyIs kv.1 e.key = true from h1) with ⟨i, t, q1, _⟩ | ⟨y, t, q1, q2⟩
        · rw [q1] at hx; cases hx
        · exact ⟨y, t, q2, by rw [← q1]; simp⟩
      · obtain ⟨x, t, q1, q2⟩ := ih (fun p hp => hs p (List.mem_cons_of_mem _ hp)) (by simpa using (List.nodup_cons.mp nd).2) he
        exact ⟨x, t, q1, by rw [List.map_cons]; exact List.mem_cons_of_mem _ q2⟩
  have href : es.any (·.refKey) = false := by
    rw [Array.any_eq_false']
    intro e he
    obtain ⟨x, t, q, _⟩ := hkey e (by simpa using he)
    simp [q, DictEntry.refKey]
  have hidx : es.findIdx? (·.key.isStr name) = none := by
    rw [Array.findIdx?_eq_none_iff]
    intro e he
    obtain ⟨x, t, q, hx⟩ := hkey e (by simpa using he)
    have : x ≠ name := fun z => hn (z ▸ hx)
    simp [q, Value.isStr, this]
  simp only [strHash, nsSet, Sem.wp_bind', Sem.wp_cmd_mkText, Sem.wp_cmd_ask, Sem.wp_pure']
  rw [Sem.wp_loadPart_of (model prog w) Γ _ p { s with toks := s.toks + 1 } (o := o) _ ho]
  simp only [hd, aRefKeyMayBeTheName_at, href, Bool.and_false, if_false, Bool.false_eq_true, Sem.wp_cmd_updatePart]
  refine ⟨by rw [ho]; rfl, h _ ?_ (Heap.SameBut.update ..)⟩
  obtain ⟨oc, od, dt, sl⟩ := o
  subst hd
  have eP : Obj.putName name (if name.cps.isEmpty = true then 0 else reduceHash ((model prog w).w.params.strHash name.cps)) (Value.str name s.toks) v ⟨oc, od, .dict es ep, sl⟩ = ⟨oc, od, .dict (es.push ⟨(mixKind prog w).hash (.inr name), .str name s.toks, v⟩) (ep + 1), sl⟩ := by
    simp only [hidx, Obj.putName_eq, Obj.putNameByArray]
    rfl
  have hk1 : (mixKind prog w).is (.inr name) (.str name s.toks) = true := keyIs_str name s.toks
  refine ⟨_, _, ep + 1, Heap.get?_update_self _ ho (by rw [eP]; rfl), ?_, by rw [eP], hk.push hk1 v, ?_, ?_⟩
  · rw [eP]
    exact hx
  · rw [Array.toList_push]
    exact hp.append hk1 _ v
  · rw [List.map_append, List.nodup_append]
    exact ⟨nd, by simp, fun a ha b hb e => by
      rw [List.map_cons, List.map_nil, List.mem_singleton] at hb
      have hb : b = Sum.inr name := hb
      exact hn (by rw [← hb, ← e]; exact ha)⟩
/-- names stored one by one -/
def setsF {α : Type} (d : Addr) (ps : List (Str × Value)) (k : Sem α) : Sem α := (forIn ps PUnit.unit (fun (x : Str × Value) (_ : PUnit) => (do nsSet d x.1 x.2; pure (ForInStep.yield PUnit.unit) : Sem (ForInStep PUnit)))) >>= fun _ => k
theorem sets_loop {Q : PUnit → Shared → Prop} : ∀ {ps : List (Str × Value)} {kvs : List (Key × Value)} {s : Shared}, s.heap.DictOf (mixKind prog w) d kvs → (∀ p ∈ kvs, ∃ x, p.1 = .inr x) → (kvs.map (·.1) ++ ps.map fun (p : Str × Value) => (Sum.inr p.1 : Key)).Nodup →
    (∀ h' t', h'.DictOf (mixKind prog w) d (kvs ++ ps.map fun (p : Str × Value) => ((.inr p.1 : Key), p.2)) → Heap.SameBut d s.heap h' → Q PUnit.unit { s with heap := h', toks := t' }) →
    wpAny (model prog w) A (forIn ps PUnit.unit (fun (x : Str × Value) (_ : PUnit) => (do nsSet d x.1 x.2; pure (ForInStep.yield PUnit.unit) : Sem (ForInStep PUnit)))) Q E s
  | [], kvs, s, hm, hs, nd, h => by
    rw [List.forIn_nil]
    exact wpAny_pure (h _ s.toks (by simpa using hm) ⟨rfl, fun _ _ => rfl⟩)
  | (x, v) :: r, kvs, s, hm, hs, nd, h => by
    rw [List.forIn_cons]
    refine wpAny_bind (wpAny_bind (nsSet_dict hm hs ?_ fun h' hm' sb => wpAny_pure ?_))
    · intro hx
      rw [List.nodup_append] at nd
      exact nd.2.2 _ hx _ List.mem_cons_self rfl
    · refine sets_loop (s := { s with heap := h', toks := s.toks + 1 }) hm' ?_ ?_ fun h2 t2 hm2 sb2 => ?_
      · intro p hp
        rcases List.mem_append.mp hp with q | q
        · exact hs p q
        · rw [List.mem_singleton.mp q]; exact ⟨x, rfl⟩
      · simpa using nd
      · exact h h2 t2 (by simpa using hm2) ⟨sb2.1.trans sb.1, fun b hb => (sb2.2 b hb).trans (sb.2 b hb)⟩
theorem setsF_dict {α : Type} {K : Sem α} {Q : α → Shared → Prop} {ps : List (Str × Value)} {kvs : List (Key × Value)} (hm : s.heap.DictOf (mixKind prog w) d kvs) (hs : ∀ p ∈ kvs, ∃ x, p.1 = .inr x) (nd : (kvs.map (·.1) ++ ps.map fun (p : Str × Value) => (Sum.inr p.1 : Key)).Nodup)
    (h : ∀ h' t', h'.DictOf (mixKind prog w) d (kvs ++ ps.map fun (p : Str × Value) => ((.inr p.1 : Key), p.2)) → Heap.SameBut d s.heap h' → wpAny (model prog w) A K Q E { s with heap := h', toks := t' }) : wpAny (model prog w) A (setsF d ps K) Q E s :=
  wpAny_bind (sets_loop hm hs nd h)
end
/-- a def called by values and names, the names going to its dict -/
def kwL {α : Type} (ks : List Str) (zs : List α) : List (Key × α) := (ks.zip zs).map fun (p : Str × α) => ((.inr p.1 : Key), p.2)
def FnW (P : Program) (w : World) (K : PySem.W.Frag) (mg : Str → Option Value) (base : Heap) (CX : CXT) (k : Nat) (f : Addr) (n : Nat) (ks : List Str) (sp : Sp) : Prop :=
  ∀ (A : Around) (outer : List PySem.Env) (s : Shared) (H : Hp) (us ws : List Value) (vs zs : List V) (Q : VK) (E : XK), Room k A → Env0 P w K mg base A outer s H → Vals vs us → Vals zs ws → vs.length = n → zs.length = ks.length →
    (∀ d, H d = none → sp (vs ++ [V.ref d]) (upd H d (.dK (kwL ks zs))) Q E) → codeAny (model P w) A (.call (.ref f) ⟨us, ks.zip ws⟩) (CR CX outer P w H s Q E) s
section
variable {CX : CXT} {P : Program} {w : World} {K : PySem.W.Frag} {mg : Str → Option Value} {base : Heap} {k : Nat} {f : Addr} {name qual : Str} {params : Arguments} {body : List Stmt} {scope : Scope} {dV kV doc pm cdv ct oc : Value} {an od : Option Addr}
  {osl : Array (Option Value)} {N ps ks : List Str} {sp : Sp} {A : Around} {outer : List PySem.Env} {s : Shared} {H : Hp}
theorem env0_set {o : Obj} {u : HO} {h' : Heap} {t' : Nat} (e0 : Env0 P w K mg base A outer s H) (sb : Heap.SameBut s.heap.objs.size (s.heap.push o) h') (new : ObjOk P w (upd H s.heap.objs.size u) h' s.heap.objs.size u) :
    Env0 P w K mg base A outer { s with heap := h', toks := t' } (upd H s.heap.objs.size u) := by
  have kp : ∀ b x, s.heap.get? b = some x → h'.get? b = some x := fun b x e => (sb.2 b (Nat.ne_of_lt (Heap.lt_size e))).trans (Heap.get?_push_of_some _ e)
  refine ⟨e0.frames, e0.mod, fun b x e => ?_, ?_, ?_, ?_, ?_, e0.bare⟩
  · obtain ⟨q1, q2⟩ := e0.bs b x e
    exact ⟨kp b x q1, by rw [upd_ne (Nat.ne_of_lt (Heap.lt_size q1))]; exact q2⟩
  · have := e0.bsz
    show base.objs.size ≤ h'.objs.size
    rw [sb.1, Heap.size_push]
    omega
  · exact Heap.FunFrames.of_keeps (fun b x e _ => ⟨x, kp b x e, rfl⟩) e0.funs
  · intro b hb
    obtain ⟨_, x, hx, _⟩ := e0.funs.mem hb
    have hne := Nat.ne_of_lt (Heap.lt_size hx)
    rw [upd_ne hne]
    exact e0.frf b hb
  · exact e0.hok.laid kp (Nat.le_refl _) new
theorem kwL_rel : ∀ {ks : List Str} {zs : List V} {ws : List Value}, Vals zs ws → KV (kwL ks zs) (kwL ks ws)
  | [], _, _, _ => .nil
  | _ :: _, _, _, .nil => .nil
  | k :: ks, _, _, .cons h t => .cons ⟨rfl, h⟩ (kwL_rel (ks := ks) t)
theorem kwL_len {α : Type} {ks : List Str} {zs : List α} (h : zs.length = ks.length) : (kwL ks zs).length = ks.length := by
  unfold kwL
  rw [List.length_map, List.length_zip, h, Nat.min_self]
/-- what a def with **d does, called by names -/
theorem fn_kwd {pd : Str} (lk : K.lookup f = some ⟨oc, od, .func (PySem.W.fnOf name qual params body scope dV kV doc pm an cdv ct), osl⟩) (hcd : PySem.W.codeIn K cdv qual = true) (S : FnScope N (ps ++ [pd]) scope) (hCX : StX.CXUp CX) (nd : ks.Nodup) (hz : ks.length ≤ sizeLine)
    (hb : ∀ us ws : List Value, us.length = ps.length → ws.length = ks.length → bindArgs (PySem.W.fnOf name qual params body scope dV kV doc pm an cdv ct) ⟨us, ks.zip ws⟩ =
      ((alloc ({ data := .dict #[], cls := .type "dict" } : Obj) : Sem Addr) >>= fun d => setsF d (ks.zip ws) (pure (ps.zip us ++ [(pd, Value.ref d)]))))
    (hbody : ∀ (A : Around) (outer : List PySem.Env) (s : Shared) (H : Hp) (vs : List V) (Q : VK) (E : XK), Room k (A.deeper (envOfC qual scope s.heap.objs.size f cdv)) → sp vs H Q E →
      ∃ t, PSs (cxOf CX P w K mg base N qual scope f cdv A outer s H E) body t ∧ t { nx := fun _ H' => Q .non H', rt := Q } (start N vs) H) :
    FnW P w K mg base CX (k + 1) f ps.length ks sp := by
  intro A outer s H us ws vs zs Q E hr e0 r rz l1 l2 hsp
  have hn : H s.heap.objs.size = Option.none := e0.hok.fresh (Nat.le_refl _)
  have m1 : us.length = ps.length := by rw [← r.length]; exact l1
  have m2 : ws.length = ks.length := by rw [← rz.length]; exact l2
  refine StX.run_bnd lk hcd S hr e0 (G := fun xs H2 => ∃ d, H d = Option.none ∧ xs = vs ++ [V.ref d] ∧ H2 = upd H d (.dK (kwL ks zs))) (fun A' Ex Q' h => ?_) fun s2 H2 xs ⟨d, hd, ex, eH⟩ hr' => ?_
  · rw [hb us ws m1 m2]
    have nd2 : ((ks.zip ws).map fun (p : Str × Value) => (Sum.inr p.1 : Key)).Nodup := by
      have e : ((ks.zip ws).map fun (p : Str × Value) => (Sum.inr p.1 : Key)) = ks.map Sum.inr := by
        have e := List.map_fst_zip (l₁ := ks) (l₂ := ws) (by omega)
        rw [← e, List.map_map, List.map_fst_zip (by omega)]
        rfl
      rw [e]
      exact List.Pairwise.map _ (fun a b h z => h (Sum.inr.inj z)) nd
    refine wpAny_bind (wpAny_alloc (setsF_dict (prog := P) (w := w) (kvs := []) (s := { s with heap := s.heap.push ({ data := .dict #[], cls := .type "dict" } : Obj) }) (Heap.DictOf.new s.heap) (fun _ h => by cases h) (by simpa using nd2) fun h' t' hm sb => wpAny_pure ?_))
    have hm : h'.DictOf (mixKind P w) s.heap.objs.size (kwL ks ws) := hm
    have new : ObjOk P w (upd H s.heap.objs.size (.dK (kwL ks zs))) h' s.heap.objs.size (.dK (kwL ks zs)) := dk_new (by rw [kwL_len l2]; exact hz) (beq_eq_false_iff_ne.mpr (Ne.symm (Nat.ne_of_lt (StX.env0_big e0)))) (kwL_rel rz) hm
    have kp : ∀ b x, s.heap.get? b = some x → h'.get? b = some x := fun b x e => (sb.2 b (Nat.ne_of_lt (Heap.lt_size e))).trans (Heap.get?_push_of_some _ e)
    have un : Un (frs outer) [] H (upd H s.heap.objs.size (.dK (kwL ks zs))) s.heap h' := Un.laid kp (Nat.le_refl _) hn
    have z := h { s with heap := h', toks := t' } _ (vs ++ [V.ref s.heap.objs.size]) (us ++ [Value.ref s.heap.objs.size]) (env0_set e0 sb new) un rfl (fun e s' => hCX outer s H _ _ E e s' un kp rfl) (r.append (.cons rfl .nil)) (by simp [l1]) ⟨_, hn, rfl, rfl⟩
    rw [List.zip_append m1.symm] at z
    exact z
  · subst ex eH
    exact hbody A outer s2 _ _ Q E hr' (hsp d hd)
end
end Dv
end
section
set_option Elab.async false
set_option linter.all false
set_option maxRecDepth 100000
set_option maxHeartbeats 4000000
namespace Dv
open PySem PySem.Spec PyProof.Rows L2
/-! ### a display with the entries of another dict -/
section
variable {prog : Program} {w : World} {κ : Type} [DecidableEq κ] {knd : PySem.KeyKind prog w κ} {A : Around} {E : Value → Shared → Prop} {s : Shared}
theorem put_pairs {d : Addr} {kvs : List (κ × Value)} {k : κ} {key v : Value} {Q : Unit → Shared → Prop} (hk : knd.is k key = true) (hm : s.heap.DictOf knd d kvs) (hz : kvs.length ≤ sizeLine)
    (hQ : ∀ h', h'.DictOf knd d (stored kvs k v) → Heap.SameBut d s.heap h' → Q () { s with heap := h' }) : wpAny (model prog w) A (dictPut d (knd.hash k) key v) Q E s := by
  obtain ⟨o, es, ep, ho, hc, hd, ks, hp, nd⟩ := hm
  have sz : es.size ≤ sizeLine := by
    have e1 := hp.length
    rw [Array.length_toList] at e1
    omega
  have ix : (es.findIdx? fun e => knd.is k e.key) = kvs.findIdx? fun kv => decide (kv.1 = k) := by
    rw [← hp.findIdx k]
    cases es
    simp
  unfold dictPut
  refine wpAny_bind (wpAny_dictFind_of hk ho hd ks ?_)
  cases hi : es.findIdx? fun e => knd.is k e.key with
  | some i =>
    have hl : (es.toList.findIdx? fun e => knd.is k e.key) = some i := by
      rw [← hi]
      cases es
      simp
    have hst : stored kvs k v = kvs.map fun kv => if kv.1 = k then (kv.1, v) else kv := if_pos (any_of_findIdx_some (ix ▸ hi))
    have hD := Obj.data_mapDict hd fun x => x.modify i fun e => { e with val := v }
    refine wpAny_updateDict ho hd (hQ _ ⟨_, _, ep, Heap.get?_update_self _ ho (Obj.isFreed_of_dict hD), hc.mapDict _, hD, ks.modify _ _, ?_, ?_⟩ (Heap.SameBut.update ..))
    · rw [hst]
      have z := hp.modify nd hl v
      cases es
      simpa using z
    · rw [hst, keys_map_store]
      exact nd
  | none =>
    have hf : k ∉ kvs.map (·.1) := not_mem_of_findIdx_none (ix ▸ hi)
    have hst : stored kvs k v = kvs ++ [(k, v)] := if_neg fun q => by
      obtain ⟨kv, h1, h2⟩ := List.any_eq_true.mp q
      exact hf (List.mem_map.mpr ⟨kv, h1, of_decide_eq_true h2⟩)
    have hD := Obj.data_mapDictKeys hd fun x => x.push ⟨knd.hash k, key, v⟩
    refine wpAny_updateDictKeys (hz := sz) ho hd (hQ _ ⟨_, _, ep + 1, Heap.get?_update_self _ ho (Obj.isFreed_of_dict hD), hc.mapDictKeys _, hD, ks.push hk _, ?_, ?_⟩ (Heap.SameBut.update ..))
    · rw [hst]
      have z := hp.append hk (knd.hash k) v
      cases es
      simpa using z
    · rw [hst, List.map_append, List.nodup_append]
      refine ⟨nd, by simp, fun a ha b hb e => hf ?_⟩
      have hb : b = k := by simpa using hb
      rw [← hb, ← e]
      exact ha
theorem sub_dd : isSubtype (.type "dict") (.type "dict") = pure true := by
  rw [isSubtype_type]
  kernel_rfl
theorem look_it : typeLookup (.type "dict") "__iter__" = pure (some (.builtin "dict.__iter__")) := by
  rw [typeLookup_type, builtinLookup_eq_fast]
  kernel_rfl
theorem merge_pairs {d o : Addr} {kvs more : List (κ × Value)} {Q : Unit → Shared → Prop} (hne : d ≠ o) (hS : (o == sysModules) = false) (h0 : kvs ≠ []) (hd : s.heap.DictOf knd d kvs) (ho : s.heap.DictOf knd o more) (hz : kvs.length + more.length ≤ sizeLine)
    (hQ : ∀ h', h'.DictOf knd d (merged kvs more) → Heap.SameBut d s.heap h' → Q () { s with heap := h' }) : wpAny (model prog w) A (mergeMapping d (.ref o) false) Q E s := by
  obtain ⟨od, esd, epd, hod, hcd, hdd, hkd, hpd, hnd⟩ := id hd
  obtain ⟨oo, eso, epo, hoo, hco, hdo, hko, hpo, hno⟩ := id ho
  have hT : s.TypeIs (.ref o) "dict" := ho.typeIs
  have hlen : more.length = eso.size := by
    rw [← hpo.length]
    simp
  have hne0 : esd.isEmpty = false := by
    cases q : esd.isEmpty with
    | false => rfl
    | true =>
      have e := hpd.length
      rw [Array.isEmpty_iff.mp q] at e
      exact absurd (List.length_eq_zero_iff.mp e.symm) h0
  unfold mergeMapping
  refine wpAny_bind (wpAny_isInstance hT sub_dd ?_)
  dsimp only
  rw [if_pos rfl]
  refine wpAny_bind (wpAny_specialOf hT look_it ?_)
  refine wpAny_bind (wpAny_pure ?_)
  simp only [beq_self_eq_true, hS, Bool.false_eq_true, if_false]
  refine wpAny_bind (wpAny_dictEntries hod hdd ?_)
  rw [hne0]
  simp only [Bool.false_eq_true, if_false]
  refine wpAny_bind (wpAny_dictEntries hoo hdo ?_)
  refine wpAny_bind (wpAny_dictEpoch hoo hdo ?_)
  refine wpAny_bind (wpAny_forIn_list _ (fun rest _ s' => ∃ h' i, s' = { s with heap := h' } ∧ rest = List.range' i (eso.size - i) ∧ i ≤ eso.size ∧ h'.DictOf knd d (merged kvs (more.take i)) ∧ h'.get? o = some oo ∧ Heap.SameBut d s.heap h') _ ?_ ?_ _ _ ?_)
  · rintro x rest b s' ⟨h', i, rfl, hr, hi, hd', hoo', sb⟩
    have hlt : i < eso.size := by
      rcases Nat.lt_or_ge i eso.size with q | q
      · exact q
      · rw [Nat.sub_eq_zero_of_le q] at hr
        cases hr
    rw [show eso.size - i = (eso.size - (i + 1)) + 1 by omega, List.range'_succ] at hr
    obtain ⟨rfl, hrest⟩ := List.cons.inj hr
    refine wpAny_bind (wpAny_dictEntries hoo' hdo ?_)
    rw [Array.getElem?_eq_getElem hlt]
    have hm : more[x]? = some (more[x]'(by omega)) := List.getElem?_eq_getElem _
    generalize more[x]'(by omega) = kv at hm
    obtain ⟨hk1, hv1⟩ := hpo.get? (e := eso[x]) (by simp [hlt]) hm
    obtain ⟨k2, hk2, hh⟩ := hko eso[x] (Array.getElem_mem hlt)
    have ek : k2 = kv.1 := knd.inj _ _ _ hk2 hk1
    subst ek
    have hl2 : (merged kvs (more.take x)).length ≤ sizeLine := by
      have e1 := merged_length_le kvs (more.take x)
      rw [List.length_take] at e1
      omega
    dsimp only
    rw [hh, hv1]
    refine wpAny_bind (wpAny_holding (put_pairs hk1 hd' hl2 fun h2 hd2 sb2 => ?_))
    have hoo2 : h2.get? o = some oo := (sb2.2 o (Ne.symm hne)).trans hoo'
    refine wpAny_bind (wpAny_dictEpoch hoo2 hdo ?_)
    rw [if_neg (by simp)]
    refine wpAny_pure ⟨h2, x + 1, rfl, hrest, hlt, ?_, hoo2, sb.trans sb2⟩
    rw [merged_take_succ kvs more x kv hm]
    exact hd2
  · rintro b s' ⟨h', i, rfl, hr, hi, hd', hoo', sb⟩
    have hin : i = eso.size := by
      rcases Nat.lt_or_ge i eso.size with q | q
      · rw [show eso.size - i = (eso.size - (i + 1)) + 1 by omega, List.range'_succ] at hr
        cases hr
      · omega
    rw [hin, ← hlen, List.take_length] at hd'
    exact wpAny_pure (hQ h' hd' sb)
  · exact ⟨s.heap, 0, rfl, by rw [List.range_eq_range', Nat.sub_zero], Nat.zero_le _, by simpa [merged] using hd, hoo, Heap.SameBut.refl _ _⟩
/-! the display itself -/
theorem gather2 {β : Type} (f : (Option (Sem Value) × Sem Value) → (Option Addr × List (Sem Value × Sem Value)) → Sem (ForInStep (Option Addr × List (Sem Value × Sem Value)))) (rest : List (Option (Sem Value) × Sem Value))
    (hf : ∀ (p : Sem Value × Sem Value) (run : List (Sem Value × Sem Value)), run.length < 16 → f (some p.1, p.2) (none, run) = pure (.yield (none, run ++ [p]))) :
    ∀ (ps run : List (Sem Value × Sem Value)), run.length + ps.length < 17 → forIn (ps.map (fun p => (some p.1, p.2)) ++ rest) ((none : Option Addr), run) f = forIn rest ((none : Option Addr), run ++ ps) f
  | [], run, _ => by simp
  | p :: ps, run, h => by
    rw [List.map_cons, List.cons_append, List.forIn_cons, hf p run (by simp at h; omega), pure_bind]
    have := gather2 (β := β) f rest hf ps (run ++ [p]) (by simp at h ⊢; omega)
    simpa using this
theorem disp_star {pairs : List (Sem Value × Sem Value)} {x : Sem Value} {Q : Value → Shared → Prop} (h0 : pairs ≠ []) (hl : pairs.length ≤ 15)
    (h : wpAny (model prog w) A (subDict pairs) (fun d s1 => wpAny (model prog w) A x (fun m s2 => wpAny (model prog w) A (mergeMapping d m false) (fun _ s3 => Q (.ref d) s3) (fun _ _ => False) s2) E s1) E s) :
    wpAny (model prog w) A (dictDisplay (pairs.map (fun p => (some p.1, p.2)) ++ [(none, x)])) Q E s := by
  unfold dictDisplay
  dsimp only
  rw [gather2 (β := Unit) _ _ (fun p run hr => by
    have hne : ((run ++ [(p.1, p.2)]).length == 17) = false := by simp; omega
    simp only [hne, Bool.false_eq_true, if_false]) pairs [] (by simp; omega)]
  rw [List.forIn_cons, List.nil_append]
  have he : pairs.isEmpty = false := by cases pairs with
    | nil => exact absurd rfl h0
    | cons _ _ => rfl
  simp only [he, Bool.false_eq_true, if_false]
  refine wpAny_bind (wpAny_bind (wpAny_bind (wpAny_bind (wpAny_mono h (fun d s1 h1 => wpAny_pure ?_) fun _ _ e => e))))
  dsimp only
  refine wpAny_bind (wpAny_pure ?_)
  refine wpAny_bind (wpAny_holding (wpAny_mono h1 (fun m s2 h2 => ?_) fun _ _ e => e))
  refine wpAny_bind (wpAny_onRaise (wpAny_tryCatch (wpAny_onRaise (wpAny_holding (wpAny_mono h2 (fun _ s3 h3 => ?_) fun _ _ e => e.elim)))))
  refine wpAny_pure ?_
  dsimp only
  rw [List.forIn_nil]
  refine wpAny_pure ?_
  simp only [List.isEmpty_nil, if_true]
  refine wpAny_bind (wpAny_pure ?_)
  exact wpAny_pure h3
end
end Dv
end
section
set_option Elab.async false
set_option linter.all false
set_option maxRecDepth 100000
set_option maxHeartbeats 4000000
namespace Dv
open PySem PySem.Spec PyProof.Rows L2
/-! ### dicts with names as keys, never changed -/
section
variable {K : PySem.W.Frag} {nm : Nm} {W : XK} {g g' : Gh} {H H' : Hp} {cs : Cells}
theorem Repd.len : ∀ {kvs : List (Key × D)} {vs : List (Key × V)}, Repd K nm g H kvs vs → kvs.length = vs.length
  | _, _, .nil => rfl
  | _, _, .cons _ t => by rw [List.length_cons, List.length_cons, t.len]
theorem Repd.val {k : Key} : ∀ {kvs : List (Key × D)} {vs : List (Key × V)}, Repd K nm g H kvs vs → ∀ d, valD kvs k = some d → ∃ v, valV vs k = some v ∧ Rep K nm g H d v
  | _, _, .nil, d, e => by simp [valD] at e
  | (k', d') :: kvs, (_, v') :: vs, .cons h t, d, e => by
    by_cases q : k' = k
    · subst q
      have e2 : valD ((k', d') :: kvs) k' = some d' := by simp [valD]
      rw [e2] at e
      cases e
      exact ⟨v', by simp [valV], h⟩
    · have e2 : valD ((k', d') :: kvs) k = valD kvs k := by simp [valD, q]
      rw [e2] at e
      obtain ⟨v, h1, h2⟩ := t.val d e
      exact ⟨v, by rw [valV_neg q]; exact h1, h2⟩
theorem Repd.any {k : Key} : ∀ {kvs : List (Key × D)} {vs : List (Key × V)}, Repd K nm g H kvs vs → (kvs.any fun p => decide (p.1 = k)) = vs.any fun p => decide (p.1 = k)
  | _, _, .nil => rfl
  | _, _, .cons h t => by rw [List.any_cons, List.any_cons, t.any]
theorem Repd.map {k : Key} {d : D} {v : V} (r : Rep K nm g H d v) : ∀ {kvs : List (Key × D)} {vs : List (Key × V)}, Repd K nm g H kvs vs → Repd K nm g H (kvs.map fun p => if p.1 = k then (p.1, d) else p) (vs.map fun p => if p.1 = k then (p.1, v) else p)
  | _, _, .nil => .nil
  | (k', d') :: kvs, (_, v') :: vs, .cons h t => by
    rw [List.map_cons, List.map_cons]
    by_cases q : k' = k
    · rw [if_pos q, if_pos q]
      exact .cons r (t.map r)
    · rw [if_neg q, if_neg q]
      exact .cons h (t.map r)
theorem Repd.snoc {k : Key} {d : D} {v : V} (r : Rep K nm g H d v) : ∀ {kvs : List (Key × D)} {vs : List (Key × V)}, Repd K nm g H kvs vs → Repd K nm g H (kvs ++ [(k, d)]) (vs ++ [(k, v)])
  | _, _, .nil => .cons r .nil
  | _, _, .cons h t => .cons h (t.snoc r)
theorem Repd.put {k : Key} {d : D} {v : V} {kvs : List (Key × D)} {vs : List (Key × V)} (h : Repd K nm g H kvs vs) (r : Rep K nm g H d v) : Repd K nm g H (putD kvs k d) (putK vs k v) := by
  unfold putD putK
  rw [h.any]
  split
  · exact h.map r
  · exact h.snoc r
theorem Repd.merge : ∀ {more : List (Key × D)} {ms : List (Key × V)} {kvs : List (Key × D)} {vs : List (Key × V)}, Repd K nm g H kvs vs → Repd K nm g H more ms → Repd K nm g H (mergeD kvs more) (mergeK vs ms)
  | _, _, _, _, h, .nil => h
  | (k, d) :: more, (_, v) :: ms, kvs, vs, h, .cons r t => by
    have z := Repd.merge (kvs := putD kvs k d) (vs := putK vs k v) (h.put (k := k) r) t
    exact z
theorem merge0 {kvs : List (Key × D)} {vs : List (Key × V)} (h : Repd K nm g H kvs vs) : Repd K nm g H (mergeD [] kvs) (mergeK [] vs) := Repd.merge .nil h
theorem repd_kw : ∀ {ks : List Str} {ds : List D} {vs : List V}, Reps K nm g H ds vs → Repd K nm g H (kwD ks ds) (kwL ks vs)
  | [], _, _, _ => .nil
  | _ :: _, _, _, .nil => .nil
  | k :: ks, _, _, .cons h t => .cons h (repd_kw (ks := ks) t)
theorem yl_keysD {a : Addr} {o : Obj} {kvs : List (Key × D)} {vs : List (Key × V)} (hf : g.fz a) (h : H a = some (.frz o (.dK vs))) (r : Repd K nm g H kvs vs) : Yl K nm g H (kvs.map fun q => kD q.1) (Itk a o vs) := by
  intro g1 H1 e ok i
  have h1 := e.kf a _ hf h
  have hl := r.len
  refine ⟨fun hi => ⟨h1, by rw [← hl]; simpa using hi⟩, fun d hd => ?_⟩
  rw [List.getElem?_map] at hd
  cases q : kvs[i]? with
  | none => rw [q] at hd; cases hd
  | some p =>
    rw [q] at hd
    cases hd
    have hi : i < kvs.length := (List.getElem?_eq_some_iff.mp q).1
    refine ⟨⟨h1, by rw [← hl]; exact hi⟩, fun x H2 ⟨e1, k, v, e2, e3⟩ => ?_⟩
    subst e1 e3
    have keys : ∀ {kvs : List (Key × D)} {vs : List (Key × V)} {i : Nat} {p : Key × D} {k : Key} {v : V}, Repd K nm g H kvs vs → kvs[i]? = some p → vs[i]? = some (k, v) → p.1 = k := by
      intro kvs vs i p k v r
      induction i generalizing kvs vs with
      | zero =>
        intro a b
        cases r with
        | nil => cases a
        | cons h t => cases a; cases b; rfl
      | succ i ih =>
        intro a b
        cases r with
        | nil => cases a
        | cons h t => exact ih t (by simpa using a) (by simpa using b)
    have ek := keys r q e2
    refine ⟨g1, .inl ⟨rfl, rfl⟩, ?_⟩
    show Rep K nm g1 _ (kD p.1) _
    rw [ek]
    cases k with
    | inl n => exact .int n
    | inr x => exact .str x
end
section
variable {T : Tab} {O : Orc} {nm : Nm} {X : Cx} {W : XK} {a b c e tg : Expr} {es : List Expr} {fa fb fc : Env → Cells → Res D} {pos : Pos}
theorem rep_dic {K : PySem.W.Frag} {g : Gh} {H : Hp} {p : Key × D} {r : List (Key × D)} {v : V} (h : Rep K nm g H (.dic (p :: r)) v) : ∃ a o vs, v = .ref a ∧ g.fz a ∧ H a = some (.frz o (.dK vs)) ∧ Repd K nm g H (p :: r) vs := by
  cases h with
  | dicF h1 h2 h3 => exact ⟨_, _, _, rfl, h1, h2, h3⟩
/-- d["x"] -/
theorem d_dsub (C : Ctx T O nm X W) {x : Str} {j : Nat} {p2 : Pos} (ha : PE X a (tV X.K nm W fa)) : PE X (.Subscript a (.Constant (.str x) j p2) pos) (tV X.K nm W fun ρ cs => (fa ρ cs).bind fun d cs => subK d x cs) := by
  have hu : X.A.units + 1 < cLine := by have := C.room.un; omega
  refine (pe_dget hu ha pe_str (fun _ _ => rfl)).imp fun σ H Q q => ?_
  obtain ⟨g, ρ, cs, en, co, p⟩ := q
  refine ⟨g, ρ, cs, en, co, (Post.bind (R := Rep X.K nm) p).imp ?_⟩
  rintro v H1 ⟨d, g1, cs1, e1, c1, r1, p1⟩
  unfold subK at p1
  split at p1
  · rename_i q r
    obtain ⟨ad, o, vs, rfl, h1, h2, h3⟩ := rep_dic r1
    cases hv : valD (q :: r) (.inr x) with
    | none => rw [hv] at p1; exact p1.elim
    | some y =>
      rw [hv] at p1
      obtain ⟨w, w1, w2⟩ := h3.val y hv
      exact ⟨ad, w, rfl, .inl ⟨vs, .inr x, .inr ⟨o, h2⟩, rfl, w1.symm⟩, Post.ok p1 c1 w2⟩
  · exact p1.elim
/-- for x in d -/
theorem si_dks (h : PE X e (tV X.K nm W fa)) : PI X tg e (tI X.K nm W fun ρ cs => (fa ρ cs).bind fun d cs => keysD d cs) := (pi_keys h).imp fun σ H R q => by
  obtain ⟨g, ρ, cs, en, co, p⟩ := q
  refine ⟨g, ρ, cs, en, co, (Post.bind (R := Rep X.K nm) p).imp ?_⟩
  rintro v H1 ⟨d, g1, cs1, e1, c1, r1, p1⟩
  unfold keysD at p1
  split at p1
  · rename_i q r
    obtain ⟨ad, o, vs, rfl, h1, h2, h3⟩ := rep_dic r1
    exact ⟨ad, o, rfl, .inl ⟨vs, h2, Post.ok p1 c1 (yl_keysD h1 h2 h3)⟩⟩
  · exact p1.elim
/-! {k: v, .., **d} -/
/-- the pairs, then the other dict; the new one is locked at once -/
def tDispS (trs : List (TE × TE)) (tb : TE) : TE := fun σ H Q => ∀ p, H p = none → tPairs trs σ (upd H p (.dK [])) fun ps H2 => H2 p = some (.dK []) ∧ ∃ kvs : List (Key × V), ps = kvs.map (fun kv => (kV kv.1, kv.2)) ∧ kvs.length ≤ 15 ∧ mergeK [] kvs ≠ [] ∧
  tb σ (upd H2 p (.dK (mergeK [] kvs))) fun x H3 => ∃ a more, x = .ref a ∧ a ≠ p ∧ Rd H3 a (.dK more) ∧ more.length ≤ 1000 ∧ H3 p = some (.dK (mergeK [] kvs)) ∧ ∀ o, Q (.ref p) (upd H3 p (.frz o (.dK (mergeK (mergeK [] kvs) more))))
theorem zip_star : ∀ (keys : List (Option Expr)) (values : List Expr) (b : Expr) (env : PySem.Env) (pos : Pos), keys.all (·.isSome) = true → keys.length = values.length →
    (evalEachOpt (keys ++ [none]) env).zip ((evalEach (values ++ [b]) env).map fun v => do let x ← v; standAt pos; pure x) = (pairTrees keys values env pos).map (fun p => (some p.1, p.2)) ++ [(none, do let x ← eval b env; standAt pos; pure x)]
  | [], [], b, env, pos, _, _ => rfl
  | [], _ :: _, _, _, _, _, h => by simp at h
  | _ :: _, [], _, _, _, _, h => by simp at h
  | none :: _, _ :: _, _, _, _, h, _ => by simp at h
  | some k :: ks, v :: vs, b, env, pos, h, hl => by
    have ih := zip_star ks vs b env pos (by simpa using h) (by simpa using hl)
    exact congrArg (List.cons (some (eval k env), (do let x ← eval v env; standAt pos; pure x))) ih
theorem pe_dispS {keys : List (Option Expr)} {values : List Expr} {trs : List (TE × TE)} {tb : TE} (h : PPs X pos keys values trs) (hb : PE X b tb) (hall : keys.all (·.isSome) = true) (hl : keys.length = values.length) (h0 : keys ≠ []) (h15 : keys.length ≤ 15) : PE X (.Dict (keys ++ [none]) (values ++ [b]) pos) (tDispS trs tb) := by
  refine ⟨fun pins s σ H Q I q => ?_⟩
  have hn := I.hok.fresh (Nat.le_refl s.heap.objs.size)
  have I1 := I.laid (t' := s.toks) (o := .dK []) (h' := s.heap.push ({ data := .dict #[], cls := .type "dict" } : Obj)) (a := s.heap.objs.size) (fun _ _ q => Heap.get?_push_of_some _ q) (Nat.le_refl _) (dk_empty s.heap I.big)
  have pl := pairTrees_length keys values X.env pos hall hl
  rw [arm_eval_Dict, zip_star keys values b X.env pos hall hl]
  refine wpAny_bind (wpAny_standAt (disp_star (fun e => h0 (by rw [← List.length_eq_zero_iff, ← pl, e]; rfl)) (by omega) ?_))
  refine wpAny_subDict (knd := mixKind X.prog X.w) (by omega) (thn (h.run pins _ σ _ _ I1 (q _ hn)) fun ws s2 ⟨ps, H2, I2, rel, e, kvs, ep, lk, ne, q2⟩ => ?_)
  subst ep
  obtain ⟨rs, c, rk⟩ := carries_of (P := X.prog) (w := X.w) rel
  obtain ⟨z, hd, vs0, r0, dd⟩ := L2.dk_of I2.hok e
  cases r0
  refine ⟨rs, c, dd, fun h' dd' hs => ?_⟩
  have l1 := length_mergeK kvs []
  rw [List.length_nil] at l1
  have hz : (mergeK [] kvs).length ≤ sizeLine := by rw [sizeLine_eq]; omega
  have he : ∃ q, h'.get? s.heap.objs.size = some q := let ⟨q, _, _, hq, _⟩ := dd'; ⟨q, hq⟩
  have mu : Mut (H2 s.heap.objs.size) := by rw [e]; exact True.intro
  have I3 := d_write (t' := s2.toks + ws.length) I2 mu hs he (dk_new hz hd (rk.merge .nil) dd')
  refine wpAny_bind (thn (hb.run pins _ σ _ _ I3 q2) fun u s4 ⟨x, H4, I4, rx, a, more, ex, hne, hr, hml, hp, q4⟩ => wpAny_bind (wpAny_standAt (wpAny_pure ?_)))
  subst ex
  obtain rfl : u = Value.ref a := rx
  obtain ⟨z1, _, vs1, r1, d1⟩ := dk_rd I4.hok (.inl hp)
  obtain ⟨z2, hS, vs2, r2, d2⟩ := dk_rd I4.hok hr
  have n1 : vs1 ≠ [] := fun e => ne (by
    have := Paired.length r1
    rw [e] at this
    exact List.length_eq_zero_iff.mp this)
  have l2 : vs1.length + vs2.length ≤ sizeLine := by
    have e1 := Paired.length r1
    have e2 := Paired.length r2
    rw [sizeLine_eq]
    omega
  refine merge_pairs (knd := mixKind X.prog X.w) (Ne.symm hne) hS n1 d1 d2 l2 fun h5 d5 sb5 => ?_
  have l3 : (mergeK (mergeK [] kvs) more).length ≤ sizeLine := by
    have := length_mergeK more (mergeK [] kvs)
    rw [sizeLine_eq]
    omega
  have he5 : ∃ q, h5.get? s.heap.objs.size = some q := let ⟨q, _, _, hq, _⟩ := d5; ⟨q, hq⟩
  have mu5 : Mut (H4 s.heap.objs.size) := by rw [hp]; exact True.intro
  have I5 := d_write (t' := s4.toks) I4 mu5 sb5 he5 (dk_new l3 hd (KV.merge r2 r1) d5)
  obtain ⟨o, I6⟩ := I5.lock upd_same (show Mut (some (.dK (mergeK (mergeK [] kvs) more))) from True.intro)
  rw [upd_upd] at I6
  exact ⟨.ref s.heap.objs.size, _, I6, rfl, q4 o⟩
abbrev tCst (x : Str) : TE := fun _ H Q => Q (.str x) H
def trsA (T : Tab) (K : PySem.W.Frag) (nm : Nm) (W : XK) (f : Env → Cells → Res D) (kjs : List (Str × Nat)) : List (TE × TE) := kjs.map fun p => (tCst p.1, tV K nm W (attrV T f p.2))
theorem pairs_A {K : PySem.W.Frag} {σ : L2.St} {ρ : Env} {f : Env → Cells → Res D} : ∀ {kjs : List (Str × Nat)} {g : Gh} {H : Hp} {cs : Cells} {Q : List V → Hp → Prop} {R : List (V × V) → Hp → Prop}, EnvOk K nm g H σ ρ → CsOk K nm g H cs → Post K nm W (Reps K nm) g H (attrsD T f (kjs.map (·.2)) ρ cs) Q →
    (∀ vs H2, Q vs H2 → R ((kwL (kjs.map (·.1)) vs).map fun kv => (kV kv.1, kv.2)) H2) → tPairs (trsA T K nm W f kjs) σ H R
  | [], g, H, cs, Q, R, en, co, p, h => h [] H (Post.ok p co .nil)
  | (k, j) :: kjs, g, H, cs, Q, R, en, co, p, h => by
    show tV K nm W (attrV T f j) σ H _
    refine ⟨g, ρ, cs, en, co, (Post.bind (R := Rep K nm) p).imp ?_⟩
    rintro v H1 ⟨d, g1, cs1, e1, c1, r1, p1⟩
    refine pairs_A (kjs := kjs) (en.mono e1 co.ok) c1 (Post.bind (R := Reps K nm) p1) ?_
    rintro vs H2 ⟨ds, g2, cs2, e2, c2, r2, p2⟩
    exact h (v :: vs) H2 (Post.ok p2 c2 (.cons (r1.mono e2 c1.ok) r2))
theorem attrsD_len {f : Env → Cells → Res D} : ∀ {js : List Nat} {ρ : Env} {cs : Cells} {ds : List D} {cs' : Cells}, attrsD T f js ρ cs = .ok ds cs' → ds.length = js.length
  | [], ρ, cs, ds, cs', h => by
    cases h
    rfl
  | j :: js, ρ, cs, ds, cs', h => by
    rw [attrsD] at h
    cases h1 : attrV T f j ρ cs with
    | bad => rw [h1] at h; cases h
    | exc e c => rw [h1] at h; cases h
    | ok d cs1 =>
      rw [h1] at h
      have h : ((attrsD T f js ρ cs1).bind fun xs cs => Res.ok (d :: xs) cs) = .ok ds cs' := h
      cases h2 : attrsD T f js ρ cs1 with
      | bad => rw [h2] at h; cases h
      | exc e c => rw [h2] at h; cases h
      | ok es cs2 =>
        rw [h2] at h
        cases h
        rw [List.length_cons, List.length_cons, attrsD_len h2]
theorem put_ne {κ : Type} [DecidableEq κ] (kvs : List (κ × V)) (k : κ) (v : V) : putK kvs k v ≠ [] := by
  unfold putK
  split
  · rename_i h
    intro z
    rw [List.map_eq_nil_iff] at z
    rw [z] at h
    cases h
  · simp
theorem merge_ne : ∀ {more kvs : List (Key × V)}, kvs ≠ [] ∨ more ≠ [] → mergeK kvs more ≠ []
  | [], kvs, h => h.elim id fun z => absurd rfl z
  | p :: more, kvs, _ => merge_ne (more := more) (.inl (put_ne kvs p.1 p.2))
theorem d_dctA {keys : List (Option Expr)} {values : List Expr} {kjs : List (Str × Nat)} (h : PPs X pos keys values (trsA T X.K nm W fa kjs)) (hb : PE X b (tV X.K nm W fb)) (hall : keys.all (·.isSome) = true) (hl : keys.length = values.length) (hk : keys.length = kjs.length) (h0 : keys ≠ []) (h15 : keys.length ≤ 15) :
    PE X (.Dict (keys ++ [none]) (values ++ [b]) pos) (tV X.K nm W fun ρ cs => (attrsD T fa (kjs.map (·.2)) ρ cs).bind fun ds cs => (fb ρ cs).bind fun d cs => dispD (kjs.map (·.1)) ds d cs) := (pe_dispS h hb hall hl h0 h15).imp fun σ H Q q => by
  obtain ⟨g, ρ, cs, en, co, p⟩ := q
  have p : Post X.K nm W (Rep X.K nm) g H ((attrsD T fa (kjs.map (·.2)) ρ cs).bind fun ds cs => (fb ρ cs).bind fun d cs => dispD (kjs.map (·.1)) ds d cs) Q := p
  intro D hD
  have el : Ext g H g (upd H D (.dK [])) := ext_laid hD
  have enL := en.mono el co.ok
  have coL := co.laid (o := .dK []) hD
  have lo := lone_new (o := .dK []) co hD
  cases h1 : attrsD T fa (kjs.map (·.2)) ρ cs with
  | bad => rw [h1] at p; exact p.elim
  | exc ee cs2 =>
    rw [h1] at p
    refine pairs_A (Q := fun _ _ => False) enL coL ?_ fun _ _ z => z.elim
    rw [h1]
    exact fun cls dx g2 H2 e2 c2 r2 => p cls dx g2 H2 (el.trans e2) c2 r2
  | ok ds cs2 =>
    rw [h1] at p
    have p : Post X.K nm W (Rep X.K nm) g H ((fb ρ cs2).bind fun d cs => dispD (kjs.map (·.1)) ds d cs) Q := p
    refine pairs_A (Q := fun vs H2 => ∃ g2, Ext g (upd H D (.dK [])) g2 H2 ∧ CsOk X.K nm g2 H2 cs2 ∧ Reps X.K nm g2 H2 ds vs) enL coL ?_ ?_
    · rw [h1]
      exact fun vs g2 H2 e2 c2 r2 => ⟨g2, e2, c2, r2⟩
    · rintro vs H2 ⟨g2, e2, c2, r2⟩
      have lo2 := lo.mono e2
      have hv : vs.length = (kjs.map (·.1)).length := by
        rw [← r2.length, attrsD_len h1, List.length_map, List.length_map]
      have hkl : (kwL (kjs.map (·.1)) vs).length = kjs.length := by rw [kwL_len hv, List.length_map]
      have hne : kwL (kjs.map (·.1)) vs ≠ [] := fun z => by
        rw [z] at hkl
        exact h0 (List.length_eq_zero_iff.mp (hk.trans hkl.symm))
      refine ⟨lo2.2.2, kwL (kjs.map (·.1)) vs, rfl, by omega, merge_ne (.inr hne), ?_⟩
      have e3 : Ext g H g2 (upd H2 D (.dK (mergeK [] (kwL (kjs.map (·.1)) vs)))) := own_ext (el.trans e2) hD
      have c3 := lo2.csOk (o' := .dK (mergeK [] (kwL (kjs.map (·.1)) vs))) c2
      have lo3 : Lone g2 (upd H2 D (.dK (mergeK [] (kwL (kjs.map (·.1)) vs)))) D (.dK (mergeK [] (kwL (kjs.map (·.1)) vs))) := ⟨lo2.1, lo2.2.1, upd_same⟩
      have r3 : Reps X.K nm g2 (upd H2 D (.dK (mergeK [] (kwL (kjs.map (·.1)) vs)))) ds vs := r2.monoS lo2.exS
      refine ⟨g2, ρ, cs2, en.mono e3 co.ok, c3, ?_⟩
      cases h2 : fb ρ cs2 with
      | bad => rw [h2] at p; exact p.elim
      | exc ee cs3 =>
        rw [h2] at p
        exact fun cls dx g4 H4 e4 c4 r4 => p cls dx g4 H4 (e3.trans e4) c4 r4
      | ok d cs3 =>
        rw [h2] at p
        have p : Post X.K nm W (Rep X.K nm) g H (dispD (kjs.map (·.1)) ds d cs3) Q := p
        unfold dispD at p
        split at p
        case h_2 => exact p.elim
        rename_i q r
        split at p
        case isFalse => exact p.elim
        rename_i hr
        split at p
        case h_2 => exact p.elim
        rename_i t ts he
        intro v g4 H4 e4 c4 r4
        obtain ⟨ad, o, ms, rfl, f1, f2, f3⟩ := rep_dic r4
        have lo4 := lo3.mono e4
        refine ⟨ad, ms, rfl, fun z => lo4.1 (z ▸ f1), .inr ⟨o, f2⟩, ?_, lo4.2.2, fun o2 => ?_⟩
        · have := f3.len
          simp only [List.length_cons] at this
          omega
        · have m1 := Repd.merge (merge0 (repd_kw (ks := kjs.map (·.1)) (r3.mono e4 c3.ok))) f3
          rw [he] at m1
          have lo5 : Lone g4 (upd H4 D (.frz o2 (.dK (mergeK (mergeK [] (kwL (kjs.map (·.1)) vs)) ms)))) D _ := ⟨lo4.1, lo4.2.1, upd_same⟩
          have c5 := lo5.frz (lo4.csOk c4)
          have ex : ExtS g4 H4 (g4.add D) (upd H4 D (.frz o2 (.dK (mergeK (mergeK [] (kwL (kjs.map (·.1)) vs)) ms)))) := by
            refine ⟨⟨[], by simp [Gh.add]⟩, fun b hb => .inl hb, fun b o' hb q => ?_⟩
            rw [upd_ne (show b ≠ D from fun e => lo4.1 (e ▸ hb))]
            exact q
          have z := own_ext (o := .frz o2 (.dK (mergeK (mergeK [] (kwL (kjs.map (·.1)) vs)) ms))) (e3.trans e4) hD
          have ez : Ext g H (g4.add D) (upd H4 D (.frz o2 (.dK (mergeK (mergeK [] (kwL (kjs.map (·.1)) vs)) ms)))) := ⟨z.io, fun a h => .inl (z.fz a h), fun a h => h.elim (z.fzn a) fun e => .inr (e ▸ hD), z.keep, z.there⟩
          exact p _ (g4.add D) _ ez c5 (.dicF (.inr rfl) upd_same (m1.monoS ex))
/-! ### a def called with names that go to its dict -/
def spW (K : PySem.W.Frag) (nm : Nm) (W : XK) (O : Orc) (f : Nat) : Sp := fun vs H Q E => E = W ∧ ∃ d vs' H0 g cs ds p kvs ws, vs = vs' ++ [V.ref d] ∧ H0 d = none ∧ H = upd H0 d (.dK ws) ∧ CsOk K nm g H0 cs ∧ Reps K nm g H0 ds vs' ∧ Repd K nm g H0 (p :: kvs) ws ∧ Post K nm W (Rep K nm) g H0 (O true f (ds ++ [.dic (p :: kvs)]) cs) Q
theorem run_fnW {CX : CXT} {k n : Nat} {f : Addr} {ks : List Str} {sp : Sp} {E : XK} {Q : VK} {us ws : List Value} {vs zs : List V} {pins : List (Addr × Obj)} {s : Shared} {σ : L2.St} {H : Hp} (F : FnW X.prog X.w X.K X.mg X.base CX k f n ks sp) (hr : Room k X.A) (hx : Passes CX X E) (I : L2.Inv X pins σ H s)
    (r : Vals vs us) (rz : Vals zs ws) (h1 : vs.length = n) (h2 : zs.length = ks.length) (h : ∀ d, H d = none → sp (vs ++ [V.ref d]) (upd H d (.dK (kwL ks zs))) Q E) : wpAny (model X.prog X.w) X.A (call (.ref f) us (ks.zip ws)) (EP X pins σ Q) X.xe s := by
  refine wpAny_call (codeAny_mono (F X.A X.stack s H us ws vs zs Q E hr I.env0 r rz h1 h2 h) fun r s' hq => ?_)
  cases r with
  | error e => exact hx pins σ H s e s' I hq
  | ok fl =>
    cases fl with
    | ret u => exact I.after hq
    | next => exact False.elim hq
    | brk => exact False.elim hq
    | cont => exact False.elim hq
theorem d_methw {CX : CXT} {nn : Nat} (C : Ctx T O nm X W) (hr : Room nn X.A) (hx : Passes CX X W) {o : Expr} {m : Nat} {ms : Str} {apos : Pos} {kws : List Keyword} {ks : List Str} {fk : Env → Cells → Res (List D)} (hW : ∀ c f, methOf T c m = some f → FnW X.prog X.w X.K X.mg X.base CX nn (nm.fa f) 1 ks (spW X.K nm W O f))
    (hms : nm.mt m = ms) (hb : noSup o = true) (hl : kws.length < 29) (hp : (apos.endLine == pos.line) = true) (hk : kwNames kws = some ks)
    (ho : PE X o (tV X.K nm W fa)) (hkk : PK X kws (tAs X.K nm W fk)) :
    PE X (.Call (.Attribute o ms apos) [] kws pos) (tV X.K nm W fun ρ cs => (fa ρ cs).bind fun x cs => (match methF T m x cs with
    | some f => (fk ρ cs).bind fun ds cs => if ds.length = ks.length ∧ ks ≠ [] then O true f [x, .dic (kwD ks ds)] cs else .bad
    | none => .bad)) := by
  subst hms
  refine ⟨fun pins s σ H Q I h => ?_⟩
  obtain ⟨g, ρ, cs, en, c, p⟩ := h
  refine PySem.W.methodCall_KW (pl := do return (← importBound o X.env).getD true) (thn (ho.run pins s σ H _ I ⟨g, ρ, cs, en, c, Post.bind (R := Rep X.K nm) p⟩) fun u s1 ⟨x, H1, I1, rx, d, g1, cs1, e1, c1, r1, p1⟩ => ?_) (mc_formK (es := []) hk hb rfl (by simpa using hl) hp)
  refine meth_run (C := C) I1 c1 r1 rx p1 fun f p2 ⟨cc, hkp, hm⟩ => ?_
  have en1 := en.mono e1 c.ok
  refine cw_kw (es := []) (fs := fun _ cs => .ok [] cs) (fun _ _ _ => rfl) rfl hk d_nil hkk hkp I1 ?_
  refine ⟨g1, ρ, cs1, en1, c1, ?_⟩
  intro vs g2 H2 e2 c2 r2
  cases r2
  have p2 := Post.mono p2 e2
  refine ⟨g2, ρ, cs1, en1.mono e2 c1.ok, c2, ?_⟩
  cases h2 : fk ρ cs1 with
  | bad => rw [h2] at p2; exact p2.elim
  | exc ee cs3 => rw [h2] at p2; exact p2
  | ok zs cs3 =>
    rw [h2] at p2
    have p2 : Post X.K nm W (Rep X.K nm) g2 H2 (if zs.length = ks.length ∧ ks ≠ [] then O true f [d, .dic (kwD ks zs)] cs3 else .bad) Q := p2
    split at p2
    case isFalse => exact p2.elim
    rename_i hc
    intro vz g3 H3 e3 c3 r3 us ws s3 I3 rv rz
    cases rv
    have e13 := e2.trans e3
    obtain ⟨q, t, eq⟩ : ∃ q t, kwD ks zs = q :: t := by
      cases hks : ks with
      | nil => exact absurd hks hc.2
      | cons k0 kr =>
        cases hzs : zs with
        | nil => rw [hzs, hks] at hc; cases hc.1
        | cons z0 zr => exact ⟨_, _, rfl⟩
    refine run_fnW (vs := [x]) (us := [u]) (zs := vz) (hW cc f hm) hr hx I3 (.cons rx .nil) rz rfl (by rw [← r3.length, hc.1]) fun ad had => ?_
    rw [eq] at p2
    have rk := repd_kw (ks := ks) r3
    rw [eq] at rk
    exact ⟨rfl, ad, [x], H3, g3, cs3, [d], q, t, _, rfl, had, rfl, c3, .cons (r1.mono e13 c1.ok) .nil, rk, Post.mono p2 e3⟩
end
end Dv
end
section
set_option Elab.async false
set_option linter.all false
set_option maxRecDepth 100000
set_option maxHeartbeats 4000000
namespace Dv
open PySem PySem.Spec PyProof.Rows L2
/-- where a body stands: g0, H0 as it began -/
structure FOk (K : PySem.W.Frag) (nm : Nm) (x0 : Addr) (g0 : Gh) (H0 : Hp) (g : Gh) (H : Hp) (σ : L2.St) (ρ : Env) (cs : Cells) : Prop where
  en : EnvOk K nm g H σ ρ
  cs : CsOk K nm g H cs
  ex : Ext g0 H0 g H
  own : ∀ (i : Nat) (d : D) (a : Addr), ρ[i]? = some (.own d) → σ[i]? = some (some (.ref a)) → H0 a = none
  slf : ∀ (i : Nat) (c : Nat) (fs : List (Nat × D)), ρ[i]? = some (.own (.ins c fs)) → σ[i]? = some (some (.ref x0))
section
variable {K : PySem.W.Frag} {nm : Nm} {W : XK} {x0 : Addr} {g0 g g' g2 : Gh} {H0 H H' H2 : Hp} {cs cs' : Cells} {σ : L2.St} {ρ : Env} {α β : Type}
theorem FOk.mono (f : FOk K nm x0 g0 H0 g H σ ρ cs) (e : Ext g H g' H') (c : CsOk K nm g' H' cs') : FOk K nm x0 g0 H0 g' H' σ ρ cs' := ⟨f.en.mono e f.cs.ok, c, f.ex.trans e, f.own, f.slf⟩
def PostS (K : PySem.W.Frag) (nm : Nm) (W : XK) (x0 : Addr) (g0 : Gh) (H0 : Hp) (g : Gh) (H : Hp) (r : Res Flw) (D : Ends) : Prop := match r with
  | .ok (.nx ρ) cs => ∀ σ' g' H', ExtS g H g' H' → FOk K nm x0 g0 H0 g' H' σ' ρ cs → D.nx σ' H'
  | .ok (.ret d) cs => ∀ v g' H', Ext g0 H0 g' H' → CsOk K nm g' H' cs → Rep K nm g' H' d v → D.rt v H'
  | .ok (.brk ρ) cs => ∀ σ' g' H', ExtS g H g' H' → FOk K nm x0 g0 H0 g' H' σ' ρ cs → D.bk σ' H'
  | .ok (.cnt ρ) cs => ∀ σ' g' H', ExtS g H g' H' → FOk K nm x0 g0 H0 g' H' σ' ρ cs → D.ct σ' H'
  | .exc e cs => ∀ cls dx g' H', Ext g0 H0 g' H' → CsOk K nm g' H' cs → RepE K nm g' H' e cls dx → W cls dx H'
  | .bad => False
theorem PostS.mono {r : Res Flw} {D : Ends} (p : PostS K nm W x0 g0 H0 g H r D) (e : ExtS g H g' H') : PostS K nm W x0 g0 H0 g' H' r D := by
  match r, p with
  | .ok (.nx ρ) cs, p => exact fun σ' g2 H2 e2 f => p σ' g2 H2 (e.trans e2) f
  | .ok (.ret d) cs, p => exact p
  | .ok (.brk ρ) cs, p => exact fun σ' g2 H2 e2 f => p σ' g2 H2 (e.trans e2) f
  | .ok (.cnt ρ) cs, p => exact fun σ' g2 H2 e2 f => p σ' g2 H2 (e.trans e2) f
  | .exc _ _, p => exact p
  | .bad, p => exact p
theorem PostS.bind {r : Res α} {k : α → Cells → Res Flw} {R : Gh → Hp → α → β → Prop} {D : Ends} (f : FOk K nm x0 g0 H0 g H σ ρ cs) (p : PostS K nm W x0 g0 H0 g H (r.bind k) D) :
    Post K nm W R g H r fun b H1 => ∃ a g1 cs1, Ext g H g1 H1 ∧ ExtS g H g1 H1 ∧ FOk K nm x0 g0 H0 g1 H1 σ ρ cs1 ∧ R g1 H1 a b ∧ PostS K nm W x0 g0 H0 g1 H1 (k a cs1) D := by
  match r, p with
  | .ok a cs1, p => exact fun b g1 H1 e c q => ⟨a, g1, cs1, e, e.s f.cs.ok, f.mono e c, q, PostS.mono p (e.s f.cs.ok)⟩
  | .exc d cs1, p => exact fun cls dx g1 H1 e c q => p cls dx g1 H1 (f.ex.trans e) c q
  | .bad, p => exact p
theorem PostS.nx {D : Ends} (p : PostS K nm W x0 g0 H0 g H (.ok (.nx ρ) cs) D) (f : FOk K nm x0 g0 H0 g H σ ρ cs) : D.nx σ H := p σ g H .refl f
end
def tS (K : PySem.W.Frag) (nm : Nm) (W : XK) (f : Env → Cells → Res Flw) : TS := fun D σ H => ∃ x0 g0 H0 g ρ cs, FOk K nm x0 g0 H0 g H σ ρ cs ∧ PostS K nm W x0 g0 H0 g H (f ρ cs) D
section
variable {K : PySem.W.Frag} {nm : Nm} {W : XK} {x0 : Addr} {g0 g g' g2 : Gh} {H0 H H' H2 : Hp} {cs cs' : Cells} {σ : L2.St} {ρ : Env} {α β : Type}
/-! ### slots rewritten -/
theorem FOk.setV {i : Nat} {d : D} {v : V} (f : FOk K nm x0 g0 H0 g H σ ρ cs) (r : Rep K nm g H d v) : FOk K nm x0 g0 H0 g H (σ.set i (some v)) (ρ.set i (.val d)) cs := by
  refine ⟨f.en.set r, f.cs, f.ex, fun j e a h1 h2 => ?_, fun j c fs h1 => by
    obtain ⟨h3, h4⟩ := set_own (σ := σ) (x := some v) j _ h1
    rw [h4]
    exact f.slf j c fs h3⟩
  by_cases q : i = j
  · subst q
    have hi : i < ρ.length := by
      have := (List.getElem?_eq_some_iff.mp h1).1
      rwa [List.length_set] at this
    rw [List.getElem?_set_self hi] at h1
    cases h1
  · rw [List.getElem?_set_ne q] at h1 h2
    exact f.own j e a h1 h2
/-- a slot gets a new thing of its own -/
theorem FOk.newOwn {i : Nat} {ds : List D} {vs : List V} {p : Addr} (f : FOk K nm x0 g0 H0 g H σ ρ cs) (hp : H p = none) (r : Reps K nm g H ds vs) : ExtS g H g (upd H p (.lst vs)) ∧ FOk K nm x0 g0 H0 g (upd H p (.lst vs)) (σ.set i (some (.ref p))) (ρ.set i (.own (.lst ds))) cs := by
  have e : Ext g H g (upd H p (.lst vs)) := ext_laid hp
  have c := f.cs.laid (o := .lst vs) hp
  have en := f.en.mono e f.cs.ok
  have ow : Own K nm g (upd H p (.lst vs)) (.lst ds) (.ref p) := ⟨p, rfl, fun z => f.cs.ok.fzt p z hp, fun z => f.cs.ok.iot p z hp, vs, upd_same, r.mono e f.cs.ok⟩
  have hset : ∀ {j : Nat} {s : Slot}, (ρ.set i (.own (.lst ds)))[j]? = some s → (i = j ∧ s = .own (.lst ds) ∧ i < ρ.length) ∨ (i ≠ j ∧ ρ[j]? = some s) := fun {j s} h => by
    by_cases q : i = j
    · subst q
      have hi : i < ρ.length := by
        have := (List.getElem?_eq_some_iff.mp h).1
        rwa [List.length_set] at this
      rw [List.getElem?_set_self hi] at h
      exact .inl ⟨rfl, (Option.some.inj h).symm, hi⟩
    · rw [List.getElem?_set_ne q] at h
      exact .inr ⟨q, h⟩
  have old : ∀ {j : Nat} {d : D} {a : Addr}, ρ[j]? = some (.own d) → σ[j]? = some (some (.ref a)) → a ≠ p := fun {j d a} h1 h2 z => by
    obtain ⟨v, e1, o1⟩ := f.en.sl j _ h1
    rw [h2] at e1
    cases e1
    obtain ⟨o, ho⟩ := o1.there
    rw [z, hp] at ho
    cases ho
  refine ⟨e.s f.cs.ok, ⟨by rw [List.length_set, List.length_set, en.len], fun j s hs => ?_, fun j k d1 d2 v h1 h2 h3 h4 => ?_⟩, c, f.ex.trans e, fun j d a h1 h2 => ?_, fun j c fs h1 => ?_⟩
  · rcases hset hs with ⟨rfl, rfl, hi⟩ | ⟨q, h⟩
    · rw [List.getElem?_set_self (by rw [en.len]; exact hi)]
      exact ⟨_, rfl, ow⟩
    · rw [List.getElem?_set_ne q]
      exact en.sl j s h
  · rcases hset h1 with ⟨rfl, e1, hi⟩ | ⟨q1, h1'⟩
    · rcases hset h2 with ⟨rfl, e2, _⟩ | ⟨q2, h2'⟩
      · rfl
      · rw [List.getElem?_set_self (by rw [en.len]; exact hi)] at h3
        cases h3
        rw [List.getElem?_set_ne q2] at h4
        exact absurd rfl (old h2' h4)
    · rw [List.getElem?_set_ne q1] at h3
      rcases hset h2 with ⟨rfl, e2, hi⟩ | ⟨q2, h2'⟩
      · rw [List.getElem?_set_self (by rw [en.len]; exact hi)] at h4
        cases h4
        exact absurd rfl (old h1' h3)
      · rw [List.getElem?_set_ne q2] at h4
        exact en.ap j k d1 d2 v h1' h2' h3 h4
  · rcases hset h1 with ⟨rfl, e1, hi⟩ | ⟨q, h⟩
    · rw [List.getElem?_set_self (by rw [en.len]; exact hi)] at h2
      cases h2
      exact f.ex.there p hp
    · rw [List.getElem?_set_ne q] at h2
      exact f.own j d a h h2
  · rcases hset h1 with ⟨_, e1, _⟩ | ⟨q, h⟩
    · cases e1
    · rw [List.getElem?_set_ne q]
      exact f.slf j c fs h
/-- a slot's own thing is changed -/
theorem FOk.updOwn {i : Nat} {d d' : D} {a : Addr} {o : HO} (f : FOk K nm x0 g0 H0 g H σ ρ cs) (h1 : ρ[i]? = some (.own d)) (h2 : σ[i]? = some (some (.ref a)))
    (hd : ∀ c fs, d' = .ins c fs → ∃ c' fs', d = .ins c' fs') (hn : ExtS g H g (upd H a o) → Own K nm g (upd H a o) d' (.ref a)) : ExtS g H g (upd H a o) ∧ FOk K nm x0 g0 H0 g (upd H a o) σ (ρ.set i (.own d')) cs := by
  obtain ⟨v, e1, ow⟩ := f.en.sl i _ h1
  rw [h2] at e1
  cases e1
  have ex := own_upd (o := o) ow
  have hi : i < ρ.length := (List.getElem?_eq_some_iff.mp h1).1
  have hset : ∀ {j : Nat} {s : Slot}, (ρ.set i (.own d'))[j]? = some s → (i = j ∧ s = .own d') ∨ (i ≠ j ∧ ρ[j]? = some s) := fun {j s} h => by
    by_cases q : i = j
    · subst q
      rw [List.getElem?_set_self hi] at h
      exact .inl ⟨rfl, (Option.some.inj h).symm⟩
    · rw [List.getElem?_set_ne q] at h
      exact .inr ⟨q, h⟩
  refine ⟨ex, ⟨by rw [List.length_set, f.en.len], fun j s hs => ?_, fun j k e1 e2 v q1 q2 q3 q4 => ?_⟩, own_cs ow f.cs, own_ext f.ex (f.own i d a h1 h2), fun j e b q1 q2 => ?_, fun j c fs q1 => ?_⟩
  · rcases hset hs with ⟨rfl, rfl⟩ | ⟨q, h⟩
    · exact ⟨_, h2, hn ex⟩
    · have z := f.en.sl j s h
      cases s with
      | emp => exact True.intro
      | val e => obtain ⟨w, x1, x2⟩ := z; exact ⟨w, x1, x2.monoS ex⟩
      | own e =>
        obtain ⟨w, x1, x2⟩ := z
        refine ⟨w, x1, ?_⟩
        obtain ⟨b, rfl, y1, y2, m⟩ := x2
        have hb : b ≠ a := fun z => q (f.en.ap i j d e (.ref a) h1 h h2 (by rw [x1, z]))
        refine ⟨b, rfl, y1, y2, ?_⟩
        cases e with
        | lst ds => obtain ⟨vs, z1, z2⟩ := m; exact ⟨vs, (upd_ne hb).trans z1, z2.monoS ex⟩
        | ins c fs => obtain ⟨dx, vs, z1, z2⟩ := m; exact ⟨dx, vs, (upd_ne hb).trans z1, z2.monoS ex⟩
        | _ => exact m.elim
  · have r1 : ∃ e, ρ[j]? = some (.own e) := by
      rcases hset q1 with ⟨rfl, _⟩ | ⟨_, h⟩
      · exact ⟨d, h1⟩
      · exact ⟨e1, h⟩
    have r2 : ∃ e, ρ[k]? = some (.own e) := by
      rcases hset q2 with ⟨rfl, _⟩ | ⟨_, h⟩
      · exact ⟨d, h1⟩
      · exact ⟨e2, h⟩
    obtain ⟨_, r1⟩ := r1
    obtain ⟨_, r2⟩ := r2
    exact f.en.ap j k _ _ v r1 r2 q3 q4
  · rcases hset q1 with ⟨rfl, _⟩ | ⟨_, h⟩
    · exact f.own i d b h1 q2
    · exact f.own j e b h q2
  · rcases hset q1 with ⟨rfl, e1⟩ | ⟨_, h⟩
    · cases e1
      obtain ⟨c', fs', rfl⟩ := hd c fs rfl
      exact f.slf i c' fs' h1
    · exact f.slf j c fs h
/-- a cell is changed -/
theorem FOk.updCell {n : Nat} {c' : Cell} {a : Addr} {o : HO} (f : FOk K nm x0 g0 H0 g H σ ρ cs) (h2 : g.io[n]? = some a)
    (hn : ExtS g H g (upd H a o) → CellOk K nm g (upd H a o) a c') : ExtS g H g (upd H a o) ∧ FOk K nm x0 g0 H0 g (upd H a o) σ ρ (cs.set n c') := by
  have hm : a ∈ g.io := List.mem_of_getElem? h2
  have ex : ExtS g H g (upd H a o) := ⟨⟨[], by simp⟩, fun _ h => h, fun b o' hb q => by rw [upd_ne (show b ≠ a from fun e => f.cs.ok.dis a hm (e ▸ hb))]; exact q⟩
  have k : ∀ b, H b ≠ none → upd H a o b ≠ none := fun b q => by
    by_cases e : b = a
    · subst e; rw [upd_same]; simp
    · rw [upd_ne e]; exact q
  have ok : GOk g (upd H a o) := ⟨fun b q => k b (f.cs.ok.fzt b q), fun b q => k b (f.cs.ok.iot b q), f.cs.ok.dis, f.cs.ok.nd⟩
  refine ⟨ex, ⟨f.en.len, fun j s hs => ?_, f.en.ap⟩, ⟨ok, by rw [List.length_set]; exact f.cs.len, fun m x b hm' hb => ?_⟩, ?_, f.own, f.slf⟩
  · have z := f.en.sl j s hs
    cases s with
    | emp => exact True.intro
    | val e => obtain ⟨w, x1, x2⟩ := z; exact ⟨w, x1, x2.monoS ex⟩
    | own e =>
      obtain ⟨w, x1, x2⟩ := z
      refine ⟨w, x1, ?_⟩
      obtain ⟨b, rfl, y1, y2, m⟩ := x2
      have hb : b ≠ a := fun z => y2 (z ▸ hm)
      refine ⟨b, rfl, y1, y2, ?_⟩
      cases e with
      | lst ds => obtain ⟨vs, z1, z2⟩ := m; exact ⟨vs, (upd_ne hb).trans z1, z2.monoS ex⟩
      | ins c fs => obtain ⟨dx, vs, z1, z2⟩ := m; exact ⟨dx, vs, (upd_ne hb).trans z1, z2.monoS ex⟩
      | _ => exact m.elim
  · by_cases q : n = m
    · subst q
      rw [h2] at hb
      cases hb
      have hl : n < cs.length := by
        have := (List.getElem?_eq_some_iff.mp hm').1
        rwa [List.length_set] at this
      rw [List.getElem?_set_self hl] at hm'
      cases hm'
      exact hn ex
    · rw [List.getElem?_set_ne q] at hm'
      have hb' : b ≠ a := fun z => by
        subst z
        have h3 := (List.getElem?_eq_some_iff.mp h2)
        have h4 := (List.getElem?_eq_some_iff.mp hb)
        obtain ⟨l3, e3⟩ := h3
        obtain ⟨l4, e4⟩ := h4
        exact q ((List.getElem_inj f.cs.ok.nd).mp (e3.trans e4.symm))
      have z := f.cs.at_ m x b hm' hb
      cases x with
      | lst ds => obtain ⟨vs, z1, z2⟩ := z; exact ⟨vs, (upd_ne hb').trans z1, z2.monoS ex⟩
      | ins c fs => obtain ⟨dx, vs, z1, z2⟩ := z; exact ⟨dx, vs, (upd_ne hb').trans z1, z2.monoS ex⟩
  · obtain ⟨t, e1, e2⟩ := f.ex.io
    refine ⟨⟨t, e1, e2⟩, f.ex.fz, f.ex.fzn, fun b u q n => ?_, fun b q => ?_⟩
    · rw [upd_ne (show b ≠ a from fun z => ?_)]
      · exact f.ex.keep b u q n
      · subst z
        rw [e1] at hm
        rcases List.mem_append.mp hm with h | h
        · exact n h
        · rw [e2 _ h] at q
          cases q
    · by_cases z : b = a
      · subst z; rw [upd_same] at q; cases q
      · rw [upd_ne z] at q; exact f.ex.there b q
/-- a slot's own thing is frozen -/
theorem FOk.frz {i : Nat} {d : D} (f : FOk K nm x0 g0 H0 g H σ ρ cs) (h1 : ρ[i]? = some (.own d)) : ∃ g', ExtS g H g' H ∧ FOk K nm x0 g0 H0 g' H σ (ρ.set i (.val d)) cs := by
  obtain ⟨v, h2, ow⟩ := f.en.sl i _ h1
  obtain ⟨a, rfl, _⟩ := id ow
  obtain ⟨r, c, ex⟩ := own_frz ow f.cs
  have hi : i < ρ.length := (List.getElem?_eq_some_iff.mp h1).1
  have hset : ∀ {j : Nat} {s : Slot}, (ρ.set i (.val d))[j]? = some s → (i = j ∧ s = .val d) ∨ (i ≠ j ∧ ρ[j]? = some s) := fun {j s} h => by
    by_cases q : i = j
    · subst q
      rw [List.getElem?_set_self hi] at h
      exact .inl ⟨rfl, (Option.some.inj h).symm⟩
    · rw [List.getElem?_set_ne q] at h
      exact .inr ⟨q, h⟩
  refine ⟨g.add a, ex, ⟨by rw [List.length_set, f.en.len], fun j s hs => ?_, fun j k e1 e2 v q1 q2 q3 q4 => ?_⟩, c, frz_ext f.ex (f.own i d a h1 h2), fun j e b q1 q2 => ?_, fun j c fs q1 => ?_⟩
  · rcases hset hs with ⟨rfl, rfl⟩ | ⟨q, h⟩
    · exact ⟨_, h2, r⟩
    · have z := f.en.sl j s h
      cases s with
      | emp => exact True.intro
      | val e => obtain ⟨w, x1, x2⟩ := z; exact ⟨w, x1, x2.monoS ex⟩
      | own e =>
        obtain ⟨w, x1, x2⟩ := z
        refine ⟨w, x1, ?_⟩
        obtain ⟨b, rfl, y1, y2, m⟩ := x2
        have hb : b ≠ a := fun z => q (f.en.ap i j d e (.ref a) h1 h h2 (by rw [x1, z]))
        refine ⟨b, rfl, fun z => z.elim y1 hb, y2, ?_⟩
        cases e with
        | lst ds => obtain ⟨vs, z1, z2⟩ := m; exact ⟨vs, z1, z2.monoS ex⟩
        | ins c fs => obtain ⟨dx, vs, z1, z2⟩ := m; exact ⟨dx, vs, z1, z2.monoS ex⟩
        | _ => exact m.elim
  · rcases hset q1 with ⟨_, h⟩ | ⟨_, r1⟩
    · cases h
    · rcases hset q2 with ⟨_, h⟩ | ⟨_, r2⟩
      · cases h
      · exact f.en.ap j k _ _ v r1 r2 q3 q4
  · rcases hset q1 with ⟨_, h⟩ | ⟨_, r1⟩
    · cases h
    · exact f.own j e b r1 q2
  · rcases hset q1 with ⟨_, h⟩ | ⟨_, r1⟩
    · cases h
    · exact f.slf j c fs r1
end
end Dv
end
section
set_option Elab.async false
set_option linter.all false
set_option maxRecDepth 100000
set_option maxHeartbeats 4000000
namespace Dv
open PySem PySem.Spec PyProof.Rows L2
section
variable {T : Tab} {O : Orc} {nm : Nm} {X : Cx} {W : XK} {a b c e tg : Expr} {es : List Expr} {fa fb fc : Env → Cells → Res D} {pos : Pos} {st : Stmt} {rest : List Stmt} {f h : Env → Cells → Res Flw}
theorem s_nil : PSs X [] (tS X.K nm W fun ρ cs => .ok (.nx ρ) cs) := pss_nil.imp fun D σ H q => by
  obtain ⟨x0, g0, H0, g, ρ, cs, f, p⟩ := q
  exact PostS.nx p f
def seqF (f h : Env → Cells → Res Flw) : Env → Cells → Res Flw := fun ρ cs => (f ρ cs).bind fun f cs => match f with
    | .nx ρ => h ρ cs
    | f => .ok f cs
theorem s_cons (h1 : PS X st (tS X.K nm W f)) (h2 : PSs X rest (tS X.K nm W h)) : PSs X (st :: rest) (tS X.K nm W (seqF f h)) := (pss_cons h1 h2).imp fun D σ H q => by
  obtain ⟨x0, g0, H0, g, ρ, cs, fo, p⟩ := q
  refine (fun (z : tS X.K nm W f { D with nx := tS X.K nm W h D } σ H) => z) ?_
  refine ⟨x0, g0, H0, g, ρ, cs, fo, ?_⟩
  unfold seqF at p
  match f ρ cs, p with
  | .ok (.nx ρ') cs', p => exact fun σ' g' H' e f' => ⟨x0, g0, H0, g', ρ', cs', f', PostS.mono p e⟩
  | .ok (.ret d) cs', p => exact p
  | .ok (.brk ρ') cs', p => exact p
  | .ok (.cnt ρ') cs', p => exact p
  | .exc _ _, p => exact p
  | .bad, p => exact p
/-- a statement alone -/
theorem s_one (h1 : PS X st (tS X.K nm W f)) : PSs X [st] (tS X.K nm W f) := (pss_one h1).imp fun _ _ _ q => q
/-- nothing is done, then the rest -/
theorem s_skip (h1 : PS X st tNext) (h2 : PSs X rest (tS X.K nm W h)) : PSs X (st :: rest) (tS X.K nm W h) := (pss_cons h1 h2).imp fun D σ H q => q
theorem s_pass : PS X (.Pass pos) (tS X.K nm W fun ρ cs => .ok (.nx ρ) cs) := ps_pass.imp fun D σ H q => by
  obtain ⟨x0, g0, H0, g, ρ, cs, f, p⟩ := q
  exact PostS.nx p f
theorem s_brk : PS X (.Break pos) (tS X.K nm W fun ρ cs => .ok (.brk ρ) cs) := ps_break.imp fun D σ H q => by
  obtain ⟨x0, g0, H0, g, ρ, cs, f, p⟩ := q
  exact p σ g H .refl f
theorem s_cnt : PS X (.Continue pos) (tS X.K nm W fun ρ cs => .ok (.cnt ρ) cs) := ps_continue.imp fun D σ H q => by
  obtain ⟨x0, g0, H0, g, ρ, cs, f, p⟩ := q
  exact p σ g H .refl f
theorem s_never : PS X st (tS X.K nm W fun _ _ => .bad) := ps_never.imp fun D σ H q => by
  obtain ⟨x0, g0, H0, g, ρ, cs, f, p⟩ := q
  exact p.elim
theorem s_nevers : PSs X rest (tS X.K nm W fun _ _ => .bad) := pss_never.imp fun D σ H q => by
  obtain ⟨x0, g0, H0, g, ρ, cs, f, p⟩ := q
  exact p.elim
theorem s_frz {i : Nat} (h2 : PSs X rest (tS X.K nm W h)) : PSs X rest (tS X.K nm W fun ρ cs => match ρ[i]? with
    | some (.own d) => h (ρ.set i (.val d)) cs
    | _ => h ρ cs) := h2.imp fun D σ H q => by
  obtain ⟨x0, g0, H0, g, ρ, cs, f, p⟩ := q
  have p : PostS X.K nm W x0 g0 H0 g H (match ρ[i]? with
    | some (.own d) => h (ρ.set i (.val d)) cs
    | _ => h ρ cs) D := p
  cases q : ρ[i]? with
  | none => rw [q] at p; exact ⟨x0, g0, H0, g, ρ, cs, f, p⟩
  | some s =>
    rw [q] at p
    cases s with
    | own d =>
      obtain ⟨g', e, f'⟩ := f.frz q
      have p : PostS X.K nm W x0 g0 H0 g H (h (ρ.set i (.val d)) cs) D := p
      exact ⟨x0, g0, H0, g', _, cs, f', PostS.mono p e⟩
    | val d => exact ⟨x0, g0, H0, g, ρ, cs, f, p⟩
    | emp => exact ⟨x0, g0, H0, g, ρ, cs, f, p⟩
/-! ### values, arguments in a statement -/
theorem seV {K : PySem.W.Frag} {De : Ends} {σ : L2.St} {H : Hp} {k : Env → D → Cells → Res Flw} (q : tS K nm W (fun ρ cs => (fa ρ cs).bind (k ρ)) De σ H) :
    tV K nm W fa σ H fun v H1 => ∃ x0 g0 H0 g1 ρ d cs1, FOk K nm x0 g0 H0 g1 H1 σ ρ cs1 ∧ Rep K nm g1 H1 d v ∧ PostS K nm W x0 g0 H0 g1 H1 (k ρ d cs1) De := by
  obtain ⟨x0, g0, H0, g, ρ, cs, f, p⟩ := q
  refine ⟨g, ρ, cs, f.en, f.cs, (PostS.bind (R := Rep K nm) f p).imp ?_⟩
  rintro v H1 ⟨d, g1, cs1, e, es, f1, r, p1⟩
  exact ⟨x0, g0, H0, g1, ρ, d, cs1, f1, r, p1⟩
theorem seAs {K : PySem.W.Frag} {fs : Env → Cells → Res (List D)} {De : Ends} {σ : L2.St} {H : Hp} {k : Env → List D → Cells → Res Flw} (q : tS K nm W (fun ρ cs => (fs ρ cs).bind (k ρ)) De σ H) :
    tAs K nm W fs σ H fun vs H1 => ∃ x0 g0 H0 g1 ρ ds cs1, FOk K nm x0 g0 H0 g1 H1 σ ρ cs1 ∧ Reps K nm g1 H1 ds vs ∧ PostS K nm W x0 g0 H0 g1 H1 (k ρ ds cs1) De := by
  obtain ⟨x0, g0, H0, g, ρ, cs, f, p⟩ := q
  refine ⟨g, ρ, cs, f.en, f.cs, (PostS.bind (R := Reps K nm) f p).imp ?_⟩
  rintro v H1 ⟨d, g1, cs1, e, es, f1, r, p1⟩
  exact ⟨x0, g0, H0, g1, ρ, d, cs1, f1, r, p1⟩
theorem s_ret (he : PE X e (tV X.K nm W fa)) : PS X (.Return (some e) pos) (tS X.K nm W fun ρ cs => (fa ρ cs).bind fun d cs => .ok (.ret d) cs) := (ps_ret he).imp fun D σ H q => by
  obtain ⟨g, ρ, cs, en, c, p⟩ := seV (k := fun ρ d cs => .ok (.ret d) cs) q
  refine ⟨g, ρ, cs, en, c, p.imp ?_⟩
  rintro v H1 ⟨x0, g0, H0, g1, ρ, d, cs1, f, r, p1⟩
  exact p1 v g1 H1 f.ex f.cs r
theorem s_ex (he : PE X e (tV X.K nm W fa)) (hs : swapsWith e none pos.line X.env = pure false) : PS X (.Expr e pos) (tS X.K nm W fun ρ cs => (fa ρ cs).bind fun _ cs => .ok (.nx ρ) cs) := (ps_expr he hs).imp fun D σ H q => by
  obtain ⟨g, ρ, cs, en, c, p⟩ := seV (k := fun ρ d cs => .ok (.nx ρ) cs) q
  refine ⟨g, ρ, cs, en, c, p.imp ?_⟩
  rintro v H1 ⟨x0, g0, H0, g1, ρ, d, cs1, f, r, p1⟩
  exact PostS.nx p1 f
def setF (i : Nat) (fa : Env → Cells → Res D) : Env → Cells → Res Flw := fun ρ cs => (fa ρ cs).bind fun d cs => if i < ρ.length then .ok (.nx (ρ.set i (.val d))) cs else .bad
theorem set_of {K : PySem.W.Frag} {i : Nat} {De : Ends} {σ : L2.St} {H : Hp} (q : tS K nm W (setF i fa) De σ H) : tV K nm W fa σ H fun x H1 => gName i x σ H1 De.nx := by
  obtain ⟨g, ρ, cs, en, c, p⟩ := seV (k := fun ρ d cs => if i < ρ.length then .ok (.nx (ρ.set i (.val d))) cs else .bad) q
  refine ⟨g, ρ, cs, en, c, p.imp ?_⟩
  rintro v H1 ⟨x0, g0, H0, g1, ρ, d, cs1, f, r, p1⟩
  split at p1
  · exact PostS.nx p1 (f.setV r)
  · exact p1.elim
theorem s_set {i : Nat} {x : Str} {pos' : Pos} (hN : X.N.Nodup) (hi : X.N[i]? = some x) (hx : Loc X.env.scope x) (he : PE X e (tV X.K nm W fa)) (hs : swapsWith e (some (.Name x pos')) pos.line X.env = pure false) (hf : X.fn x = true ∨ X.env.scope.names.lookup x = some .local) :
    PS X (.Assign [.Name x pos'] e pos) (tS X.K nm W (setF i fa)) := (ps_set hN hi hx he hs hf).imp fun D σ H q => set_of q
/-- name = a comprehension, on one line -/
theorem s_setLc {i : Nat} {y : Str} {py spos : Pos} {elt iter : Expr} {ifs : List Expr} {scope : Scope} {own : List (Str × Nat)} {is : List Nat} {one : Bool} {fi : Env → Cells → Res (List D)} {fc : Env → Cells → Res Bool} {fe : Env → Cells → Res D}
    (hc : X.calm = true) (hN : X.N.Nodup) (hy : X.N[i]? = some y) (hyl : X.env.scope.names.lookup y = some .local) (hsw : swapsWith (.ListComp elt [⟨tg, iter, ifs, 0⟩] scope pos) (some (.Name y py)) spos.line X.env = pure true) (hi : PI X tg iter (tI X.K nm W fi)) (ok : BlkOk X.N X.env.scope scope own) (hown : own.map (·.2) = is)
    (hg : ∀ (s : Shared) (H : Hp) (C : Addr) (cl : List (Str × Addr)) (fp : List Addr), PG (X.blk s H scope (compEnvC scope cl C X.env) fp) tg (tgOf X.K is one))
    (ht : ∀ (s : Shared) (H : Hp) (C : Addr) (cl : List (Str × Addr)) (fp : List Addr), PTs (X.blk s H scope (compEnvC scope cl C X.env) fp) ifs (tT X.K nm E0 fc))
    (he : ∀ (s : Shared) (H : Hp) (C : Addr) (cl : List (Str × Addr)) (fp : List Addr), PE (X.blk s H scope (compEnvC scope cl C X.env) fp) elt (tV X.K nm E0 fe)) (hs : ∀ x, foldedSetIterable iter X.env x = pure x) :
    PS X (.Assign [.Name y py] (.ListComp elt [⟨tg, iter, ifs, 0⟩] scope pos) spos) (tS X.K nm W (setF i fun ρ cs => (fi ρ cs).bind fun xs cs => (compL (turnD is one fc fe ρ) [] xs cs).bind fun ds cs => .ok (.lst ds) cs)) := by
  subst hown
  exact (ps_setLc hc hN hy hyl hsw hi ok hg ht he hs).imp fun D σ H q => lc_of (set_of q)
/-- name = [e, ..], a list of its own -/
theorem s_own {i : Nat} {x : Str} {pos' c : Pos} {fs : Env → Cells → Res (List D)} (hN : X.N.Nodup) (hi : X.N[i]? = some x) (hx : Loc X.env.scope x) (he : PA X es (tAs X.K nm W fs)) (hf : X.fn x = true ∨ X.env.scope.names.lookup x = some .local) :
    PS X (.Assign [.Name x pos'] (.List es c) pos) (tS X.K nm W fun ρ cs => (fs ρ cs).bind fun ds cs => if ds.length ≤ sizeLine ∧ i < ρ.length then .ok (.nx (ρ.set i (.own (.lst ds)))) cs else .bad) := (ps_set hN hi hx (pe_lst he) rfl hf).imp fun D σ H q => by
  refine (fun (z : tAs X.K nm W fs σ H fun xs H1 => xs.length ≤ sizeLine ∧ ∀ p, H1 p = none → D.nx (σ.set i (some (.ref p))) (upd H1 p (.lst xs))) => z) ?_
  obtain ⟨g, ρ, cs, en, c, p⟩ := seAs (k := fun ρ ds cs => if ds.length ≤ sizeLine ∧ i < ρ.length then .ok (.nx (ρ.set i (.own (.lst ds)))) cs else .bad) q
  refine ⟨g, ρ, cs, en, c, p.imp ?_⟩
  rintro vs H1 ⟨x0, g0, H0, g1, ρ, ds, cs1, f, r, p1⟩
  split at p1
  · rename_i hz
    refine ⟨by rw [← r.length]; exact hz.1, fun p hp => ?_⟩
    obtain ⟨e, f'⟩ := f.newOwn (i := i) hp r
    exact p1 _ g1 _ e f'
  · exact p1.elim
/-- return [e, ..], a list that may change -/
theorem s_retC {c : Pos} {fs : Env → Cells → Res (List D)} (he : PA X es (tAs X.K nm W fs)) :
    PS X (.Return (some (.List es c)) pos) (tS X.K nm W fun ρ cs => (fs ρ cs).bind fun ds cs => if ds.length ≤ sizeLine then .ok (.ret (.cell cs.length)) (cs ++ [.lst ds]) else .bad) := (ps_ret (pe_lst he)).imp fun D σ H q => by
  refine (fun (z : tAs X.K nm W fs σ H fun xs H1 => xs.length ≤ sizeLine ∧ ∀ p, H1 p = none → D.rt (.ref p) (upd H1 p (.lst xs))) => z) ?_
  obtain ⟨g, ρ, cs, en, c, p⟩ := seAs (k := fun ρ ds cs => if ds.length ≤ sizeLine then .ok (.ret (.cell cs.length)) (cs ++ [.lst ds]) else .bad) q
  refine ⟨g, ρ, cs, en, c, p.imp ?_⟩
  rintro vs H1 ⟨x0, g0, H0, g1, ρ, ds, cs1, f, r, p1⟩
  split at p1
  · rename_i hz
    refine ⟨by rw [← r.length]; exact hz, fun p hp => ?_⟩
    have e : Ext g1 H1 ⟨g1.fz, g1.io ++ [p]⟩ (upd H1 p (.lst vs)) := by
      have l := ext_laid (g := g1) (o := .lst vs) hp
      exact ⟨⟨[p], rfl, fun a ha => by rw [List.mem_singleton.mp ha]; exact hp⟩, fun a h => h, fun a h => .inl h, l.keep, l.there⟩
    have np : p ∉ g1.io := fun z => f.cs.ok.iot p z hp
    have k : ∀ a, H1 a ≠ none → upd H1 p (.lst vs) a ≠ none := fun a q => by
      by_cases z : a = p
      · subst z; exact absurd hp q
      · rw [upd_ne z]; exact q
    have ok : GOk ⟨g1.fz, g1.io ++ [p]⟩ (upd H1 p (.lst vs)) := by
      refine ⟨fun a q => k a (f.cs.ok.fzt a q), fun a q => ?_, fun a q z => ?_, ?_⟩
      · rcases List.mem_append.mp q with q | q
        · exact k a (f.cs.ok.iot a q)
        · rw [List.mem_singleton.mp q, upd_same]; simp
      · rcases List.mem_append.mp q with q | q
        · exact f.cs.ok.dis a q z
        · rw [List.mem_singleton.mp q] at z
          exact f.cs.ok.fzt p z hp
      · rw [List.nodup_append]
        exact ⟨f.cs.ok.nd, by simp, fun a ha b hb => by rw [List.mem_singleton.mp hb]; exact fun z => np (z ▸ ha)⟩
    refine p1 (.ref p) ⟨g1.fz, g1.io ++ [p]⟩ _ (f.ex.trans e) ⟨ok, by simp [f.cs.len], fun n x a hn ha => ?_⟩ (.cell ?_)
    · rcases Nat.lt_or_ge n cs1.length with hl | hl
      · rw [List.getElem?_append_left hl] at hn
        rw [List.getElem?_append_left (by rw [← f.cs.len]; exact hl)] at ha
        refine (f.cs.at_ n x a hn ha).mono e f.cs.ok (upd_ne (show a ≠ p from fun z => np (z ▸ List.mem_of_getElem? ha)))
      · have e1 : n = cs1.length := by
          have := (List.getElem?_eq_some_iff.mp hn).1
          simp at this
          omega
        subst e1
        rw [List.getElem?_append_right (Nat.le_refl _)] at hn
        rw [List.getElem?_append_right (by rw [f.cs.len]; exact Nat.le_refl _)] at ha
        simp at hn
        simp [f.cs.len] at ha
        subst hn ha
        exact ⟨vs, upd_same, r.mono e f.cs.ok⟩
    · show (g1.io ++ [p])[cs1.length]? = some p
      rw [f.cs.len]
      simp
  · exact p1.elim
/-- a, b = x, y -/
theorem s_par {i j : Nat} {x y : Str} {px py pt : Pos} {kt k2 : Nat} {pt2 : Pos} {fs : Env → Cells → Res (List D)} (hc : X.calm = true) (hN : X.N.Nodup) (hi : X.N[i]? = some x) (hj : X.N[j]? = some y) (hij : i ≠ j)
    (h : PS X (.Assign [.Tuple [.Name x px, .Name y py] kt pt] (.Tuple [a, b] k2 pt2) pos) (tPar i j (tAs X.K nm W fs))) :
    PS X (.Assign [.Tuple [.Name x px, .Name y py] kt pt] (.Tuple [a, b] k2 pt2) pos) (tS X.K nm W fun ρ cs => (fs ρ cs).bind fun ds cs => (match setAll [i, j] ds ρ with
    | some ρ => .ok (.nx ρ) cs
    | none => .bad)) := h.imp fun D σ H q => by
  refine (fun (z : tAs X.K nm W fs σ H fun vs H1 => ∃ v w, vs = [v, w] ∧ D.nx ((σ.set i (some v)).set j (some w)) H1) => z) ?_
  obtain ⟨g, ρ, cs, en, c, p⟩ := seAs (k := fun ρ ds cs => (match setAll [i, j] ds ρ with
    | some ρ => .ok (.nx ρ) cs
    | none => .bad)) q
  refine ⟨g, ρ, cs, en, c, p.imp ?_⟩
  rintro vs H1 ⟨x0, g0, H0, g1, ρ, ds, cs1, f, r, p1⟩
  cases hs : setAll [i, j] ds ρ with
  | none => rw [hs] at p1; exact p1.elim
  | some ρ' =>
    rw [hs] at p1
    have hl := setAll_len hs
    match ds, r, hl, hs with
    | [d1, d2], .cons r1 (.cons r2 .nil), _, hs =>
      unfold setAll at hs
      split at hs
      · unfold setAll at hs
        split at hs
        · cases hs
          exact ⟨_, _, rfl, PostS.nx p1 ((f.setV r1).setV r2)⟩
        · cases hs
      · cases hs
/-- a target of several names -/
theorem s_setT {is : List Nat} {es' : List Expr} {kt : Nat} {pt : Pos} (he : PE X e (tV X.K nm W fa)) (hg : PG X (.Tuple es' kt pt) (tgOf X.K is false)) (hs : swapsWithSole [.Tuple es' kt pt] e pos.line X.env = pure false) (hw : swappedStores [.Tuple es' kt pt] e X.env = pure none) (h1 : (assignEach [.Tuple es' kt pt] X.env).map (·.2) = [assign (.Tuple es' kt pt) X.env]) :
    PS X (.Assign [.Tuple es' kt pt] e pos) (tS X.K nm W fun ρ cs => (fa ρ cs).bind fun d cs => (match setTg is false d ρ with
    | some ρ => .ok (.nx ρ) cs
    | none => .bad)) := (ps_asg he hg hs hw h1).imp fun D σ H q => by
  refine (fun (z : tV X.K nm W fa σ H fun x H1 => tgOf X.K is false x σ H1 D.nx) => z) ?_
  obtain ⟨g, ρ, cs, en, c, p⟩ := seV (k := fun ρ d cs => (match setTg is false d ρ with
    | some ρ => .ok (.nx ρ) cs
    | none => .bad)) q
  refine ⟨g, ρ, cs, en, c, p.imp ?_⟩
  rintro v H1 ⟨x0, g0, H0, g1, ρ, d, cs1, f, r, p1⟩
  cases hs : setTg is false d ρ with
  | none => rw [hs] at p1; exact p1.elim
  | some ρ' =>
    rw [hs] at p1
    exact tgOf_ok f.en r hs fun σ' en' _ ho => p1 σ' g1 H1 .refl ⟨en', f.cs, f.ex, (fun j e a h1 h2 => by
      obtain ⟨h3, h4⟩ := ho j e h1
      exact f.own j e a h3 (h4 ▸ h2)), fun j c fs h1 => by
      obtain ⟨h3, h4⟩ := ho j _ h1
      rw [h4]
      exact f.slf j c fs h3⟩
end
end Dv
end
section
set_option Elab.async false
set_option linter.all false
set_option maxRecDepth 100000
set_option maxHeartbeats 4000000
namespace Dv
open PySem PySem.Spec PyProof.Rows L2
section
variable {T : Tab} {O : Orc} {nm : Nm} {X : Cx} {W : XK} {a b c e tg : Expr} {es : List Expr} {fa fb fc : Env → Cells → Res D} {pos : Pos} {st : Stmt} {rest : List Stmt} {f h : Env → Cells → Res Flw}
/-! ### attributes, items stored -/
def setAF (T : Tab) (i j : Nat) (fa : Env → Cells → Res D) : Env → Cells → Res Flw := fun ρ cs => (fa ρ cs).bind fun d cs => (match ρ[i]? with
      | some (.own (.ins c fs)) => if okAt T c j = true ∧ fs.length < 1000 then .ok (.nx (ρ.set i (.own (.ins c (putA j d fs))))) cs else .bad
      | some (.val (.cell n)) => (match cs[n]? with
        | some (.ins c fs) => if okAt T c j = true ∧ fs.length < 1000 then .ok (.nx ρ) (cs.set n (.ins c (putA j d fs))) else .bad
        | _ => .bad)
      | _ => .bad)
theorem okAt_of {c j : Nat} (C : Top T nm X.K) (h : okAt T c j = true) : ∃ k, T.cls[c]? = some k ∧ j ∈ k.atr := by
  unfold okAt at h
  cases hk : T.cls[c]? with
  | none => rw [hk] at h; cases h
  | some k =>
    rw [hk] at h
    exact ⟨k, rfl, by simpa using h⟩
theorem s_setA (C : Top T nm X.K) {i j : Nat} {x fn : Str} {px pos' : Pos} (hf : nm.at_ j = fn) (hx : PE X (.Name x px) (tVar i)) (he : PE X e (tV X.K nm W fa)) (hs : swapsWith e (some (.Attribute (.Name x px) fn pos')) pos.line X.env = pure false) :
    PS X (.Assign [.Attribute (.Name x px) fn pos'] e pos) (tS X.K nm W (setAF T i j fa)) := (ps_fld hx he hs).imp fun De σ H q => by
  subst hf
  refine (fun (z : tV X.K nm W fa σ H fun y H1 => ∃ v, σ[i]? = some (some v) ∧ ∃ a C dx fs, v = .ref a ∧ H1 a = some (.ins C dx fs) ∧ Cls X.K C ∧ NoAttr X.K C (nm.at_ j) ∧ fs.length < 1000 ∧ De.nx σ (upd H1 a (.ins C dx (putF (nm.at_ j) y fs)))) => z) ?_
  obtain ⟨g, ρ, cs, en, c, p⟩ := seV (k := fun ρ d cs => (match ρ[i]? with
      | some (.own (.ins c fs)) => if okAt T c j = true ∧ fs.length < 1000 then .ok (.nx (ρ.set i (.own (.ins c (putA j d fs))))) cs else .bad
      | some (.val (.cell n)) => (match cs[n]? with
        | some (.ins c fs) => if okAt T c j = true ∧ fs.length < 1000 then .ok (.nx ρ) (cs.set n (.ins c (putA j d fs))) else .bad
        | _ => .bad)
      | _ => .bad)) q
  refine ⟨g, ρ, cs, en, c, p.imp ?_⟩
  rintro y H1 ⟨x0, g0, H0, g1, ρ, d, cs1, f, r, p1⟩
  cases hr : ρ[i]? with
  | none => rw [hr] at p1; exact p1.elim
  | some s =>
    rw [hr] at p1
    cases s with
    | emp => exact p1.elim
    | own d0 =>
      cases d0 with
      | ins cc fs =>
        have p1 : PostS X.K nm W x0 g0 H0 g1 H1 (if okAt T cc j = true ∧ fs.length < 1000 then .ok (.nx (ρ.set i (.own (.ins cc (putA j d fs))))) cs1 else .bad) De := p1
        split at p1
        · rename_i hz
          obtain ⟨k, hk, hm⟩ := okAt_of C hz.1
          obtain ⟨v, e1, a, rfl, f1, f2, dx, vs, h1, h2⟩ := f.en.sl i _ hr
          refine ⟨_, e1, a, _, dx, vs, rfl, h1, C.cls cc k hk, C.at_ cc k j hk hm, by rw [← h2.length]; exact hz.2, ?_⟩
          obtain ⟨ex, f'⟩ := f.updOwn (d' := .ins cc (putA j d fs)) (o := .ins (nm.ca cc) dx (putF (nm.at_ j) y vs)) hr e1 (fun _ _ _ => ⟨_, _, rfl⟩) fun ex => ⟨a, rfl, f1, f2, dx, _, upd_same, (h2.put C.nmok r).monoS ex⟩
          exact p1 σ g1 _ ex f'
        · exact p1.elim
      | _ => exact p1.elim
    | val d0 =>
      cases d0 with
      | cell n =>
        have p1 : PostS X.K nm W x0 g0 H0 g1 H1 (match cs1[n]? with
          | some (.ins c fs) => if okAt T c j = true ∧ fs.length < 1000 then .ok (.nx ρ) (cs1.set n (.ins c (putA j d fs))) else .bad
          | _ => .bad) De := p1
        cases hc : cs1[n]? with
        | none => rw [hc] at p1; exact p1.elim
        | some cl =>
          rw [hc] at p1
          cases cl with
          | lst _ => exact p1.elim
          | ins cc fs =>
            have p1 : PostS X.K nm W x0 g0 H0 g1 H1 (if okAt T cc j = true ∧ fs.length < 1000 then .ok (.nx ρ) (cs1.set n (.ins cc (putA j d fs))) else .bad) De := p1
            split at p1
            · rename_i hz
              obtain ⟨k, hk, hm⟩ := okAt_of C hz.1
              obtain ⟨v, e1, rv⟩ := f.en.sl i _ hr
              cases rv with
              | cell hg =>
                rename_i a
                obtain ⟨dx, vs, h1, h2⟩ := f.cs.at_ n _ a hc hg
                refine ⟨_, e1, a, _, dx, vs, rfl, h1, C.cls cc k hk, C.at_ cc k j hk hm, by rw [← h2.length]; exact hz.2, ?_⟩
                obtain ⟨ex, f'⟩ := f.updCell (c' := .ins cc (putA j d fs)) (o := .ins (nm.ca cc) dx (putF (nm.at_ j) y vs)) hg fun ex => ⟨dx, _, upd_same, (h2.put C.nmok r).monoS ex⟩
                exact p1 σ g1 _ ex f'
            · exact p1.elim
      | _ => exact p1.elim
def setIF (v : Nat) (fa fb : Env → Cells → Res D) : Env → Cells → Res Flw := fun ρ cs => (fa ρ cs).bind fun d cs => (match ρ[v]? with
    | some (.own (.lst ds)) => (fb ρ cs).bind fun k cs => (match k with
      | .int k => (match setIt ds k d with
        | some ds => .ok (.nx (ρ.set v (.own (.lst ds)))) cs
        | none => .bad)
      | _ => .bad)
    | some (.val (.cell n)) => (fb ρ cs).bind fun k cs => (match k with
      | .int k => (match cs[n]? with
        | some (.lst ds) => (match setIt ds k d with
          | some ds => .ok (.nx ρ) (cs.set n (.lst ds))
          | none => .bad)
        | _ => .bad)
      | _ => .bad)
    | _ => .bad)
theorem setIt_of {ds ds' : List D} {k : Int} {d : D} (h : setIt ds k d = some ds') : ∃ j, ixN ds.length k = some j ∧ ds' = ds.set j d := by
  unfold setIt at h
  cases q : ixN ds.length k with
  | none => rw [q] at h; cases h
  | some j => rw [q] at h; cases h; exact ⟨j, rfl, rfl⟩
theorem s_setI {v : Nat} {x : Str} {px pos' : Pos} (hx : PE X (.Name x px) (tVar v)) (he : PE X e (tV X.K nm W fa)) (hb : PE X b (tV X.K nm W fb)) (hs : swapsWithSole [.Subscript (.Name x px) b pos'] e pos.line X.env = pure false) (hw : swappedStores [.Subscript (.Name x px) b pos'] e X.env = pure none)
    (h1 : (assignEach [.Subscript (.Name x px) b pos'] X.env).map (·.2) = [assign (.Subscript (.Name x px) b pos') X.env]) (ha : ∀ v, assign (.Subscript (.Name x px) b pos') X.env v = (do
      let ov ← holding [v] (eval (.Name x px) X.env)
      let iv ← holding [v, ov] (eval b X.env)
      standAt pos'
      holding [v, ov, iv] (setItem ov iv v)
      release [v, ov, iv] [])) :
    PS X (.Assign [.Subscript (.Name x px) b pos'] e pos) (tS X.K nm W (setIF v fa fb)) := (ps_asg he (pg_sub hx hb set_list ha) hs hw h1).imp fun De σ H q => by
  refine (fun (z : tV X.K nm W fa σ H fun y H1 => ∃ w, σ[v]? = some (some w) ∧ tV X.K nm W fb σ H1 fun i H2 => rSetL w i y H2 fun H3 => De.nx σ H3) => z) ?_
  obtain ⟨g, ρ, cs, en, c, p⟩ := seV (k := fun ρ d cs => (match ρ[v]? with
    | some (.own (.lst ds)) => (fb ρ cs).bind fun k cs => (match k with
      | .int k => (match setIt ds k d with
        | some ds => .ok (.nx (ρ.set v (.own (.lst ds)))) cs
        | none => .bad)
      | _ => .bad)
    | some (.val (.cell n)) => (fb ρ cs).bind fun k cs => (match k with
      | .int k => (match cs[n]? with
        | some (.lst ds) => (match setIt ds k d with
          | some ds => .ok (.nx ρ) (cs.set n (.lst ds))
          | none => .bad)
        | _ => .bad)
      | _ => .bad)
    | _ => .bad)) q
  refine ⟨g, ρ, cs, en, c, p.imp ?_⟩
  rintro y H1 ⟨x0, g0, H0, g1, ρ, d, cs1, f, r, p1⟩
  cases hr : ρ[v]? with
  | none => rw [hr] at p1; exact p1.elim
  | some s =>
    rw [hr] at p1
    cases s with
    | emp => exact p1.elim
    | own d0 =>
      cases d0 with
      | lst ds =>
        obtain ⟨w, e1, ow⟩ := f.en.sl v _ hr
        have p1 : PostS X.K nm W x0 g0 H0 g1 H1 ((fb ρ cs1).bind fun k cs => (match k with
          | .int k => (match setIt ds k d with
            | some ds => .ok (.nx (ρ.set v (.own (.lst ds)))) cs
            | none => .bad)
          | _ => .bad)) De := p1
        refine ⟨w, e1, g1, ρ, cs1, f.en, f.cs, (PostS.bind (R := Rep X.K nm) f p1).imp ?_⟩
        rintro x H2 ⟨k, g2, cs2, e2, s2, f2, r2, p2⟩
        cases k with
        | int k =>
          cases r2
          have p2 : PostS X.K nm W x0 g0 H0 g2 H2 (match setIt ds k d with
            | some ds => .ok (.nx (ρ.set v (.own (.lst ds)))) cs2
            | none => .bad) De := p2
          cases hs : setIt ds k d with
          | none => rw [hs] at p2; exact p2.elim
          | some ds' =>
            rw [hs] at p2
            obtain ⟨j, hj, rfl⟩ := setIt_of hs
            obtain ⟨w', e1', a, rfl, f1, f3, vs, h1, h2⟩ := f2.en.sl v _ hr
            rw [e1] at e1'
            cases e1'
            refine ⟨a, vs, k, j, rfl, rfl, h1, by rw [← h2.length]; exact hj, ?_⟩
            obtain ⟨ex, f'⟩ := f2.updOwn (d' := .lst (ds.set j d)) (o := .lst (vs.set j y)) hr e1 (fun _ _ z => nomatch z) fun ex => ⟨a, rfl, f1, f3, _, upd_same, (h2.set j (r.monoS s2)).monoS ex⟩
            exact p2 σ g2 _ ex f'
        | _ => exact p2.elim
      | _ => exact p1.elim
    | val d0 =>
      cases d0 with
      | cell n =>
        obtain ⟨w, e1, rv⟩ := f.en.sl v _ hr
        have p1 : PostS X.K nm W x0 g0 H0 g1 H1 ((fb ρ cs1).bind fun k cs => (match k with
          | .int k => (match cs[n]? with
            | some (.lst ds) => (match setIt ds k d with
              | some ds => .ok (.nx ρ) (cs.set n (.lst ds))
              | none => .bad)
            | _ => .bad)
          | _ => .bad)) De := p1
        refine ⟨w, e1, g1, ρ, cs1, f.en, f.cs, (PostS.bind (R := Rep X.K nm) f p1).imp ?_⟩
        rintro x H2 ⟨k, g2, cs2, e2, s2, f2, r2, p2⟩
        cases k with
        | int k =>
          cases r2
          have p2 : PostS X.K nm W x0 g0 H0 g2 H2 (match cs2[n]? with
            | some (.lst ds) => (match setIt ds k d with
              | some ds => .ok (.nx ρ) (cs2.set n (.lst ds))
              | none => .bad)
            | _ => .bad) De := p2
          cases hc : cs2[n]? with
          | none => rw [hc] at p2; exact p2.elim
          | some cl =>
            rw [hc] at p2
            cases cl with
            | ins _ _ => exact p2.elim
            | lst ds =>
              have p2 : PostS X.K nm W x0 g0 H0 g2 H2 (match setIt ds k d with
                | some ds => .ok (.nx ρ) (cs2.set n (.lst ds))
                | none => .bad) De := p2
              cases hs : setIt ds k d with
              | none => rw [hs] at p2; exact p2.elim
              | some ds' =>
                rw [hs] at p2
                obtain ⟨j, hj, rfl⟩ := setIt_of hs
                have rv2 := rv.monoS s2
                cases rv2 with
                | cell hg =>
                  rename_i a
                  obtain ⟨vs, h1, h2⟩ := f2.cs.at_ n _ a hc hg
                  refine ⟨a, vs, k, j, rfl, rfl, h1, by rw [← h2.length]; exact hj, ?_⟩
                  obtain ⟨ex, f'⟩ := f2.updCell (c' := .lst (ds.set j d)) (o := .lst (vs.set j y)) hg fun ex => ⟨_, upd_same, (h2.set j (r.monoS s2)).monoS ex⟩
                  exact p2 σ g2 _ ex f'
        | _ => exact p2.elim
      | _ => exact p1.elim
/-! ### x op= e -/
theorem aug_add (C : Ctx T O nm X W) : PIp X .Add (rD X.K nm W (Rep X.K nm) (Rep X.K nm) (augD T O .add)) := by
  intro pins s σ H x y v u Q I rv ru h
  obtain ⟨g, cs, a, b, co, ra, rb, p⟩ := h
  cases a with
  | int i =>
    cases b with
    | int j =>
      cases ra
      cases rb
      exact iop_add pins s σ H _ _ v u Q I rv ru ⟨i, j, rfl, rfl, Post.ok p co (.int _)⟩
    | _ => exact p.elim
  | str i =>
    cases b with
    | str j =>
      cases ra
      cases rb
      have p : Post X.K nm W (Rep X.K nm) g H (if i.length + j.length ≤ sizeLine then .ok (.str (i ++ j)) cs else .bad) Q := p
      split at p
      · rename_i hz
        exact iop_add_str pins s σ H _ _ v u Q I rv ru ⟨i, j, rfl, rfl, hz, Post.ok p co (.str _)⟩
      · exact p.elim
    | _ => exact p.elim
  | ins c fs =>
    cases b with
    | ins c' fs' =>
      have p : Post X.K nm W (Rep X.K nm) g H (if c' = c then callM T O nAdd (.ins c fs) [.ins c' fs'] cs else .bad) Q := p
      split at p
      · rename_i ec
        subst ec
        obtain ⟨c, fs2, f, e, e2, p⟩ := callM_post p
        obtain ⟨k, hk, M⟩ := methOf_ok C.top e2
        have ec : c = c' := by
          have e : D.ins c' fs = .ins c fs2 := e
          injection e with e _
          exact e.symm
        subst ec
        obtain ⟨ad, ox, od, rfl, J, _⟩ := inst_at I co (.inl ra) rv e
        obtain ⟨ad', ox', od', rfl, J', _⟩ := inst_at I co (.inl rb) ru (show deref (D.ins c fs') cs = .ins c fs' from rfl)
        obtain ⟨mm, F⟩ := I.fr
        refine PySem.W.inplace_own F I.ok.mod.kin J J'.type (C.top.sf c k hk) (C.top.noi c k hk) (by rw [show PySem.dunder (Operator.info .Add).2 = nm.mt nAdd by rw [C.top.dn.2.1]; decide +kernel]; exact M.at_) M.fn ?_
        exact wpAny_mono (C.calls f _ pins s σ H [.ref ad, .ref ad'] [x, y] _ cs g Q (.inl rfl) I (.cons rv (.cons ru .nil)) co (.cons ra (.cons rb .nil)) p) (fun _ _ z => cmpBack z) fun _ _ z => z
      · exact p.elim
    | _ => exact p.elim
  | _ => exact p.elim
theorem aug_sub : PIp X .Sub (rD X.K nm W (Rep X.K nm) (Rep X.K nm) (augD T O .sub)) := by
  intro pins s σ H x y v u Q I rv ru h
  obtain ⟨g, cs, a, b, co, ra, rb, p⟩ := h
  cases a with
  | int i =>
    cases b with
    | int j =>
      cases ra
      cases rb
      exact iop_sub pins s σ H _ _ v u Q I rv ru ⟨i, j, rfl, rfl, Post.ok p co (.int _)⟩
    | _ => exact p.elim
  | _ => exact p.elim
def augF (i : Nat) (h : D → D → Cells → Res D) (fa : Env → Cells → Res D) : Env → Cells → Res Flw := fun ρ cs => (match getV ρ i with
    | some x => (fa ρ cs).bind fun y cs => (h x y cs).bind fun d cs => .ok (.nx (ρ.set i (.val d))) cs
    | none => .bad)
theorem s_aug {op : Operator} {h : D → D → Cells → Res D} {i : Nat} {x : Str} {pos' : Pos} (ho : PIp X op (rD X.K nm W (Rep X.K nm) (Rep X.K nm) h)) (hN : X.N.Nodup) (hi : X.N[i]? = some x) (hx : Loc X.env.scope x) (he : PE X e (tV X.K nm W fa)) (hf : X.fn x = true ∨ X.env.scope.names.lookup x = some .local) :
    PS X (.AugAssign (.Name x pos') op e pos) (tS X.K nm W (augF i h fa)) := (ps_aug hN hi hx he ho hf).imp fun De σ H q => by
  obtain ⟨x0, g0, H0, g, ρ, cs, f, p⟩ := q
  unfold augF at p
  cases hv : getV ρ i with
  | none => rw [hv] at p; exact p.elim
  | some dx =>
    rw [hv] at p
    have hr : ρ[i]? = some (.val dx) := by
      unfold getV at hv
      cases z : ρ[i]? with
      | none => rw [z] at hv; cases hv
      | some s => rw [z] at hv; cases s <;> first | (cases hv; rfl) | cases hv
    obtain ⟨v, e1, rx⟩ := f.en.sl i _ hr
    have p : PostS X.K nm W x0 g0 H0 g H ((fa ρ cs).bind fun y cs => (h dx y cs).bind fun d cs => .ok (.nx (ρ.set i (.val d))) cs) De := p
    refine ⟨v, e1, g, ρ, cs, f.en, f.cs, (PostS.bind (R := Rep X.K nm) f p).imp ?_⟩
    rintro y H1 ⟨dy, g1, cs1, ee, es, f1, r, p1⟩
    refine ⟨g1, cs1, dx, dy, f1.cs, rx.monoS es, r, (PostS.bind (R := Rep X.K nm) f1 p1).imp ?_⟩
    rintro z H2 ⟨d, g2, cs2, e2, es2, f2, r2, p2⟩
    exact PostS.nx p2 (f2.setV r2)
/-! ### x.append(e), x.extend(e) -/
def appF (i : Nat) (fa : Env → Cells → Res D) : Env → Cells → Res Flw := fun ρ cs => (match ρ[i]? with
    | some (.own (.lst ds)) => (fa ρ cs).bind fun d cs => if ds.length < sizeLine then .ok (.nx (ρ.set i (.own (.lst (ds ++ [d]))))) cs else .bad
    | _ => .bad)
def extF (i : Nat) (fa : Env → Cells → Res D) : Env → Cells → Res Flw := fun ρ cs => (match ρ[i]? with
    | some (.own (.lst ds)) => (fa ρ cs).bind fun d cs => (match items d with
      | some es => if ds.length + es.length ≤ sizeLine then .ok (.nx (ρ.set i (.own (.lst (ds ++ es))))) cs else .bad
      | none => .bad)
    | _ => .bad)
theorem s_app {i : Nat} {x : Str} {px apos cpos : Pos} (hx : PE X (.Name x px) (tVar i)) (he : PE X e (tV X.K nm W fa)) (hn : isStar e = false) (hl : (apos.endLine == cpos.line) = true) :
    PS X (.Expr (.Call (.Attribute (.Name x px) "append" apos) [e] [] cpos) pos) (tS X.K nm W (appF i fa)) := by
  have hA : PA X [e] (tCons (tV X.K nm W fa) tNil) := pa_cons he pa_nil (star_not (isStar_not hn))
  have hP : PE X (.Call (.Attribute (.Name x px) "append" apos) [e] [] cpos) (tBM X.K "list" rAppend (tVar i) (tCons (tV X.K nm W fa) tNil)) :=
    pe_bm F.plainAttrs_list F.slot_list_append F.type_list_append mt_append hx hA (noSup_base rfl) (by rw [star_not (isStar_not hn)]; rfl) hl (star_not (isStar_not hn)) rfl
  refine (ps_expr hP rfl).imp fun De σ H q => ?_
  refine (fun (z : ∃ v, σ[i]? = some (some v) ∧ tyV X.K "list" v H ∧ tV X.K nm W fa σ H fun y H2 => rAppend v [y] H2 fun _ H3 => De.nx σ H3) => z) ?_
  obtain ⟨x0, g0, H0, g, ρ, cs, f, p⟩ := q
  unfold appF at p
  cases hr : ρ[i]? with
  | none => rw [hr] at p; exact p.elim
  | some s =>
    rw [hr] at p
    cases s with
    | own d0 =>
      cases d0 with
      | lst ds =>
        obtain ⟨w, e1, ow⟩ := f.en.sl i _ hr
        obtain ⟨a, rfl, f1, f3, vs, h1, h2⟩ := id ow
        have p : PostS X.K nm W x0 g0 H0 g H ((fa ρ cs).bind fun d cs => if ds.length < sizeLine then .ok (.nx (ρ.set i (.own (.lst (ds ++ [d]))))) cs else .bad) De := p
        refine ⟨_, e1, .inl ⟨rfl, vs, .of h1⟩, g, ρ, cs, f.en, f.cs, (PostS.bind (R := Rep X.K nm) f p).imp ?_⟩
        rintro y H2 ⟨d, g2, cs2, e2, s2, f2, r2, p2⟩
        split at p2
        · rename_i hz
          obtain ⟨w', e1', a', rfl, f1', f3', vs', h1', h2'⟩ := f2.en.sl i _ hr
          rw [e1] at e1'
          cases e1'
          refine ⟨a, vs', y, rfl, rfl, h1', by rw [← h2'.length]; exact hz, ?_⟩
          obtain ⟨ex, f'⟩ := f2.updOwn (d' := .lst (ds ++ [d])) (o := .lst (vs' ++ [y])) hr e1 (fun _ _ z => nomatch z) fun ex => ⟨a, rfl, f1', f3', _, upd_same, (h2'.append (.cons r2 .nil)).monoS ex⟩
          exact p2 σ g2 _ ex f'
        · exact p2.elim
      | _ => exact p.elim
    | _ => exact p.elim
theorem s_ext {i : Nat} {x : Str} {px apos cpos : Pos} (hx : PE X (.Name x px) (tVar i)) (he : PE X e (tV X.K nm W fa)) (hn : isStar e = false) (hl : (apos.endLine == cpos.line) = true) :
    PS X (.Expr (.Call (.Attribute (.Name x px) "extend" apos) [e] [] cpos) pos) (tS X.K nm W (extF i fa)) := by
  have hA : PA X [e] (tCons (tV X.K nm W fa) tNil) := pa_cons he pa_nil (star_not (isStar_not hn))
  have hP : PE X (.Call (.Attribute (.Name x px) "extend" apos) [e] [] cpos) (tBM X.K "list" (rExtA X.K) (tVar i) (tCons (tV X.K nm W fa) tNil)) :=
    pe_bm F.plainAttrs_list F.slot_list_extend F.type_list_extend mt_extA hx hA (noSup_base rfl) (by rw [star_not (isStar_not hn)]; rfl) hl (star_not (isStar_not hn)) rfl
  refine (ps_expr hP rfl).imp fun De σ H q => ?_
  refine (fun (z : ∃ v, σ[i]? = some (some v) ∧ tyV X.K "list" v H ∧ tV X.K nm W fa σ H fun y H2 => rExtA X.K v [y] H2 fun _ H3 => De.nx σ H3) => z) ?_
  obtain ⟨x0, g0, H0, g, ρ, cs, f, p⟩ := q
  unfold extF at p
  cases hr : ρ[i]? with
  | none => rw [hr] at p; exact p.elim
  | some s =>
    rw [hr] at p
    cases s with
    | own d0 =>
      cases d0 with
      | lst ds =>
        obtain ⟨w, e1, ow⟩ := f.en.sl i _ hr
        obtain ⟨a, rfl, f1, f3, vs, h1, h2⟩ := id ow
        have p : PostS X.K nm W x0 g0 H0 g H ((fa ρ cs).bind fun d cs => (match items d with
          | some es => if ds.length + es.length ≤ sizeLine then .ok (.nx (ρ.set i (.own (.lst (ds ++ es))))) cs else .bad
          | none => .bad)) De := p
        refine ⟨_, e1, .inl ⟨rfl, vs, .of h1⟩, g, ρ, cs, f.en, f.cs, (PostS.bind (R := Rep X.K nm) f p).imp ?_⟩
        rintro y H2 ⟨d, g2, cs2, e2, s2, f2, r2, p2⟩
        cases hi : items d with
        | none => rw [hi] at p2; exact p2.elim
        | some es =>
          rw [hi] at p2
          have p2 : PostS X.K nm W x0 g0 H0 g2 H2 (if ds.length + es.length ≤ sizeLine then .ok (.nx (ρ.set i (.own (.lst (ds ++ es))))) cs2 else .bad) De := p2
          split at p2
          · rename_i hz
            obtain ⟨w', e1', a', rfl, f1', f3', vs', h1', h2'⟩ := f2.en.sl i _ hr
            rw [e1] at e1'
            cases e1'
            have hy : ∃ b zs, y = .ref b ∧ (H2 b = some (.lst zs) ∨ SqT X.K H2 b zs) ∧ Reps X.K nm g2 H2 es zs := by
              cases d with
              | lst es' =>
                cases hi
                obtain ⟨b, zs, rfl, q1, q2, _⟩ := r2.ref_lst
                exact ⟨b, zs, rfl, .inl q1, q2⟩
              | tup es' =>
                cases hi
                obtain ⟨b, zs, rfl, q1, q2⟩ := view_tup (cs := []) (.inl r2) rfl
                exact ⟨b, zs, rfl, .inr q1, q2⟩
              | _ => cases hi
            obtain ⟨b, zs, rfl, q1, q2⟩ := hy
            refine ⟨a, b, vs', zs, rfl, rfl, h1', q1, by rw [← h2'.length, ← q2.length]; exact hz, ?_⟩
            obtain ⟨ex, f'⟩ := f2.updOwn (d' := .lst (ds ++ es)) (o := .lst (vs' ++ zs)) hr e1 (fun _ _ z => nomatch z) fun ex => ⟨a, rfl, f1', f3', _, upd_same, (h2'.append q2).monoS ex⟩
            exact p2 σ g2 _ ex f'
          · exact p2.elim
      | _ => exact p.elim
    | _ => exact p.elim
/-! ### if, for, while -/
theorem s_ite {fc : Env → Cells → Res Bool} {as bs : List Stmt} (hc : PT X c (tT X.K nm W fc)) (ha : PSs X as (tS X.K nm W f)) (hb : PSs X bs (tS X.K nm W h)) : PS X (.If c as bs pos) (tS X.K nm W fun ρ cs => (fc ρ cs).bind fun t cs => if t then f ρ cs else h ρ cs) := (ps_if hc ha hb).imp fun De σ H q => by
  obtain ⟨x0, g0, H0, g, ρ, cs, fo, p⟩ := q
  refine ⟨g, ρ, cs, fo.en, fo.cs, (PostS.bind (R := fun _ _ (a b : Bool) => a = b) fo p).imp ?_⟩
  rintro t H1 ⟨t', g1, cs1, e, es, f1, rfl, p1⟩
  cases t' with
  | true => exact ⟨x0, g0, H0, g1, ρ, cs1, f1, p1⟩
  | false => exact ⟨x0, g0, H0, g1, ρ, cs1, f1, p1⟩
theorem s_for {fi : Env → Cells → Res (List D)} {is : List Nat} {one : Bool} {iter : Expr} {body : List Stmt} (hp : PassesOwn (model X.prog X.w) X.A X.env X.xe) (hc : X.calm = true) (hi : PI X tg iter (tI X.K nm W fi)) (hg : PG X tg (tgOf X.K is one)) (hb : PSs X body (tS X.K nm W f)) (hs : ∀ x, foldedSetIterable iter X.env x = pure x) :
    PS X (.For tg iter body [] pos) (tS X.K nm W fun ρ cs => (fi ρ cs).bind fun xs cs => forL f is one xs ρ cs) := (ps_for hp hc hi hg hb hs).imp fun De σ H q => by
  obtain ⟨x0, g0, H0, g, ρ, cs, fo, p⟩ := q
  refine ⟨g, ρ, cs, fo.en, fo.cs, (PostS.bind (R := Yl X.K nm) fo p).imp ?_⟩
  rintro J H1 ⟨xs, g1, cs1, e, es, f1, yl, p1⟩
  refine ⟨fun i m σ H => m = xs.length - i ∧ i ≤ xs.length ∧ ∃ g' ρ' cs', ExtS g1 H1 g' H ∧ FOk X.K nm x0 g0 H0 g' H σ ρ' cs' ∧ PostS X.K nm W x0 g0 H0 g' H (forL f is one (xs.drop i) ρ' cs') De, ⟨_, rfl, Nat.zero_le _, g1, ρ, cs1, .refl, f1, p1⟩, ?_⟩
  rintro i m σ' H' ⟨rfl, hi', g', ρ', cs', e', f', p'⟩
  have Y := yl g' H' e' f'.cs.ok i
  by_cases hlt : i < xs.length
  · have hx : xs[i]? = some xs[i] := by simp [hlt]
    rw [List.drop_eq_getElem_cons hlt] at p'
    refine .inr ⟨(Y.2 _ hx).1, fun σ H => i + 1 ≤ xs.length ∧ ∃ g' ρ' cs', ExtS g1 H1 g' H ∧ FOk X.K nm x0 g0 H0 g' H σ ρ' cs' ∧ PostS X.K nm W x0 g0 H0 g' H (forL f is one (xs.drop (i + 1)) ρ' cs') De, fun σ2 H2 z => ⟨_, by omega, rfl, z⟩, fun x H2 hy => ?_⟩
    obtain ⟨g2, gr, rx⟩ := (Y.2 _ hx).2 x H2 hy
    have f2 := f'.mono gr.ext (gr.csOk f'.cs)
    have s2 := gr.ext.s f'.cs.ok
    unfold forL at p'
    cases hs : setTg is one xs[i] ρ' with
    | none => simp only [hs] at p'; exact p'.elim
    | some ρ2 =>
      simp only [hs] at p'
      refine tgOf_ok f2.en rx hs fun σ3 en3 _ ho => ?_
      have f3 : FOk X.K nm x0 g0 H0 g2 H2 σ3 ρ2 cs' := ⟨en3, f2.cs, f2.ex, (fun j e a h1 h2 => by
        obtain ⟨h3, h4⟩ := ho j e h1
        exact f2.own j e a h3 (h4 ▸ h2)), fun j c fs h1 => by
        obtain ⟨h3, h4⟩ := ho j _ h1
        rw [h4]
        exact f2.slf j c fs h3⟩
      refine ⟨x0, g0, H0, g2, ρ2, cs', f3, ?_⟩
      have p3 := PostS.mono p' s2
      match f ρ2 cs', p3 with
      | .ok (.nx ρ4) cs4, p3 => exact fun σ4 g4 H4 e4 f4 => ⟨hlt, g4, ρ4, cs4, (e'.trans s2).trans e4, f4, PostS.mono p3 e4⟩
      | .ok (.cnt ρ4) cs4, p3 => exact fun σ4 g4 H4 e4 f4 => ⟨hlt, g4, ρ4, cs4, (e'.trans s2).trans e4, f4, PostS.mono p3 e4⟩
      | .ok (.brk ρ4) cs4, p3 => exact p3
      | .ok (.ret d) cs4, p3 => exact p3
      | .exc _ _, p3 => exact p3
      | .bad, p3 => exact p3
  · have e : i = xs.length := by omega
    subst e
    rw [List.drop_length] at p'
    exact .inl ⟨Y.1 (Nat.le_refl _), PostS.nx p' f'⟩
theorem s_while {fc : Env → Cells → Res Bool} {body : List Stmt} (hp : PassesOwn (model X.prog X.w) X.A X.env X.xe) (hc : PT X c (tT X.K nm W fc)) (hb : PSs X body (tS X.K nm W f)) :
    PS X (.While c body [] pos) (tS X.K nm W fun ρ cs => whileL fc f turns ρ cs) := (ps_while hp hc hb).imp fun De σ H q => by
  obtain ⟨x0, g0, H0, g, ρ, cs, fo, p⟩ := q
  refine ⟨fun m σ H => ∃ g' ρ' cs', FOk X.K nm x0 g0 H0 g' H σ ρ' cs' ∧ PostS X.K nm W x0 g0 H0 g' H (whileL fc f m ρ' cs') De, ⟨turns, g, ρ, cs, fo, p⟩, ?_⟩
  rintro m σ' H' ⟨g', ρ', cs', f', p'⟩
  cases m with
  | zero => exact p'.elim
  | succ n =>
    unfold whileL at p'
    refine ⟨g', ρ', cs', f'.en, f'.cs, (PostS.bind (R := fun _ _ (a b : Bool) => a = b) f' p').imp ?_⟩
    rintro t H1 ⟨t', g1, cs1, e, es, f1, rfl, p1⟩
    cases t' with
    | false => exact PostS.nx p1 f1
    | true =>
      refine ⟨fun σ H => ∃ g' ρ' cs', FOk X.K nm x0 g0 H0 g' H σ ρ' cs' ∧ PostS X.K nm W x0 g0 H0 g' H (whileL fc f n ρ' cs') De, fun σ2 H2 z => ⟨n, Nat.lt_succ_self n, z⟩, x0, g0, H0, g1, ρ', cs1, f1, ?_⟩
      have p1 : PostS X.K nm W x0 g0 H0 g1 H1 ((f ρ' cs1).bind fun f' cs => (match f' with
        | .nx ρ => whileL fc f n ρ cs
        | .cnt ρ => whileL fc f n ρ cs
        | .brk ρ => .ok (.nx ρ) cs
        | .ret d => .ok (.ret d) cs)) De := p1
      match f ρ' cs1, p1 with
      | .ok (.nx ρ4) cs4, p3 => exact fun σ4 g4 H4 e4 f4 => ⟨g4, ρ4, cs4, f4, PostS.mono p3 e4⟩
      | .ok (.cnt ρ4) cs4, p3 => exact fun σ4 g4 H4 e4 f4 => ⟨g4, ρ4, cs4, f4, PostS.mono p3 e4⟩
      | .ok (.brk ρ4) cs4, p3 => exact p3
      | .ok (.ret d) cs4, p3 => exact p3
      | .exc _ _, p3 => exact p3
      | .bad, p3 => exact p3
end
end Dv
end
section
set_option Elab.async false
set_option linter.all false
set_option maxRecDepth 100000
set_option maxHeartbeats 4000000
namespace Dv
open PySem PySem.Spec PyProof.Rows L2
/-! ### the look at a text: does it say what the plan says? -/
/-- what a global name is -/
inductive GV where
  | fn (f : Nat) | cls (c : Nat) | blt | const (j : Nat)
  deriving DecidableEq
structure Gi where
  N : List Str
  glo : Str → Option GV
  at_ : Nat → Str
  mt : Nat → Str
  kw : Nat → Nat → List Str → List Nat → Bool
  T : Tab
  it : Bool
/-- a scope as it is entered -/
structure Sx where
  sc : Scope
  fn : Str → Bool
def opOf : Bop → Operator
  | .add => .Add
  | .sub => .Sub
  | .mul => .Mult
  | .fdiv => .FloorDiv
  | .mod => .Mod
  | .pow => .Pow
  | .bor => .BitOr
  | .band => .BitAnd
def visC (S : Sx) (x : Str) : Bool := S.sc.names.lookup x == some .local || S.sc.names.lookup x == some .cell || S.sc.names.lookup x == some .free
def glC (S : Sx) (x : Str) : Bool := S.sc.names.lookup x == some .globalImplicit && !(x == ("__debug__" : Str))
/-- a name to be stored -/
def locC (G : Gi) (S : Sx) (i : Nat) (x : Str) : Bool := G.N[i]? == some x && (S.sc.names.lookup x == some .local || S.sc.names.lookup x == some .cell) && (S.fn x || S.sc.names.lookup x == some .local)
def tgsC (G : Gi) (S : Sx) : List Expr → List Nat → Bool
  | [], [] => true
  | .Name x _ :: es, i :: is => locC G S i x && tgsC G S es is
  | _, _ => false
def tgC (G : Gi) (S : Sx) (tg : Expr) (is : List Nat) (one : Bool) : Bool := match tg, is, one with
  | .Name x _, [i], true => locC G S i x
  | .Tuple es _ _, is, false => tgsC G S es is
  | _, _, _ => false
def tgNames : Expr → List Nat → List (Str × Nat)
  | .Name x _, [i] => [(x, i)]
  | .Tuple es _ _, is => (es.zip is).filterMap fun p => match p.1 with
    | .Name x _ => some (x, p.2)
    | _ => none
  | _, _ => []
def notSet : Expr → Bool
  | .Set _ _ _ => false
  | _ => true
def notComp : Expr → Bool
  | .ListComp _ _ _ _ => false
  | .SetComp _ _ _ _ => false
  | .DictComp _ _ _ _ _ => false
  | _ => true
def cOf : Cop → CmpOp := copOp
structure Ck where
  e : Sx → Expr → Bool
  l : Sx → List Expr → Bool
  aL : Sx → List Expr → Bool
  oL : Sx → List Expr → Bool
  f : Sx → List Expr → Bool
  o : Sx → Option Expr → Bool
  c : Sx → List Expr → Bool
  it : Sx → Expr → Expr → Bool
  k : Sx → List Keyword → Bool
def ckE (f : Sx → Expr → Bool) : Ck where
  e := f
  l := fun _ _ => false
  aL := fun S es => match es with
    | [a] => f S a
    | _ => false
  oL := fun S es => match es with
    | [a] => f S a
    | _ => false
  f := fun _ _ => false
  o := fun S oe => match oe with
    | some a => f S a
    | none => false
  c := fun S es => match es with
    | [a] => f S a
    | _ => false
  it := fun S _ a => f S a && notSet a
  k := fun _ _ => false
def ckN : Ck where
  e := fun _ _ => false
  l := fun _ _ => false
  aL := fun _ _ => false
  oL := fun _ _ => false
  f := fun _ _ => false
  o := fun _ _ => false
  c := fun _ _ => false
  it := fun _ _ _ => false
  k := fun _ _ => false
/-- the arguments of a call: none, a lone star, others -/
def acC (k : Sx → List Expr → Bool) (S : Sx) (es : List Expr) : Bool := k S es
def bName : Blt → Str
  | .len => "len"
  | .int => "int"
  | .bool => "bool"
  | .str => "str"
  | .sum => "sum"
  | .all => "all"
  | .any => "any"
  | .abs => "abs"
  | .tuple => "tuple"
  | .list => "list"
  | .sorted => "sorted"
  | .max => "max"
  | .min => "min"
  | .max2 => "max"
  | .min2 => "min"
def bOk : Blt → Bool
  | .bool => false
  | _ => true
def tyC (G : Gi) (S : Sx) (t : Ty) (e : Expr) : Bool := match e with
  | .Name x _ => glC S x && (match t with
    | .int => x == ("int" : Str) && G.glo x == some .blt
    | .bool => x == ("bool" : Str) && G.glo x == some .blt
    | .str => x == ("str" : Str) && G.glo x == some .blt
    | .list => x == ("list" : Str) && G.glo x == some .blt
    | .tuple => x == ("tuple" : Str) && G.glo x == some .blt
    | .dict => x == ("dict" : Str) && G.glo x == some .blt
    | .cls c => G.glo x == some (.cls c))
  | _ => false
def tysC (G : Gi) (S : Sx) : List Ty → List Expr → Bool
  | [], [] => true
  | t :: ts, e :: es => tyC G S t e && tysC G S ts es
  | _, _ => false
/-- a call's list: nobody starred, or one star alone -/
def noStarL (es : List Expr) : Bool := !es.any isStar
def callC (es : List Expr) : Bool := match es with
  | [] => true
  | e :: es => !isStar e || es.isEmpty
/-- a display of attributes and another dict -/
def dispC (G : Gi) (ca : Sx → Expr → Bool) (S : Sx) : List (Str × Nat) → List (Option Expr) → List Expr → Bool
  | [], [], [] => true
  | (k, j) :: r, some (.Constant (.str y) _ _) :: ks, .Attribute a' f _ :: vs => k == y && ca S a' && G.at_ j == f && noSup a' && dispC G ca S r ks vs
  | _, _, _ => false
def ck (G : Gi) : Ex → Ck
  | .var i => ckE fun S a => match a with
    | .Name x _ => G.N[i]? == some x && visC S x && !(x == ("__debug__" : Str)) && !(x == ("__classdict__" : Str))
    | _ => false
  | .int i => ckE fun _ a => match a with
    | .Constant (.int j) _ _ => i == j
    | _ => false
  | .str x => ckE fun _ a => match a with
    | .Constant (.str y) _ _ => x == y
    | _ => false
  | .bl b => ckE fun _ a => match a with
    | .Constant (.bool c) _ _ => b == c
    | _ => false
  | .non => ckE fun _ a => match a with
    | .Constant .none _ _ => true
    | _ => false
  | .glob j => ckE fun S a => match a with
    | .Name x _ => glC S x && G.glo x == some (.const j)
    | _ => false
  | .bin op a b => ckE fun S e => match e with
    | .BinOp a' op' b' _ => op' == opOf op && (ck G a).e S a' && (ck G b).e S b'
    | _ => false
  | .neg a => ckE fun S e => match e with
    | .UnaryOp .USub a' _ => (ck G a).e S a'
    | _ => false
  | .not a => ckE fun S e => match e with
    | .UnaryOp .Not a' _ => (ck G a).e S a'
    | _ => false
  | .inv a => ckE fun S e => match e with
    | .UnaryOp .Invert a' _ => (ck G a).e S a'
    | _ => false
  | .and a b => { ckE (fun S e => match e with
      | .BoolOp .And (a' :: b' :: r) _ => (ck G a).e S a' && (ck G b).aL S (b' :: r)
      | _ => false) with aL := fun S es => match es with
      | a' :: b' :: r => (ck G a).e S a' && (ck G b).aL S (b' :: r)
      | [.BoolOp .And (a' :: b' :: r) _] => (ck G a).e S a' && (ck G b).aL S (b' :: r)
      | _ => false }
  | .or a b => { ckE (fun S e => match e with
      | .BoolOp .Or (a' :: b' :: r) _ => (ck G a).e S a' && (ck G b).oL S (b' :: r)
      | _ => false) with oL := fun S es => match es with
      | a' :: b' :: r => (ck G a).e S a' && (ck G b).oL S (b' :: r)
      | [.BoolOp .Or (a' :: b' :: r) _] => (ck G a).e S a' && (ck G b).oL S (b' :: r)
      | _ => false }
  | .cmp op a b => ckE fun S e => match e with
    | .Compare a' [op'] [b'] _ => op' == copOp op && (ck G a).e S a' && (ck G b).e S b' && !behindInMarks op' b'
    | _ => false
  | .cmpB op a b => ckE fun S e => match e with
    | .Compare a' [op'] [b'] _ => op' == copOp op && (ck G a).e S a' && (ck G b).e S b' && !behindInMarks op' b'
    | _ => false
  | .chain o p a b c => ckE fun S e => match e with
    | .Compare a' [o', p'] [b', c'] _ => o' == copOp o && p' == copOp p && (ck G a).e S a' && (ck G b).e S b' && (ck G c).e S c' && !lastMarks [o', p'] [b', c']
    | _ => false
  | .isn a => ckE fun S e => match e with
    | .Compare a' [.Is] [.Constant .none _ _] _ => (ck G a).e S a'
    | _ => false
  | .notn a => ckE fun S e => match e with
    | .Compare a' [.IsNot] [.Constant .none _ _] _ => (ck G a).e S a'
    | _ => false
  | .ifx c a b => ckE fun S e => match e with
    | .IfExp c' a' b' _ => (ck G c).e S c' && (ck G a).e S a' && (ck G b).e S b'
    | _ => false
  | .nil => { ckN with
      l := fun _ es => match es with
        | [] => true
        | _ => false
      f := fun _ es => match es with
        | [] => true
        | _ => false
      o := fun _ oe => match oe with
        | none => true
        | _ => false
      c := fun _ es => match es with
        | [] => true
        | _ => false
      k := fun _ ks => match ks with
        | [] => true
        | _ => false }
  | .cons a r => { ckN with
      l := fun S es => match es with
        | a' :: r' => (ck G a).e S a' && !isStar a' && (ck G r).l S r'
        | _ => false
      f := fun S es => match es with
        | a' :: r' => (ck G a).e S a' && (ck G r).f S r'
        | _ => false
      k := fun S ks => match ks with
        | ⟨some _, a', _⟩ :: r' => (ck G a).e S a' && (ck G r).k S r'
        | _ => false }
  | .star a r => { ckN with
      l := fun S es => match es with
        | .Starred a' _ :: r' => (ck G a).e S a' && (ck G r).l S r'
        | _ => false }
  | .tup as => ckE fun S e => match e with
    | .Tuple es _ _ => (ck G as).l S es
    | _ => false
  | .lst as => ckE fun S e => match e with
    | .List es _ => (ck G as).l S es
    | _ => false
  | .sub a i => ckE fun S e => match e with
    | .Subscript a' i' _ => (ck G a).e S a' && (ck G i).e S i' && plainSl i'
    | _ => false
  | .slice a lo hi => ckE fun S e => match e with
    | .Subscript a' (.Slice lo' hi' none _) _ => (ck G a).e S a' && (ck G lo).o S lo' && (ck G hi).o S hi'
    | _ => false
  | .rev a => ckE fun S e => match e with
    | .Subscript a' (.Slice none none (some (.UnaryOp .USub (.Constant (.int 1) _ _) _)) _) _ => (ck G a).e S a'
    | _ => false
  | .attr a j => ckE fun S e => match e with
    | .Attribute a' f _ => (ck G a).e S a' && G.at_ j == f && noSup a'
    | _ => false
  | .prop a j => ckE fun S e => match e with
    | .Attribute a' f _ => (ck G a).e S a' && G.at_ j == f && noSup a'
    | _ => false
  | .call f as => ckE fun S e => match e with
    | .Call (.Name x _) es [] _ => glC S x && G.glo x == some (.fn f) && (ck G as).l S es && callC es
    | _ => false
  | .callk _ _ _ _ => ckN
  | .cval c j => ckE fun S e => match e with
    | .Attribute (.Name x _) f _ => glC S x && G.glo x == some (.cls c) && G.at_ j == f
    | _ => false
  | .cmeth c m as => ckE fun S e => match e with
    | .Call (.Attribute (.Name x _) ms apos) (a :: es) [] pos => glC S x && G.glo x == some (.cls c) && G.mt m == ms && (ck G as).l S (a :: es) && noStarL (a :: es) && decide ((a :: es).length < 30) && apos.endLine == pos.line && (match G.T.cls[c]? with
      | some k => (k.cms.lookup m).isSome
      | none => false)
    | _ => false
  | .isb neg a b => ckE fun S e => match e with
    | .Compare a' [op] [.Constant (.bool c) _ _] _ => (ck G a).e S a' && (b == c) && (match op with
      | .Is => !neg
      | .IsNot => neg
      | _ => false)
    | _ => false
  | .callv i as => ckE fun S e => match e with
    | .Call (.Name x _) (a :: es) [] _ => (G.N[i]? == some x && visC S x && !(x == ("__debug__" : Str)) && !(x == ("__classdict__" : Str))) && (ck G as).l S (a :: es) && noStarL (a :: es)
    | _ => false
  | .newv i as => ckE fun S e => match e with
    | .Call (.Name x _) es [] _ => (G.N[i]? == some x && visC S x && !(x == ("__debug__" : Str)) && !(x == ("__classdict__" : Str))) && (ck G as).l S es && callC es
    | _ => false
  | .new c as => ckE fun S e => match e with
    | .Call (.Name x _) es [] _ => glC S x && G.glo x == some (.cls c) && (ck G as).l S es && callC es && (match G.T.cls[c]? with
      | some k => k.init.isSome
      | none => false)
    | _ => false
  | .newk c as kas perm => ckE fun S e => match e with
    | .Call (.Name x _) es kws _ => glC S x && G.glo x == some (.cls c) && (ck G as).l S es && noStarL es && (ck G kas).k S kws && (match kwNames kws, G.T.cls[c]? with
      | some ks, some k => (match k.init with
        | some f => G.kw f (es.length + 1) ks (permS perm)
        | none => false)
      | _, _ => false)
    | _ => false
  | .dct => ckE fun _ e => match e with
    | .Dict [] [] _ => true
    | _ => false
  | .walk a => { ckN with
      it := fun S _ e => G.it && (ck G a).e S e && notSet e }
  | .dsub a x => ckE fun S e => match e with
    | .Subscript a' (.Constant (.str y) _ _) _ => (ck G a).e S a' && x == y
    | _ => false
  | .dks a => { ckN with
      it := fun S _ e => (ck G a).e S e && notSet e }
  | .dctA a st kjs => ckE fun S e => match e with
    | .Dict keys values _ => (match keys.reverse, values.reverse with
      | none :: ks, b :: vs => dispC G (ck G a).e S kjs ks.reverse vs.reverse && (ck G st).e S b && decide (0 < kjs.length ∧ kjs.length ≤ 15)
      | _, _ => false)
    | _ => false
  | .methw m o ks as => ckE fun S e => match e with
    | .Call (.Attribute o' ms apos) [] kws pos => (ck G o).e S o' && G.mt m == ms && noSup o' && (ck G as).k S kws && decide (kws.length < 29) && apos.endLine == pos.line && (match kwNames kws with
      | some ks' => ks' == ks && G.T.cls.all fun k => k.meths.all fun p => p.1 != m || G.kw p.2 1 ks [kwM]
      | none => false)
    | _ => false
  | .meth m o as => ckE fun S e => match e with
    | .Call (.Attribute o' ms apos) es [] pos => (ck G o).e S o' && G.mt m == ms && noSup o' && (ck G as).l S es && noStarL es && decide (es.length < 30) && apos.endLine == pos.line
    | _ => false
  | .methk m o as kas perm => ckE fun S e => match e with
    | .Call (.Attribute o' ms apos) es kws pos => (ck G o).e S o' && G.mt m == ms && noSup o' && (ck G as).l S es && noStarL es && (ck G kas).k S kws && decide (es.length + kws.length < 29) && apos.endLine == pos.line &&
      (match kwNames kws with
      | some ks => G.T.cls.all fun k => k.meths.all fun p => p.1 != m || G.kw p.2 (es.length + 1) ks (permS perm)
      | none => false)
    | _ => false
  | .blt b as => ckE fun S e => match e with
    | .Call (.Name x _) (a :: es) [] _ => bOk b && glC S x && x == bName b && G.glo x == some .blt && (ck G as).l S (a :: es) && noStarL (a :: es)
    | _ => false
  | .isi a ts => ckE fun S e => match e with
    | .Call (.Name x _) [a', c'] [] _ => glC S x && x == ("isinstance" : Str) && G.glo x == some .blt && (ck G a).e S a' && !isStar a' && (match ts, c' with
      | ts, .Tuple es _ _ => decide (ts.length < 100) && tysC G S ts es
      | [t], c' => tyC G S t c'
      | _, _ => false)
    | _ => false
  | .fmt a => ckE fun S e => match e with
    | .FormattedValue a' (-1) none _ => (ck G a).e S a'
    | .JoinedStr [.FormattedValue a' (-1) none _] _ => (ck G a).e S a'
    | _ => false
  | .fstr as => ckE fun S e => match e with
    | .JoinedStr (a :: b :: r) _ => (ck G as).f S (a :: b :: r)
    | _ => false
  | .split a b => ckE fun S e => match e with
    | .Call (.Attribute a' m apos) [b'] [] pos => m == ("split" : Str) && (ck G a).e S a' && (ck G b).e S b' && !isStar b' && noSup a' && apos.endLine == pos.line
    | _ => false
  | .join a b => ckE fun S e => match e with
    | .Call (.Attribute a' m apos) [b'] [] pos => m == ("join" : Str) && (ck G a).e S a' && (ck G b).e S b' && !isStar b' && noSup a' && apos.endLine == pos.line
    | _ => false
  | .comp elt tg one src cond => ckE fun S e => match e with
    | .ListComp elt' [⟨tg', iter, ifs, 0⟩] scope _ => (ck G src).it S tg' iter && blkC G.N S.sc scope (tgNames tg' tg) && decide ((tgNames tg' tg).map (·.2) = tg) && tgC G ⟨relS scope S.sc, fun x => scope.names.lookup x == some .cell⟩ tg' tg one &&
        (ck G elt).e ⟨relS scope S.sc, fun x => scope.names.lookup x == some .cell⟩ elt' && (ck G cond).c ⟨relS scope S.sc, fun x => scope.names.lookup x == some .cell⟩ ifs
    | _ => false
  | .compO elt tg one i cond => ckE fun S e => match e with
    | .ListComp elt' [⟨tg', iter, ifs, 0⟩] scope _ => (match iter with | .Name x _ => G.N[i]? == some x && visC S x && !(x == ("__debug__" : Str)) && !(x == ("__classdict__" : Str)) | _ => false) && blkC G.N S.sc scope (tgNames tg' tg) && decide ((tgNames tg' tg).map (·.2) = tg) && tgC G ⟨relS scope S.sc, fun x => scope.names.lookup x == some .cell⟩ tg' tg one &&
        (ck G elt).e ⟨relS scope S.sc, fun x => scope.names.lookup x == some .cell⟩ elt' && (ck G cond).c ⟨relS scope S.sc, fun x => scope.names.lookup x == some .cell⟩ ifs
    | _ => false
  | .dkeys j src => { ckN with
      it := fun S _ e => match e with
        | .DictComp (.Name x _) (.Constant (.bool true) _ _) [⟨tg', iter, [], 0⟩] scope _ => (ck G src).it S tg' iter && blkC G.N S.sc scope (tgNames tg' [j]) && decide ((tgNames tg' [j]).map (·.2) = [j]) && tgC G ⟨relS scope S.sc, fun x => scope.names.lookup x == some .cell⟩ tg' [j] true &&
            (G.N[j]? == some x && visC ⟨relS scope S.sc, fun x => scope.names.lookup x == some .cell⟩ x && !(x == ("__debug__" : Str)) && !(x == ("__classdict__" : Str)))
        | _ => false }
  | .rng a => { ckN with
      it := fun S _ e => match e with
        | .Call (.Name x _) [a'] [] _ => glC S x && x == ("range" : Str) && G.glo x == some .blt && (ck G a).e S a' && !isStar a'
        | _ => false }
  | .rng2 a b => { ckN with
      it := fun S _ e => match e with
        | .Call (.Name x _) [a', b'] [] _ => glC S x && x == ("range" : Str) && G.glo x == some .blt && (ck G a).e S a' && !isStar a' && (ck G b).e S b' && !isStar b'
        | _ => false }
  | .enum a => { ckN with
      it := fun S tg e => match tg, e with
        | .Tuple _ _ _, .Call (.Name x _) [a'] [] _ => glC S x && x == ("enumerate" : Str) && G.glo x == some .blt && (ck G a).e S a' && !isStar a'
        | _, _ => false }
  | .zip a b => { ckN with
      it := fun S tg e => match tg, e with
        | .Tuple _ _ _, .Call (.Name x _) [a', b'] [] _ => glC S x && x == ("zip" : Str) && G.glo x == some .blt && (ck G a).e S a' && !isStar a' && (ck G b).e S b' && !isStar b'
        | _, _ => false }
end Dv
end
section
set_option Elab.async false
set_option linter.all false
set_option maxRecDepth 100000
set_option maxHeartbeats 4000000
namespace Dv
open PySem PySem.Spec PyProof.Rows L2
/-! ### the look's answer is right: expressions -/
structure Gok (T : Tab) (nm : Nm) (K : PySem.W.Frag) (mg : Str → Option Value) (G : Gi) : Prop where
  at_ : G.at_ = nm.at_
  mt : G.mt = nm.mt
  kw : G.kw = nm.kw
  tab : G.T = T
  fn : ∀ x f, G.glo x = some (.fn f) → mg x = some (.ref (nm.fa f)) ∧ PySem.W.keepIn K (.ref (nm.fa f)) = true
  cls : ∀ x c, G.glo x = some (.cls c) → mg x = some (.ref (nm.ca c))
  blt : ∀ x, G.glo x = some .blt → mg x = none
  const : ∀ x j, G.glo x = some (.const j) → ∃ u v d, mg x = some u ∧ RelV v u ∧ T.consts[j]? = some d ∧ ∀ g H, Rep K nm g H d v
/-- the text, so many calls deep -/
structure Bs (T : Tab) (O : Orc) (nm : Nm) (G : Gi) (P : Program) (w : World) (K : PySem.W.Frag) (mg : Str → Option Value) (base : Heap) (k : Nat) : Prop where
  top : Top T nm K
  gok : Gok T nm K mg G
  fnr : ∀ f, FnR P w K mg base C8.CX0 k (nm.fa f) (spO K nm E0 O f)
  fni : ∀ c k' f, T.cls[c]? = some k' → k'.init = some f → FnR P w K mg base C8.CX0 k (nm.fa f) (spI K nm E0 O c f)
  fnk : ∀ f n ks perm, nm.kw f n ks perm = true → ∃ dvs, Dfl T nm K f dvs ∧ FnK P w K mg base C8.CX0 k (nm.fa f) n ks perm dvs (spO K nm E0 O f)
  mkk : ∀ c k' f n ks perm, T.cls[c]? = some k' → k'.init = some f → nm.kw f n ks perm = true → ∃ dvs, Dfl T nm K f dvs ∧ MkK P w K mg base C8.CX0 k (nm.fa f) n ks perm dvs (spI K nm E0 O c f)
  fnw : ∀ f n ks, nm.kw f n ks [kwM] = true → FnW P w K mg base C8.CX0 k (nm.fa f) n ks (spW K nm E0 O f)
  itr : G.it = true → ∀ c k' f j, T.cls[c]? = some k' → k'.its = some j → k'.meths.lookup nIter = some f → ItR T P w K mg base C8.CX0 k nm (nm.fa f) c j
structure SOk (X : Cx) (G : Gi) (S : Sx) (k : Nat) : Prop where
  sc : X.env.scope = S.sc
  fn : X.fn = S.fn
  N : X.N = G.N
  nd : G.N.Nodup
  calm : X.calm = true
  room : Room (k + 3) X.A
  kind : S.sc.kind = .function
def Good (T : Tab) (O : Orc) (nm : Nm) (G : Gi) (X : Cx) (S : Sx) : Prop := ∃ k, Bs T O nm G X.prog X.w X.K X.mg X.base k ∧ SOk X G S k
section
variable {T : Tab} {O : Orc} {nm : Nm} {G : Gi} {X : Cx} {S : Sx}
theorem near_room {A A' : Around} {k : Nat} (h : Near A A') (r : Room (k + 2) A) : Room k A' := by
  rcases h with rfl | rfl | rfl
  · exact r.mono (by omega)
  · exact (Room.in1 (k := k + 1) r).mono (by omega)
  · exact (Room.in1 (k := k + 1) r).in1
theorem near_env {A A' : Around} {outer : List PySem.Env} {P : Program} {w : World} {K : PySem.W.Frag} {mg : Str → Option Value} {base : Heap} {s : Shared} {H : Hp} (h : Near A A') (e : Env0 P w K mg base A outer s H) : Env0 P w K mg base A' outer s H := by
  rcases h with rfl | rfl | rfl
  · exact e
  · exact e.in1
  · exact e.in1.in1
theorem calls_of {k : Nat} (hF : ∀ f, FnR X.prog X.w X.K X.mg X.base C8.CX0 k (nm.fa f) (spO X.K nm E0 O f)) (hr : Room (k + 2) X.A) : CallsOk X nm E0 O := by
  intro f A' pins s σ H us vs ds cs g Q hn I r co rs p
  refine wpAny_call (codeAny_mono (hF f A' X.stack s H us vs Q E0 (near_room hn hr) (near_env hn I.env0) r ⟨rfl, g, cs, ds, co, rs, p⟩) fun r s' hq => ?_)
  cases r with
  | error e => exact hq.elim
  | ok fl =>
    cases fl with
    | ret u => exact I.after hq
    | next => exact False.elim hq
    | brk => exact False.elim hq
    | cont => exact False.elim hq
theorem Good.ctx (h : Good T O nm G X S) : Ctx T O nm X E0 := by
  obtain ⟨k, b, s⟩ := h
  refine ⟨b.top, s.calm, by rw [s.N]; exact s.nd, s.room.mono (j := 1) (by omega), calls_of b.fnr (s.room.mono (by omega)), C8.CX0, k, s.room, C8.pass0, C8.pass0, b.fnr, b.fni, b.fnk, b.mkk⟩
theorem Good.itr (h : Good T O nm G X S) (hi : G.it = true) : ∃ n, Room n X.A ∧ ∀ c k' f j, T.cls[c]? = some k' → k'.its = some j → k'.meths.lookup nIter = some f → ItR T X.prog X.w X.K X.mg X.base C8.CX0 n nm (nm.fa f) c j := by
  obtain ⟨k, b, s⟩ := h
  exact ⟨k, s.room.mono (by omega), b.itr hi⟩
theorem Good.kwf (h : Good T O nm G X S) : ∃ n, Room n X.A ∧ ∀ f m ks, nm.kw f m ks [kwM] = true → FnW X.prog X.w X.K X.mg X.base C8.CX0 n (nm.fa f) m ks (spW X.K nm E0 O f) := by
  obtain ⟨k, b, s⟩ := h
  exact ⟨k, s.room.mono (by omega), b.fnw⟩
theorem Good.gok (h : Good T O nm G X S) : Gok T nm X.K X.mg G := by
  obtain ⟨k, b, s⟩ := h
  exact b.gok
theorem Good.sc (h : Good T O nm G X S) : X.env.scope = S.sc := by
  obtain ⟨k, b, s⟩ := h
  exact s.sc
theorem Good.N (h : Good T O nm G X S) : X.N = G.N := by
  obtain ⟨k, b, s⟩ := h
  exact s.N
theorem Good.fn (h : Good T O nm G X S) : X.fn = S.fn := by
  obtain ⟨k, b, s⟩ := h
  exact s.fn
theorem Good.kind (h : Good T O nm G X S) : X.env.scope.kind = .function := by
  obtain ⟨k, b, s⟩ := h
  rw [s.sc]
  exact s.kind
theorem Good.blk (h : Good T O nm G X S) {scope : Scope} (hk : scope.kind = .function) (s : Shared) (H : Hp) (C : Addr) (cl : List (Str × Addr)) (fp : List Addr) : Good T O nm G (X.blk s H scope (compEnvC scope cl C X.env) fp) ⟨relS scope S.sc, fun x => scope.names.lookup x == some .cell⟩ := by
  obtain ⟨k, b, so⟩ := h
  refine ⟨k, b, ?_, rfl, so.N, so.nd, so.calm, so.room, hk⟩
  show relabel scope X.env = relS scope S.sc
  rw [← so.sc]
  rfl
theorem vis_of (g : Good T O nm G X S) {x : Str} (h : visC S x = true) : Vis X.env.scope x := by
  unfold visC at h
  rw [g.sc]
  simp only [Bool.or_eq_true, beq_iff_eq] at h
  rcases h with (h | h) | h
  · exact .inl h
  · exact .inr (.inl h)
  · exact .inr (.inr h)
theorem gl_of (g : Good T O nm G X S) {x : Str} (h : glC S x = true) : Gl X x ∧ (x == ("__debug__" : Str)) = false := by
  unfold glC at h
  simp only [Bool.and_eq_true, beq_iff_eq, Bool.not_eq_true'] at h
  refine ⟨?_, h.2⟩
  show X.env.scope.names.lookup x = some .globalImplicit
  rw [g.sc]
  exact h.1
theorem loc_of (g : Good T O nm G X S) {x : Str} {i : Nat} (h : locC G S i x = true) : X.N[i]? = some x ∧ Loc X.env.scope x ∧ (X.fn x = true ∨ X.env.scope.names.lookup x = some .local) := by
  unfold locC at h
  simp only [Bool.and_eq_true, Bool.or_eq_true, beq_iff_eq] at h
  obtain ⟨⟨h1, h2⟩, h3⟩ := h
  rw [g.sc, g.N, g.fn]
  exact ⟨h1, h2, h3⟩
theorem assignEach_names : ∀ {es : List Expr} {is : List Nat} {env : PySem.Env}, tgsC G S es is = true → (assignEach es env).length = is.length ∧ (assignEach es env).findIdx? (·.1) = none ∧ es.length = is.length
  | [], [], _, _ => ⟨rfl, rfl, rfl⟩
  | [], _ :: _, _, h => by simp [tgsC] at h
  | e :: es, [], _, h => by cases e <;> simp [tgsC] at h
  | e :: es, i :: is, env, h => by
    cases e with
    | Name x p =>
      simp only [tgsC, Bool.and_eq_true] at h
      obtain ⟨h1, h2, h3⟩ := assignEach_names (env := env) h.2
      refine ⟨?_, ?_, ?_⟩
      · simp [assignEach, h1]
      · simp only [assignEach, List.findIdx?_cons, h2]
        rfl
      · simp [h3]
    | _ => simp [tgsC] at h
theorem tgs_of (g : Good T O nm G X S) : ∀ {es : List Expr} {is : List Nat}, tgsC G S es is = true → PGs X es (gTgs is)
  | [], [], _ => tgs_nil
  | [], _ :: _, h => by simp [tgsC] at h
  | e :: es, [], h => by cases e <;> simp [tgsC] at h
  | e :: es, i :: is, h => by
    cases e with
    | Name x p =>
      simp only [tgsC, Bool.and_eq_true] at h
      obtain ⟨h1, h2, h3⟩ := loc_of g h.1
      exact tgs_cons g.ctx.nd h1 h2 h3 (tgs_of g h.2)
    | _ => simp [tgsC] at h
theorem tg_of (g : Good T O nm G X S) {e : Expr} {is : List Nat} {one : Bool} (h : tgC G S e is one = true) : PG X e (tgOf X.K is one) := by
  unfold tgC at h
  split at h
  · obtain ⟨h1, h2, h3⟩ := loc_of g h
    exact tg_name g.ctx.nd h1 h2 h3
  · obtain ⟨h1, h2, _⟩ := assignEach_names (env := X.env) h
    exact tg_tup g.ctx.calm (tgs_of g h) h1 h2
  · cases h
theorem notSet_of {e : Expr} (h : notSet e = true) (env : PySem.Env) (x : Value) : foldedSetIterable e env x = pure x := by
  cases e <;> first | rfl | (exact absurd h (by simp [notSet]))
end
/-- what a plan's look promises -/
structure Snd (T : Tab) (O : Orc) (nm : Nm) (G : Gi) (n : Den) (kk : Ck) : Prop where
  e : ∀ X S a, Good T O nm G X S → kk.e S a = true → DE X nm E0 a n
  l : ∀ X S es, Good T O nm G X S → kk.l S es = true → PA X es (tAs X.K nm E0 n.as)
  lb : ∀ X S es, Good T O nm G X S → kk.l S es = true → noStarL es = true → PA X es (tBs X.K nm E0 n.bs)
  ac : ∀ X S es, Good T O nm G X S → kk.l S es = true → callC es = true → AC X es (tAs X.K nm E0 n.as)
  ln : ∀ S es, kk.l S es = true → noStarL es = true → ∀ ρ cs ds cs', n.as ρ cs = .ok ds cs' → ds.length = es.length
  l0 : ∀ S, kk.l S [] = true → ∀ ρ cs, n.as ρ cs = .ok [] cs
  aL : ∀ X S es pos, Good T O nm G X S → kk.aL S es = true → DW X nm E0 (.BoolOp .And es pos) n
  oL : ∀ X S es pos, Good T O nm G X S → kk.oL S es = true → DW X nm E0 (.BoolOp .Or es pos) n
  f : ∀ X S es, Good T O nm G X S → kk.f S es = true → FJ X nm E0 es n.f
  o : ∀ X S oe, Good T O nm G X S → kk.o S oe = true → PO X oe (tO X.K nm E0 n.o)
  c : ∀ X S es, Good T O nm G X S → kk.c S es = true → PTs X es (tT X.K nm E0 n.c)
  it : ∀ X S tg a, Good T O nm G X S → kk.it S tg a = true → PI X tg a (tI X.K nm E0 n.it) ∧ notSet a = true
  k : ∀ X S ks, Good T O nm G X S → kk.k S ks = true → PK X ks (tAs X.K nm E0 n.as)
  kn : ∀ S ks, kk.k S ks = true → ∀ ρ cs ds cs', n.as ρ cs = .ok ds cs' → ds.length = ks.length
/-- a value, as most are -/
structure Std (n : Den) : Prop where
  it : n.it = fun ρ cs => (n.v ρ cs).bind fun x cs => ofRes cs (itemsI x)
  o : n.o = fun ρ cs => (n.v ρ cs).bind fun x cs => (match x with
    | .int i => .ok (some i) cs
    | _ => .bad)
  c : n.c = n.t
section
variable {T : Tab} {O : Orc} {nm : Nm} {G : Gi} {n : Den}
theorem std_VB (f g : Env → Cells → Res D) : Std (ofVB f g) := ⟨rfl, rfl, rfl⟩
theorem std_VT (f : Env → Cells → Res D) (t : Env → Cells → Res Bool) : Std (ofVT f t) := ⟨rfl, rfl, rfl⟩
theorem snd_e {f : Sx → Expr → Bool} (hs : Std n) (h : ∀ X S a, Good T O nm G X S → f S a = true → DE X nm E0 a n) : Snd T O nm G n (ckE f) where
  e := h
  l := fun X S es g q => nomatch q
  lb := fun X S es g q => nomatch q
  ac := fun X S es g q => nomatch q
  ln := fun S es q => nomatch q
  l0 := fun S q => nomatch q
  aL := fun X S es pos g q => by
    dsimp only [ckE] at q
    split at q
    · exact d_and1 (h X S _ g q)
    · cases q
  oL := fun X S es pos g q => by
    dsimp only [ckE] at q
    split at q
    · exact d_or1 (h X S _ g q)
    · cases q
  f := fun X S es g q => nomatch q
  o := fun X S oe g q => by
    dsimp only [ckE] at q
    split at q
    · rw [hs.o]
      exact d_oS (h X S _ g q).v
    · cases q
  c := fun X S es g q => by
    dsimp only [ckE] at q
    split at q
    · rw [hs.c]
      exact d_if1 (h X S _ g q).t
    · cases q
  it := fun X S tg a g q => by
    have q : (f S a && notSet a) = true := q
    rw [Bool.and_eq_true] at q
    rw [hs.it]
    exact ⟨si_seq (h X S a g q.1).v, q.2⟩
  k := fun X S ks g q => nomatch q
  kn := fun S ks q => nomatch q
/-- nothing is promised -/
theorem snd_none : Snd T O nm G n ckN where
  e := fun X S a g q => nomatch q
  l := fun X S es g q => nomatch q
  lb := fun X S es g q => nomatch q
  ac := fun X S es g q => nomatch q
  ln := fun S es q => nomatch q
  l0 := fun S q => nomatch q
  aL := fun X S es pos g q => nomatch q
  oL := fun X S es pos g q => nomatch q
  f := fun X S es g q => nomatch q
  o := fun X S oe g q => nomatch q
  c := fun X S es g q => nomatch q
  it := fun X S tg a g q => nomatch q
  k := fun X S ks g q => nomatch q
  kn := fun S ks q => nomatch q
end
end Dv
end
section
set_option Elab.async false
set_option linter.all false
set_option maxRecDepth 100000
set_option maxHeartbeats 4000000
namespace Dv
open PySem PySem.Spec PyProof.Rows L2
section
variable {T : Tab} {O : Orc} {nm : Nm} {G : Gi}
abbrev SE (T : Tab) (O : Orc) (nm : Nm) (G : Gi) (e : Ex) : Prop := Snd T O nm G (den T O e) (ck G e)
theorem sn_var (i : Nat) : SE T O nm G (.var i) := snd_e (std_VB _ _) fun X S a g h => by
  split at h
  · rename_i x p
    simp only [Bool.and_eq_true, beq_iff_eq, Bool.not_eq_true'] at h
    obtain ⟨⟨⟨h1, h2⟩, h3⟩, h4⟩ := h
    have hv : PE X (.Name x p) (tVar i) := pe_var (by rw [g.N]; exact h1) (vis_of g h2) h3 h4
    exact .ofB rfl (d_var hv) (d_varB hv)
  · cases h
theorem sn_int (i : Int) : SE T O nm G (.int i) := snd_e (std_VB _ _) fun X S a g h => by
  split at h
  · rw [beq_iff_eq] at h
    subst h
    exact .of rfl (d_c pe_int fun _ _ => .int _)
  · cases h
theorem sn_str (x : Str) : SE T O nm G (.str x) := snd_e (std_VB _ _) fun X S a g h => by
  split at h
  · rw [beq_iff_eq] at h
    subst h
    exact .of rfl (d_c pe_str fun _ _ => .str _)
  · cases h
theorem sn_bl (b : Bool) : SE T O nm G (.bl b) := snd_e (std_VB _ _) fun X S a g h => by
  split at h
  · rw [beq_iff_eq] at h
    subst h
    exact .of rfl (d_c pe_bl fun _ _ => .bl _)
  · cases h
theorem sn_non : SE T O nm G .non := snd_e (std_VB _ _) fun X S a g h => by
  split at h
  · exact .of rfl (d_c pe_non fun _ _ => .non)
  · cases h
theorem sn_glob (j : Nat) : SE T O nm G (.glob j) := snd_e (std_VB _ _) fun X S a g h => by
  split at h
  · rename_i x p
    simp only [Bool.and_eq_true, beq_iff_eq] at h
    obtain ⟨u, v, d, h1, h2, h3, h4⟩ := g.gok.const _ j h.2
    obtain ⟨g1, g2⟩ := gl_of g h.1
    have hv := d_c (nm := nm) (W := E0) (pe_glob (pos := p) g1 h1 h2 g2) h4
    refine .of rfl (hv.imp fun σ H Q q => ?_)
    obtain ⟨gg, ρ, cs, en, c, p⟩ := q
    refine ⟨gg, ρ, cs, en, c, ?_⟩
    have p : Post X.K nm E0 (Rep X.K nm) gg H (ofRes cs T.consts[j]?) Q := p
    rw [h3] at p
    exact p
  · cases h
theorem o_bin {X : Cx} (C : Ctx T O nm X E0) (op : Bop) : OpR X (binaryOp (opOf op)) (rD X.K nm E0 (Rep X.K nm) (Rep X.K nm) (binD T O op)) := by
  cases op with
  | add => exact o_add C
  | sub => exact o_sub C
  | bor => exact o_bor C
  | band => exact o_band C
  | mul => exact o_mul
  | fdiv => exact o_fdiv
  | mod => exact o_mod
  | pow => exact o_pow
theorem sn_bin (op : Bop) {a b : Ex} (ha : SE T O nm G a) (hb : SE T O nm G b) : SE T O nm G (.bin op a b) := snd_e (std_VB _ _) fun X S e g h => by
  split at h
  · simp only [Bool.and_eq_true, beq_iff_eq] at h
    obtain ⟨⟨h1, h2⟩, h3⟩ := h
    subst h1
    exact .of rfl (d_bin (o_bin g.ctx op) (ha.e X S _ g h2).v (hb.e X S _ g h3).v)
  · cases h
theorem sn_neg {a : Ex} (ha : SE T O nm G a) : SE T O nm G (.neg a) := snd_e (std_VB _ _) fun X S e g h => by
  split at h
  · exact d_neg (ha.e X S _ g h)
  · cases h
theorem sn_not {a : Ex} (ha : SE T O nm G a) : SE T O nm G (.not a) := snd_e (std_VT _ _) fun X S e g h => by
  split at h
  · exact d_not (ha.e X S _ g h)
  · cases h
theorem sn_inv {a : Ex} (ha : SE T O nm G a) : SE T O nm G (.inv a) := snd_e (std_VB _ _) fun X S e g h => by
  split at h
  · exact d_inv g.ctx (ha.e X S _ g h)
  · cases h
theorem sn_and {a b : Ex} (ha : SE T O nm G a) (hb : SE T O nm G b) : SE T O nm G (.and a b) := by
  have he : ∀ X S e, Good T O nm G X S → (ck G (.and a b)).e S e = true → DE X nm E0 e (den T O (.and a b)) := fun X S e g h => by
    have h : (match (generalizing := false) e with
      | .BoolOp .And (a' :: b' :: r) _ => (ck G a).e S a' && (ck G b).aL S (b' :: r)
      | _ => false) = true := h
    split at h
    · rw [Bool.and_eq_true] at h
      exact (d_and (ha.e X S _ g h.1) (hb.aL X S _ _ g h.2)).de rfl
    · cases h
  have base := snd_e (T := T) (O := O) (nm := nm) (G := G) (n := den T O (.and a b)) (f := (ck G (.and a b)).e) (std_VT _ _) he
  exact { base with
    aL := fun X S es pos g h => by
      have h : (match (generalizing := false) es with
        | a' :: b' :: r => (ck G a).e S a' && (ck G b).aL S (b' :: r)
        | [.BoolOp .And (a' :: b' :: r) _] => (ck G a).e S a' && (ck G b).aL S (b' :: r)
        | _ => false) = true := h
      split at h
      · rw [Bool.and_eq_true] at h
        exact d_and (ha.e X S _ g h.1) (hb.aL X S _ _ g h.2)
      · exact d_and1 (he X S _ g h)
      · cases h }
theorem sn_or {a b : Ex} (ha : SE T O nm G a) (hb : SE T O nm G b) : SE T O nm G (.or a b) := by
  have he : ∀ X S e, Good T O nm G X S → (ck G (.or a b)).e S e = true → DE X nm E0 e (den T O (.or a b)) := fun X S e g h => by
    have h : (match (generalizing := false) e with
      | .BoolOp .Or (a' :: b' :: r) _ => (ck G a).e S a' && (ck G b).oL S (b' :: r)
      | _ => false) = true := h
    split at h
    · rw [Bool.and_eq_true] at h
      exact (d_or (ha.e X S _ g h.1) (hb.oL X S _ _ g h.2)).de rfl
    · cases h
  have base := snd_e (T := T) (O := O) (nm := nm) (G := G) (n := den T O (.or a b)) (f := (ck G (.or a b)).e) (std_VT _ _) he
  exact { base with
    oL := fun X S es pos g h => by
      have h : (match (generalizing := false) es with
        | a' :: b' :: r => (ck G a).e S a' && (ck G b).oL S (b' :: r)
        | [.BoolOp .Or (a' :: b' :: r) _] => (ck G a).e S a' && (ck G b).oL S (b' :: r)
        | _ => false) = true := h
      split at h
      · rw [Bool.and_eq_true] at h
        exact d_or (ha.e X S _ g h.1) (hb.oL X S _ _ g h.2)
      · exact d_or1 (he X S _ g h)
      · cases h }
theorem sn_cmp (op : Cop) {a b : Ex} (ha : SE T O nm G a) (hb : SE T O nm G b) : SE T O nm G (.cmp op a b) := snd_e (std_VB _ _) fun X S e g h => by
  split at h
  · simp only [Bool.and_eq_true, beq_iff_eq, Bool.not_eq_true'] at h
    obtain ⟨⟨⟨h1, h2⟩, h3⟩, h4⟩ := h
    subst h1
    exact d_cmpE (o_cmp g.ctx op) (ha.e X S _ g h2) (hb.e X S _ g h3) h4 cmpD_bl
  · cases h
theorem sn_cmpB (op : Cop) {a b : Ex} (ha : SE T O nm G a) (hb : SE T O nm G b) : SE T O nm G (.cmpB op a b) := snd_e (std_VB _ _) fun X S e g h => by
  split at h
  · simp only [Bool.and_eq_true, beq_iff_eq, Bool.not_eq_true'] at h
    obtain ⟨⟨⟨h1, h2⟩, h3⟩, h4⟩ := h
    subst h1
    exact d_cmpBE (o_cmpB g.ctx op) (ha.e X S _ g h2) (hb.e X S _ g h3) h4 cmpBD_bl
  · cases h
theorem sn_chain (o p : Cop) {a b c : Ex} (ha : SE T O nm G a) (hb : SE T O nm G b) (hc : SE T O nm G c) : SE T O nm G (.chain o p a b c) := snd_e (std_VB _ _) fun X S e g h => by
  split at h
  · simp only [Bool.and_eq_true, beq_iff_eq, Bool.not_eq_true'] at h
    obtain ⟨⟨⟨⟨⟨h1, h2⟩, h3⟩, h4⟩, h5⟩, h6⟩ := h
    subst h1 h2
    exact d_chain (o_cmp g.ctx o) (o_cmp g.ctx p) (ha.e X S _ g h3) (hb.e X S _ g h4) (hc.e X S _ g h5) cmpD_bl cmpD_bl h6
  · cases h
theorem sn_isn {a : Ex} (ha : SE T O nm G a) : SE T O nm G (.isn a) := snd_e (std_VB _ _) fun X S e g h => by
  split at h
  · exact d_isN (ha.e X S _ g h)
  · cases h
theorem sn_notn {a : Ex} (ha : SE T O nm G a) : SE T O nm G (.notn a) := snd_e (std_VB _ _) fun X S e g h => by
  split at h
  · exact d_notN (ha.e X S _ g h)
  · cases h
theorem sn_ifx {c a b : Ex} (hc : SE T O nm G c) (ha : SE T O nm G a) (hb : SE T O nm G b) : SE T O nm G (.ifx c a b) := snd_e (std_VT _ _) fun X S e g h => by
  split at h
  · simp only [Bool.and_eq_true] at h
    exact d_ifx (hc.e X S _ g h.1.1) (ha.e X S _ g h.1.2) (hb.e X S _ g h.2)
  · cases h
end
end Dv
end
section
set_option Elab.async false
set_option linter.all false
set_option maxRecDepth 100000
set_option maxHeartbeats 4000000
namespace Dv
open PySem PySem.Spec PyProof.Rows L2
section
variable {T : Tab} {O : Orc} {nm : Nm} {G : Gi}
theorem sn_nil : SE T O nm G .nil where
  e := fun X S a g q => nomatch q
  l := fun X S es g h => by
    have h : (match (generalizing := false) es with | [] => true | _ => false) = true := h
    split at h
    · exact d_nil
    · cases h
  lb := fun X S es g h _ => by
    have h : (match (generalizing := false) es with | [] => true | _ => false) = true := h
    split at h
    · exact d_nilB
    · cases h
  ac := fun X S es g h _ => by
    have h : (match (generalizing := false) es with | [] => true | _ => false) = true := h
    split at h
    · exact AC.nil
    · cases h
  ln := fun S es h _ ρ cs ds cs' q => by
    have h : (match (generalizing := false) es with | [] => true | _ => false) = true := h
    split at h
    · have q : Res.ok [] cs = .ok ds cs' := q
      cases q
      rfl
    · cases h
  l0 := fun S h ρ cs => rfl
  aL := fun X S es pos g q => nomatch q
  oL := fun X S es pos g q => nomatch q
  f := fun X S es g h => by
    have h : (match (generalizing := false) es with | [] => true | _ => false) = true := h
    split at h
    · exact fj_nil
    · cases h
  o := fun X S oe g h => by
    have h : (match (generalizing := false) oe with | none => true | _ => false) = true := h
    split at h
    · exact d_oN
    · cases h
  c := fun X S es g h => by
    have h : (match (generalizing := false) es with | [] => true | _ => false) = true := h
    split at h
    · exact d_if0
    · cases h
  it := fun X S tg a g q => nomatch q
  k := fun X S ks g h => by
    have h : (match (generalizing := false) ks with | [] => true | _ => false) = true := h
    split at h
    · exact d_pkNil
    · cases h
  kn := fun S ks h ρ cs ds cs' q => by
    have h : (match (generalizing := false) ks with | [] => true | _ => false) = true := h
    split at h
    · have q : Res.ok [] cs = .ok ds cs' := q
      cases q
      rfl
    · cases h
theorem as_len {a r : Ex} {n : Nat} {ρ : Env} {cs cs' : Cells} {ds : List D} (hr : ∀ cs ds cs', (den T O r).as ρ cs = .ok ds cs' → ds.length = n) (h : (den T O (.cons a r)).as ρ cs = .ok ds cs') : ds.length = n + 1 := by
  have h : (((den T O a).v ρ cs).bind fun x cs => ((den T O r).as ρ cs).bind fun xs cs => .ok (x :: xs) cs) = .ok ds cs' := h
  cases e1 : (den T O a).v ρ cs with
  | ok x cs1 =>
    rw [e1] at h
    have h : (((den T O r).as ρ cs1).bind fun xs cs => .ok (x :: xs) cs) = .ok ds cs' := h
    cases e2 : (den T O r).as ρ cs1 with
    | ok xs cs2 =>
      rw [e2] at h
      cases h
      rw [List.length_cons, hr _ _ _ e2]
    | exc _ _ => rw [e2] at h; cases h
    | bad => rw [e2] at h; cases h
  | exc _ _ => rw [e1] at h; cases h
  | bad => rw [e1] at h; cases h
theorem noStar_cons {a : Expr} {es : List Expr} (h : noStarL (a :: es) = true) : isStar a = false ∧ noStarL es = true := by
  unfold noStarL at h ⊢
  simp only [List.any_cons, Bool.not_or, Bool.and_eq_true, Bool.not_eq_true'] at h
  exact ⟨h.1, by simpa using h.2⟩
theorem sn_cons {a r : Ex} (ha : SE T O nm G a) (hr : SE T O nm G r) : SE T O nm G (.cons a r) where
  e := fun X S a g q => nomatch q
  l := fun X S es g h => by
    have h : (match (generalizing := false) es with
      | a' :: r' => (ck G a).e S a' && !isStar a' && (ck G r).l S r'
      | _ => false) = true := h
    split at h
    · simp only [Bool.and_eq_true, Bool.not_eq_true'] at h
      exact d_cons (isStar_not h.1.2) (ha.e X S _ g h.1.1).v (hr.l X S _ g h.2)
    · cases h
  lb := fun X S es g h hn => by
    have h : (match (generalizing := false) es with
      | a' :: r' => (ck G a).e S a' && !isStar a' && (ck G r).l S r'
      | _ => false) = true := h
    split at h
    · simp only [Bool.and_eq_true, Bool.not_eq_true'] at h
      exact d_consB (isStar_not h.1.2) (ha.e X S _ g h.1.1).b (hr.lb X S _ g h.2 (noStar_cons hn).2)
    · cases h
  ac := fun X S es g h _ => by
    have h : (match (generalizing := false) es with
      | a' :: r' => (ck G a).e S a' && !isStar a' && (ck G r).l S r'
      | _ => false) = true := h
    split at h
    · simp only [Bool.and_eq_true, Bool.not_eq_true'] at h
      exact AC.cons h.1.2 (d_cons (isStar_not h.1.2) (ha.e X S _ g h.1.1).v (hr.l X S _ g h.2))
    · cases h
  ln := fun S es h hn ρ cs ds cs' q => by
    have h : (match (generalizing := false) es with
      | a' :: r' => (ck G a).e S a' && !isStar a' && (ck G r).l S r'
      | _ => false) = true := h
    split at h
    · simp only [Bool.and_eq_true, Bool.not_eq_true'] at h
      exact as_len (fun cs ds cs' q => hr.ln S _ h.2 (noStar_cons hn).2 ρ cs ds cs' q) q
    · cases h
  l0 := fun S h ρ cs => nomatch h
  aL := fun X S es pos g q => nomatch q
  oL := fun X S es pos g q => nomatch q
  f := fun X S es g h => by
    have h : (match (generalizing := false) es with
      | a' :: r' => (ck G a).e S a' && (ck G r).f S r'
      | _ => false) = true := h
    split at h
    · simp only [Bool.and_eq_true] at h
      exact fj_cons (ha.e X S _ g h.1).v (hr.f X S _ g h.2)
    · cases h
  o := fun X S oe g h => nomatch h
  c := fun X S es g h => nomatch h
  it := fun X S tg a g q => nomatch q
  k := fun X S ks g h => by
    have h : (match (generalizing := false) ks with
      | ⟨some _, a', _⟩ :: r' => (ck G a).e S a' && (ck G r).k S r'
      | _ => false) = true := h
    split at h
    · simp only [Bool.and_eq_true] at h
      exact d_pkCons (ha.e X S _ g h.1).v (hr.k X S _ g h.2)
    · cases h
  kn := fun S ks h ρ cs ds cs' q => by
    have h : (match (generalizing := false) ks with
      | ⟨some _, a', _⟩ :: r' => (ck G a).e S a' && (ck G r).k S r'
      | _ => false) = true := h
    split at h
    · simp only [Bool.and_eq_true] at h
      exact as_len (fun cs ds cs' q => hr.kn S _ h.2 ρ cs ds cs' q) q
    · cases h
theorem sn_star {a r : Ex} (ha : SE T O nm G a) (hr : SE T O nm G r) : SE T O nm G (.star a r) where
  e := fun X S a g q => nomatch q
  l := fun X S es g h => by
    have h : (match (generalizing := false) es with
      | .Starred a' _ :: r' => (ck G a).e S a' && (ck G r).l S r'
      | _ => false) = true := h
    split at h
    · simp only [Bool.and_eq_true] at h
      exact d_star (ha.e X S _ g h.1).b (hr.l X S _ g h.2)
    · cases h
  lb := fun X S es g h hn => by
    have h : (match (generalizing := false) es with
      | .Starred a' _ :: r' => (ck G a).e S a' && (ck G r).l S r'
      | _ => false) = true := h
    split at h
    · exact absurd (noStar_cons hn).1 (by simp [isStar])
    · cases h
  ac := fun X S es g h hc => by
    have h : (match (generalizing := false) es with
      | .Starred a' _ :: r' => (ck G a).e S a' && (ck G r).l S r'
      | _ => false) = true := h
    split at h
    · rename_i a' p r' _
      simp only [Bool.and_eq_true] at h
      have hc : (!isStar (.Starred a' p) || r'.isEmpty) = true := hc
      have hc : r' = [] := by simpa [isStar] using hc
      subst hc
      have e : (den T O (.star a r)).as = fun ρ cs => ((den T O a).b ρ cs).bind fun x cs => (match seqOf x cs with
        | some ds => (Res.ok [] cs).bind fun xs cs => .ok (ds ++ xs) cs
        | none => .bad) := by
        funext ρ cs
        show (((den T O a).b ρ cs).bind fun x cs => (match seqOf x cs with
          | some ds => ((den T O r).as ρ cs).bind fun xs cs => .ok (ds ++ xs) cs
          | none => .bad)) = _
        refine bind_kk ?_
        funext x cs1
        rw [hr.l0 S h.2 ρ cs1]
      rw [e]
      exact AC.lone (ha.e X S _ g h.1).b
    · cases h
  ln := fun S es h hn ρ cs ds cs' q => by
    have h : (match (generalizing := false) es with
      | .Starred a' _ :: r' => (ck G a).e S a' && (ck G r).l S r'
      | _ => false) = true := h
    split at h
    · exact absurd (noStar_cons hn).1 (by simp [isStar])
    · cases h
  l0 := fun S h ρ cs => nomatch h
  aL := fun X S es pos g q => nomatch q
  oL := fun X S es pos g q => nomatch q
  f := fun X S es g h => nomatch h
  o := fun X S oe g h => nomatch h
  c := fun X S es g h => nomatch h
  it := fun X S tg a g q => nomatch q
  k := fun X S ks g h => nomatch h
  kn := fun S ks h => nomatch h
theorem sn_tup {as : Ex} (ha : SE T O nm G as) : SE T O nm G (.tup as) := snd_e (std_VB _ _) fun X S e g h => by
  split at h
  · exact .of rfl (d_tup (ha.l X S _ g h))
  · cases h
theorem sn_lst {as : Ex} (ha : SE T O nm G as) : SE T O nm G (.lst as) := snd_e (std_VB _ _) fun X S e g h => by
  split at h
  · exact .of rfl (d_lst (ha.l X S _ g h))
  · cases h
theorem sn_sub {a i : Ex} (ha : SE T O nm G a) (hi : SE T O nm G i) : SE T O nm G (.sub a i) := snd_e (std_VB _ _) fun X S e g h => by
  split at h
  · simp only [Bool.and_eq_true] at h
    exact .of rfl (d_sub g.ctx (ha.e X S _ g h.1.1).b (hi.e X S _ g h.1.2).v h.2)
  · cases h
theorem sn_slice {a lo hi : Ex} (ha : SE T O nm G a) (hl : SE T O nm G lo) (hh : SE T O nm G hi) : SE T O nm G (.slice a lo hi) := snd_e (std_VB _ _) fun X S e g h => by
  split at h
  · simp only [Bool.and_eq_true] at h
    exact .of rfl (d_slice (ha.e X S _ g h.1.1).b (hl.o X S _ g h.1.2) (hh.o X S _ g h.2))
  · cases h
theorem sn_rev {a : Ex} (ha : SE T O nm G a) : SE T O nm G (.rev a) := snd_e (std_VB _ _) fun X S e g h => by
  split at h
  · exact .of rfl (d_rev (ha.e X S _ g h).b)
  · cases h
theorem name_var {i : Nat} {X : Cx} {S : Sx} {a : Expr} (g : Good T O nm G X S) (h : (ck G (.var i)).e S a = true) : PE X a (tG X.K nm E0 (ARep X.K nm) fun ρ cs => ofRes cs (getA ρ i)) := by
  have h : (match (generalizing := false) a with
    | .Name x _ => G.N[i]? == some x && visC S x && !(x == ("__debug__" : Str)) && !(x == ("__classdict__" : Str))
    | _ => false) = true := h
  split at h
  · rename_i x p
    simp only [Bool.and_eq_true, beq_iff_eq, Bool.not_eq_true'] at h
    obtain ⟨⟨⟨h1, h2⟩, h3⟩, h4⟩ := h
    exact arep_var (pe_var (by rw [g.N]; exact h1) (vis_of g h2) h3 h4)
  · cases h
theorem sn_attr {a : Ex} (j : Nat) (ha : SE T O nm G a) : SE T O nm G (.attr a j) := snd_e (std_VB _ _) fun X S e g h => by
  split at h
  · rename_i a' f pos
    simp only [Bool.and_eq_true, beq_iff_eq] at h
    have hf := h.1.2
    rw [g.gok.at_] at hf
    have hb : PE X a' (tG X.K nm E0 (ARep X.K nm) (baseA a (den T O a).v)) := by
      cases a with
      | var i => exact name_var g h.1.1
      | _ => exact arep_of (ha.e X S _ g h.1.1).v
    exact .of rfl (d_attr g.ctx.top hf h.2 hb)
  · cases h
theorem sn_prop {a : Ex} (j : Nat) (ha : SE T O nm G a) : SE T O nm G (.prop a j) := snd_e (std_VB _ _) fun X S e g h => by
  split at h
  · simp only [Bool.and_eq_true, beq_iff_eq] at h
    have hf := h.1.2
    rw [g.gok.at_] at hf
    exact .of rfl (d_prop g.ctx hf h.2 (ha.e X S _ g h.1.1).v)
  · cases h
theorem sn_call (f : Nat) {as : Ex} (ha : SE T O nm G as) : SE T O nm G (.call f as) := snd_e (std_VB _ _) fun X S e g h => by
  split at h
  · simp only [Bool.and_eq_true, beq_iff_eq] at h
    obtain ⟨⟨⟨h1, h2⟩, h3⟩, h4⟩ := h
    obtain ⟨g1, g2⟩ := gl_of g h1
    obtain ⟨m1, m2⟩ := g.gok.fn _ _ h2
    exact .of rfl (d_call g.ctx g1 m1 m2 (ha.ac X S _ g h3 h4) g2)
  · cases h
theorem sn_new (c : Nat) {as : Ex} (ha : SE T O nm G as) : SE T O nm G (.new c as) := snd_e (std_VB _ _) fun X S e g h => by
  split at h
  · simp only [Bool.and_eq_true, beq_iff_eq] at h
    obtain ⟨⟨⟨⟨h1, h2⟩, h3⟩, h4⟩, h5⟩ := h
    obtain ⟨g1, g2⟩ := gl_of g h1
    have m1 := g.gok.cls _ _ h2
    rw [g.gok.tab] at h5
    have hki : ∃ k f, T.cls[c]? = some k ∧ k.init = some f := by
      cases hk : T.cls[c]? with
      | none => rw [hk] at h5; cases h5
      | some k =>
        rw [hk] at h5
        obtain ⟨f, hf⟩ := Option.isSome_iff_exists.mp h5
        exact ⟨k, f, rfl, hf⟩
    exact .of rfl (d_new g.ctx g1 m1 (ha.ac X S _ g h3 h4) g2 hki)
  · cases h
theorem callC_ns {es : List Expr} (h : noStarL es = true) : callC es = true := by
  cases es with
  | nil => rfl
  | cons e es =>
    show (!isStar e || es.isEmpty) = true
    rw [(noStar_cons h).1]
    rfl
theorem any_ns {es : List Expr} (h : noStarL es = true) : es.any isStar = false := by
  unfold noStarL at h
  simpa using h
theorem sn_meth (m : Nat) {o as : Ex} (ho : SE T O nm G o) (ha : SE T O nm G as) : SE T O nm G (.meth m o as) := snd_e (std_VB _ _) fun X S e g h => by
  split at h
  · simp only [Bool.and_eq_true, beq_iff_eq, decide_eq_true_eq] at h
    obtain ⟨⟨⟨⟨⟨⟨h1, h2⟩, h3⟩, h4⟩, h5⟩, h6⟩, h7⟩ := h
    rw [g.gok.mt] at h2
    exact .of rfl (d_meth g.ctx h2 h3 (any_ns h5) h6 (by rw [h7]; simp) (ho.e X S _ g h1).v (ha.ac X S _ g h4 (callC_ns h5)))
  · cases h
theorem mem_lk : ∀ {l : List (Nat × Nat)} {m f : Nat}, l.lookup m = some f → (m, f) ∈ l
  | [], _, _, h => by cases h
  | (a, b) :: l, m, f, h => by
    unfold List.lookup at h
    split at h
    · rename_i e
      rw [beq_iff_eq] at e
      cases h
      subst e
      exact List.mem_cons_self
    · exact List.mem_cons_of_mem _ (mem_lk h)
theorem sn_methk (m : Nat) (perm : List Nat) {o as kas : Ex} (ho : SE T O nm G o) (ha : SE T O nm G as) (hk : SE T O nm G kas) : SE T O nm G (.methk m o as kas perm) := snd_e (std_VB _ _) fun X S e g h => by
  split at h
  · rename_i o' ms apos es kws pos
    simp only [Bool.and_eq_true, beq_iff_eq, decide_eq_true_eq] at h
    obtain ⟨⟨⟨⟨⟨⟨⟨⟨h1, h2⟩, h3⟩, h4⟩, h5⟩, h6⟩, h7⟩, h8⟩, h9⟩ := h
    rw [g.gok.mt] at h2
    cases hn : kwNames kws with
    | none => rw [hn] at h9; cases h9
    | some ks =>
      rw [hn] at h9
      have h9 : (G.T.cls.all fun k => k.meths.all fun p => p.1 != m || G.kw p.2 (es.length + 1) ks (permS perm)) = true := h9
      rw [g.gok.tab, g.gok.kw] at h9
      have hl := (kwNames_all pos X.env hn).2.2.2
      refine .of rfl (d_methk (n := es.length) g.ctx h2 h3 (any_ns h5) h7 (by rw [h8]; simp) (fun e => ?_) hn (ha.ln S es h4 h5) (fun ρ cs ds cs' q => by rw [← hl]; exact hk.kn S kws h6 ρ cs ds cs' q) (fun c f hm => ?_) (ho.e X S _ g h1).v (ha.l X S _ g h4) (hk.k X S _ g h6))
      · subst e
        exact ha.l0 S h4
      · unfold methOf at hm
        cases hc : T.cls[c]? with
        | none => rw [hc] at hm; cases hm
        | some k =>
          rw [hc] at hm
          have hm : k.meths.lookup m = some f := hm
          have z := List.all_eq_true.mp h9 k (List.mem_of_getElem? hc)
          have z := List.all_eq_true.mp z (m, f) (mem_lk hm)
          simpa using z
  · cases h
end
end Dv
end
section
set_option Elab.async false
set_option linter.all false
set_option maxRecDepth 100000
set_option maxHeartbeats 4000000
namespace Dv
open PySem PySem.Spec PyProof.Rows L2
section
variable {T : Tab} {O : Orc} {nm : Nm} {G : Gi}
/-! ### built-in functions -/
theorem d_bs {X : Cx} {e : Expr} {b : Blt} {fs : Env → Cells → Res (List D)} (h : PE X e (tCB (rB T O X nm E0 b) (tBs X.K nm E0 fs))) : PE X e (tV X.K nm E0 fun ρ cs => (fs ρ cs).bind fun ds cs => bltD T O b ds cs) := h.imp fun σ H Q q => by
  obtain ⟨g, ρ, cs, en, c, p⟩ := q
  refine ⟨g, ρ, cs, en, c, (Post.bind (R := BReps X.K nm) p).imp ?_⟩
  rintro x H1 ⟨dx, g1, cs1, e1, c1, r1, p1⟩
  exact ⟨g1, cs1, dx, c1, r1, p1⟩
theorem blt_fn {X : Cx} {x : Str} {id : String} {b : Blt} {a : Expr} {es : List Expr} {p pos : Pos} {fs : Env → Cells → Res (List D)} (hc : CallR X (.builtin id) (rB T O X nm E0 b)) (hg : Gl X x) (hm : X.mg x = none) (hv : bootBuiltins x = some (.builtin id)) (hn : x ≠ "__name__") (hd : (x == ("__debug__" : Str)) = false)
    (ha : PA X (a :: es) (tBs X.K nm E0 fs)) (hs : noStarL (a :: es) = true) : PE X (.Call (.Name x p) (a :: es) [] pos) (tV X.K nm E0 fun ρ cs => (fs ρ cs).bind fun ds cs => bltD T O b ds cs) :=
  d_bs (pe_callB hc hg hm hv ha hn hd (star_not (isStar_not (noStar_cons hs).1)) (by rw [any_star]; exact any_ns (noStar_cons hs).2))
theorem blt_ty {X : Cx} {x : Str} {id : String} {b : Blt} {a : Expr} {es : List Expr} {p pos : Pos} {fs : Env → Cells → Res (List D)} (hc : CallR X (.type id) (rB T O X nm E0 b)) (hg : Gl X x) (hm : X.mg x = none) (hv : bootBuiltins x = some (.type id)) (hn : x ≠ "__name__") (hd : (x == ("__debug__" : Str)) = false)
    (ha : PA X (a :: es) (tBs X.K nm E0 fs)) (hs : noStarL (a :: es) = true) : PE X (.Call (.Name x p) (a :: es) [] pos) (tV X.K nm E0 fun ρ cs => (fs ρ cs).bind fun ds cs => bltD T O b ds cs) :=
  d_bs (pe_callTy hc hg hm hv ha hn hd (star_not (isStar_not (noStar_cons hs).1)) (by rw [any_star]; exact any_ns (noStar_cons hs).2))
theorem sn_blt (b : Blt) {as : Ex} (ha : SE T O nm G as) : SE T O nm G (.blt b as) := snd_e (std_VB _ _) fun X S e g h => by
  split at h
  · simp only [Bool.and_eq_true, beq_iff_eq] at h
    obtain ⟨⟨⟨⟨⟨h0, h1⟩, h2⟩, h3⟩, h4⟩, h5⟩ := h
    subst h2
    obtain ⟨g1, g2⟩ := gl_of g h1
    have m1 := g.gok.blt _ h3
    have hA := ha.lb X S _ g h4 h5
    have C := g.ctx
    cases b with
    | len => exact .of rfl (blt_fn (b_len C) g1 m1 (by kernel_rfl) (by decide) g2 hA h5)
    | int => exact .of rfl (blt_ty (b_int C) g1 m1 (by kernel_rfl) (by decide) g2 hA h5)
    | bool => cases h0
    | str => exact .of rfl (blt_ty (b_str C) g1 m1 (by kernel_rfl) (by decide) g2 hA h5)
    | sum => exact .of rfl (blt_fn (b_sum C) g1 m1 (by kernel_rfl) (by decide) g2 hA h5)
    | all => exact .of rfl (blt_fn (b_all C) g1 m1 (by kernel_rfl) (by decide) g2 hA h5)
    | any => exact .of rfl (blt_fn (b_any C) g1 m1 (by kernel_rfl) (by decide) g2 hA h5)
    | abs => exact .of rfl (blt_fn (b_abs C) g1 m1 (by kernel_rfl) (by decide) g2 hA h5)
    | tuple => exact .of rfl (blt_ty (b_tuple C) g1 m1 (by kernel_rfl) (by decide) g2 hA h5)
    | list => exact .of rfl (blt_ty (b_list C) g1 m1 (by kernel_rfl) (by decide) g2 hA h5)
    | sorted => exact .of rfl (blt_fn (b_sorted C) g1 m1 (by kernel_rfl) (by decide) g2 hA h5)
    | max => exact .of rfl (blt_fn (b_max C) g1 m1 (by kernel_rfl) (by decide) g2 hA h5)
    | min => exact .of rfl (blt_fn (b_min C) g1 m1 (by kernel_rfl) (by decide) g2 hA h5)
    | max2 => exact .of rfl (blt_fn (b_max2 C) g1 m1 (by kernel_rfl) (by decide) g2 hA h5)
    | min2 => exact .of rfl (blt_fn (b_min2 C) g1 m1 (by kernel_rfl) (by decide) g2 hA h5)
  · cases h
/-! ### isinstance -/
theorem ty_of {X : Cx} {S : Sx} (g : Good T O nm G X S) {t : Ty} {e : Expr} (h : tyC G S t e = true) : PE X e (tC (tyVV nm t)) ∧ isStar e = false := by
  unfold tyC at h
  split at h
  · rw [Bool.and_eq_true] at h
    obtain ⟨g1, g2⟩ := gl_of g h.1
    refine ⟨?_, rfl⟩
    have h2 := h.2
    cases t with
    | int =>
      simp only [Bool.and_eq_true, beq_iff_eq] at h2
      obtain ⟨rfl, h2⟩ := h2
      exact pe_bltn g1 (g.gok.blt _ h2) (by kernel_rfl) rfl (by decide) g2
    | bool =>
      simp only [Bool.and_eq_true, beq_iff_eq] at h2
      obtain ⟨rfl, h2⟩ := h2
      exact pe_bltn g1 (g.gok.blt _ h2) (by kernel_rfl) rfl (by decide) g2
    | str =>
      simp only [Bool.and_eq_true, beq_iff_eq] at h2
      obtain ⟨rfl, h2⟩ := h2
      exact pe_bltn g1 (g.gok.blt _ h2) (by kernel_rfl) rfl (by decide) g2
    | list =>
      simp only [Bool.and_eq_true, beq_iff_eq] at h2
      obtain ⟨rfl, h2⟩ := h2
      exact pe_bltn g1 (g.gok.blt _ h2) (by kernel_rfl) rfl (by decide) g2
    | tuple =>
      simp only [Bool.and_eq_true, beq_iff_eq] at h2
      obtain ⟨rfl, h2⟩ := h2
      exact pe_bltn g1 (g.gok.blt _ h2) (by kernel_rfl) rfl (by decide) g2
    | dict =>
      simp only [Bool.and_eq_true, beq_iff_eq] at h2
      obtain ⟨rfl, h2⟩ := h2
      exact pe_bltn g1 (g.gok.blt _ h2) (by kernel_rfl) rfl (by decide) g2
    | cls c =>
      have h2 : (G.glo _ == some (.cls c)) = true := h2
      rw [beq_iff_eq] at h2
      exact pe_glob g1 (g.gok.cls _ _ h2) rfl g2
  · cases h
theorem tys_of {X : Cx} {S : Sx} (g : Good T O nm G X S) : ∀ {ts : List Ty} {es : List Expr}, tysC G S ts es = true → PA X es (fun _ H Q => Q (ts.map (tyVV nm)) H) ∧ ts.length = es.length
  | [], [], _ => ⟨⟨fun _ _ _ _ H Q I h => Calls.spliced_nil ⟨[], H, I, .nil, h⟩⟩, rfl⟩
  | [], _ :: _, h => by simp [tysC] at h
  | _ :: _, [], h => by simp [tysC] at h
  | t :: ts, e :: es, h => by
    simp only [tysC, Bool.and_eq_true] at h
    obtain ⟨h1, h2⟩ := ty_of g h.1
    obtain ⟨h3, h4⟩ := tys_of g h.2
    exact ⟨(pa_cons h1 h3 (star_not (isStar_not h2))).imp fun σ H Q q => q, by simp [h4]⟩
theorem sn_isi (ts : List Ty) {a : Ex} (ha : SE T O nm G a) : SE T O nm G (.isi a ts) := snd_e (std_VB _ _) fun X S e g h => by
  split at h
  · rename_i x p a' c' pos
    simp only [Bool.and_eq_true, beq_iff_eq, Bool.not_eq_true'] at h
    obtain ⟨⟨⟨⟨⟨h1, h2⟩, h3⟩, h4⟩, h5⟩, h6⟩ := h
    subst h2
    obtain ⟨g1, g2⟩ := gl_of g h1
    have m1 := g.gok.blt _ h3
    split at h6
    · rw [Bool.and_eq_true, decide_eq_true_eq] at h6
      obtain ⟨q1, q2⟩ := tys_of g h6.2
      have hz : ts.length ≤ sizeLine := by rw [sizeLine_eq]; omega
      exact .of rfl (d_isiT g.ctx.top g1 m1 h5 (ha.e X S _ g h4).v hz q1)
    · obtain ⟨q1, q2⟩ := ty_of g h6
      exact .of rfl (d_isi1 g.ctx.top g1 m1 h5 (ha.e X S _ g h4).v q2 q1)
    · cases h6
  · cases h
/-! ### texts -/
theorem sn_fmt {a : Ex} (ha : SE T O nm G a) : SE T O nm G (.fmt a) := snd_e (std_VB _ _) fun X S e g h => by
  split at h
  · exact .of rfl (d_fmt (ha.e X S _ g h).v)
  · exact .of rfl (d_fstr1 (d_fmt (ha.e X S _ g h).v))
  · cases h
theorem sn_fstr {as : Ex} (ha : SE T O nm G as) : SE T O nm G (.fstr as) := snd_e (std_VB _ _) fun X S e g h => by
  split at h
  · exact .of rfl (d_fstr (ha.f X S _ g h))
  · cases h
theorem sn_split {a b : Ex} (ha : SE T O nm G a) (hb : SE T O nm G b) : SE T O nm G (.split a b) := snd_e (std_VB _ _) fun X S e g h => by
  split at h
  · simp only [Bool.and_eq_true, beq_iff_eq, Bool.not_eq_true'] at h
    obtain ⟨⟨⟨⟨⟨rfl, h2⟩, h3⟩, h4⟩, h5⟩, h6⟩ := h
    exact .of rfl (d_split (ha.e X S _ g h2).v (hb.e X S _ g h3).v h4 h5 (by rw [h6]; simp))
  · cases h
theorem sn_join {a b : Ex} (ha : SE T O nm G a) (hb : SE T O nm G b) : SE T O nm G (.join a b) := snd_e (std_VB _ _) fun X S e g h => by
  split at h
  · simp only [Bool.and_eq_true, beq_iff_eq, Bool.not_eq_true'] at h
    obtain ⟨⟨⟨⟨⟨rfl, h2⟩, h3⟩, h4⟩, h5⟩, h6⟩ := h
    exact .of rfl (d_join (ha.e X S _ g h2).v (hb.e X S _ g h3).b h4 h5 (by rw [h6]; simp))
  · cases h
/-! ### comprehensions, what is walked -/
theorem blk_kind {N : List Str} {sc scope : Scope} {own : List (Str × Nat)} (h : blkC N sc scope own = true) : scope.kind = .function := (blkOk_by h).kind
theorem sn_comp (tg : List Nat) (one : Bool) {elt src cond : Ex} (h1 : SE T O nm G elt) (h2 : SE T O nm G src) (h3 : SE T O nm G cond) : SE T O nm G (.comp elt tg one src cond) := snd_e (std_VB _ _) fun X S e g h => by
  split at h
  · simp only [Bool.and_eq_true, decide_eq_true_eq] at h
    obtain ⟨⟨⟨⟨⟨q1, q2⟩, q3⟩, q4⟩, q5⟩, q6⟩ := h
    obtain ⟨i1, i2⟩ := h2.it X S _ _ g q1
    have hk := blk_kind q2
    rw [← g.N, ← g.sc] at q2
    exact .of rfl (d_comp g.ctx.calm g.ctx.nd i1 (blkOk_by q2) q3 (fun s H C cl fp => tg_of (g.blk hk s H C cl fp) q4) (fun s H C cl fp => h3.c _ _ _ (g.blk hk s H C cl fp) q6) (fun s H C cl fp => (h1.e _ _ _ (g.blk hk s H C cl fp) q5).v) (notSet_of i2 _))
  · cases h
theorem sn_compO (tg : List Nat) (one : Bool) (i : Nat) {elt cond : Ex} (h1 : SE T O nm G elt) (h3 : SE T O nm G cond) : SE T O nm G (.compO elt tg one i cond) := snd_e (std_VB _ _) fun X S e g h => by
  split at h
  · simp only [Bool.and_eq_true, decide_eq_true_eq] at h
    obtain ⟨⟨⟨⟨⟨q1, q2⟩, q3⟩, q4⟩, q5⟩, q6⟩ := h
    split at q1
    · simp only [Bool.and_eq_true, beq_iff_eq, Bool.not_eq_true'] at q1
      obtain ⟨⟨⟨k1, k2⟩, k3⟩, k4⟩ := q1
      have hk := blk_kind q2
      rw [← g.N, ← g.sc] at q2
      exact .of rfl (d_compO g.ctx.calm g.ctx.nd (si_own (pe_var (by rw [g.N]; exact k1) (vis_of g k2) k3 k4)) (blkOk_by q2) q3 (fun s H C cl fp => tg_of (g.blk hk s H C cl fp) q4) (fun s H C cl fp => h3.c _ _ _ (g.blk hk s H C cl fp) q6) (fun s H C cl fp => (h1.e _ _ _ (g.blk hk s H C cl fp) q5).v) (notSet_of rfl _))
    · cases q1
  · cases h
theorem snd_it {n : Den} {f : Sx → Expr → Expr → Bool} (h : ∀ X S tg a, Good T O nm G X S → f S tg a = true → PI X tg a (tI X.K nm E0 n.it) ∧ notSet a = true) : Snd T O nm G n { ckN with it := f } := { snd_none with it := h }
theorem sn_cval (c j : Nat) : SE T O nm G (.cval c j) := snd_e (std_VB _ _) fun X S e g h => by
  split at h
  · simp only [Bool.and_eq_true, beq_iff_eq] at h
    obtain ⟨⟨h1, h2⟩, h3⟩ := h
    obtain ⟨g1, g2⟩ := gl_of g h1
    rw [g.gok.at_] at h3
    exact .of rfl (d_cval g.ctx (pe_glob g1 (g.gok.cls _ _ h2) rfl g2) h3)
  · cases h
theorem sn_cmeth (c m : Nat) {as : Ex} (ha : SE T O nm G as) : SE T O nm G (.cmeth c m as) := snd_e (std_VB _ _) fun X S e g h => by
  split at h
  · simp only [Bool.and_eq_true, beq_iff_eq, decide_eq_true_eq] at h
    obtain ⟨⟨⟨⟨⟨⟨⟨h1, h2⟩, h3⟩, h4⟩, h5⟩, h6⟩, h7⟩, h8⟩ := h
    obtain ⟨g1, g2⟩ := gl_of g h1
    rw [g.gok.mt] at h3
    rw [g.gok.tab] at h8
    cases hk : T.cls[c]? with
    | none => rw [hk] at h8; cases h8
    | some k =>
      rw [hk] at h8
      obtain ⟨f, hf⟩ := Option.isSome_iff_exists.mp h8
      exact .of rfl (d_cmeth g.ctx (pe_glob g1 (g.gok.cls _ _ h2) rfl g2) h3 hk hf (any_ns h5) h6 (by rw [h7]; simp) (ha.l X S _ g h4))
  · cases h
theorem sn_isb (neg b : Bool) {a : Ex} (ha : SE T O nm G a) : SE T O nm G (.isb neg a b) := snd_e (std_VB _ _) fun X S e g h => by
  split at h
  · simp only [Bool.and_eq_true, beq_iff_eq] at h
    obtain ⟨⟨h1, rfl⟩, h3⟩ := h
    split at h3
    · cases neg with
      | true => cases h3
      | false => exact d_isB false b (ha.e X S _ g h1)
    · cases neg with
      | false => cases h3
      | true => exact d_isB true b (ha.e X S _ g h1)
    · cases h3
  · cases h
theorem sn_callv (i : Nat) {as : Ex} (ha : SE T O nm G as) : SE T O nm G (.callv i as) := snd_e (std_VB _ _) fun X S e g h => by
  split at h
  · simp only [Bool.and_eq_true, beq_iff_eq, Bool.not_eq_true'] at h
    obtain ⟨⟨⟨⟨⟨k1, k2⟩, k3⟩, k4⟩, h3⟩, h4⟩ := h
    exact .of rfl (d_callv g.ctx (by rw [g.N]; exact k1) (vis_of g k2) k3 k4 (any_ns h4) (ha.l X S _ g h3))
  · cases h
theorem sn_newv (i : Nat) {as : Ex} (ha : SE T O nm G as) : SE T O nm G (.newv i as) := snd_e (std_VB _ _) fun X S e g h => by
  split at h
  · simp only [Bool.and_eq_true, beq_iff_eq, Bool.not_eq_true'] at h
    obtain ⟨⟨⟨⟨⟨k1, k2⟩, k3⟩, k4⟩, h3⟩, h4⟩ := h
    exact .of rfl (d_newv g.ctx (by rw [g.N]; exact k1) (vis_of g k2) k3 k4 (ha.ac X S _ g h3 h4))
  · cases h
theorem sn_dkeys (j : Nat) {src : Ex} (h2 : SE T O nm G src) : SE T O nm G (.dkeys j src) := snd_it fun X S tg e g h => by
  split at h
  · rename_i x p _ _ tg' iter scope _
    simp only [Bool.and_eq_true, decide_eq_true_eq, beq_iff_eq, Bool.not_eq_true'] at h
    obtain ⟨⟨⟨⟨q1, q2⟩, q3⟩, q4⟩, ⟨⟨k1, k2⟩, k3⟩, k4⟩ := h
    obtain ⟨i1, i2⟩ := h2.it X S _ _ g q1
    have hk := blk_kind q2
    rw [← g.N, ← g.sc] at q2
    refine ⟨si_dkeys g.ctx.calm g.ctx.nd i1 (blkOk_by q2) q3 (fun s H C cl fp => tg_of (g.blk hk s H C cl fp) q4) (fun s H C cl fp => ?_) (fun s H C cl fp => d_c pe_bl fun _ _ => .bl _) (notSet_of i2 _), rfl⟩
    have gb := g.blk hk s H C cl fp
    exact d_var (pe_var (by rw [gb.N]; exact k1) (vis_of gb k2) k3 k4)
  · cases h
theorem sn_rng {a : Ex} (ha : SE T O nm G a) : SE T O nm G (.rng a) := snd_it fun X S tg e g h => by
  split at h
  · simp only [Bool.and_eq_true, beq_iff_eq, Bool.not_eq_true'] at h
    obtain ⟨⟨⟨⟨h1, rfl⟩, h3⟩, h4⟩, h5⟩ := h
    exact ⟨si_rng (gl_of g h1).1 (g.gok.blt _ h3) h5 (ha.e X S _ g h4).v, rfl⟩
  · cases h
theorem sn_rng2 {a b : Ex} (ha : SE T O nm G a) (hb : SE T O nm G b) : SE T O nm G (.rng2 a b) := snd_it fun X S tg e g h => by
  split at h
  · simp only [Bool.and_eq_true, beq_iff_eq, Bool.not_eq_true'] at h
    obtain ⟨⟨⟨⟨⟨⟨h1, rfl⟩, h3⟩, h4⟩, h5⟩, h6⟩, h7⟩ := h
    exact ⟨si_rng2 (gl_of g h1).1 (g.gok.blt _ h3) h5 h7 (ha.e X S _ g h4).v (hb.e X S _ g h6).v, rfl⟩
  · cases h
theorem sn_enum {a : Ex} (ha : SE T O nm G a) : SE T O nm G (.enum a) := snd_it fun X S tg e g h => by
  split at h
  · simp only [Bool.and_eq_true, beq_iff_eq, Bool.not_eq_true'] at h
    obtain ⟨⟨⟨⟨h1, rfl⟩, h3⟩, h4⟩, h5⟩ := h
    exact ⟨si_enum (gl_of g h1).1 (g.gok.blt _ h3) h5 (ha.e X S _ g h4).v, rfl⟩
  · cases h
theorem sn_zip {a b : Ex} (ha : SE T O nm G a) (hb : SE T O nm G b) : SE T O nm G (.zip a b) := snd_it fun X S tg e g h => by
  split at h
  · simp only [Bool.and_eq_true, beq_iff_eq, Bool.not_eq_true'] at h
    obtain ⟨⟨⟨⟨⟨⟨h1, rfl⟩, h3⟩, h4⟩, h5⟩, h6⟩, h7⟩ := h
    exact ⟨si_zip (gl_of g h1).1 (g.gok.blt _ h3) h5 h7 (ha.e X S _ g h4).v (hb.e X S _ g h6).v, rfl⟩
  · cases h
theorem sn_newk (c : Nat) (perm : List Nat) {as kas : Ex} (ha : SE T O nm G as) (hk : SE T O nm G kas) : SE T O nm G (.newk c as kas perm) := snd_e (std_VB _ _) fun X S e g h => by
  split at h
  · rename_i x p es kws pos
    simp only [Bool.and_eq_true, beq_iff_eq] at h
    obtain ⟨⟨⟨⟨⟨h1, h2⟩, h3⟩, h4⟩, h5⟩, h6⟩ := h
    obtain ⟨g1, g2⟩ := gl_of g h1
    cases hn : kwNames kws with
    | none => rw [hn] at h6; cases h6
    | some ks =>
      rw [hn] at h6
      rw [g.gok.tab, g.gok.kw] at h6
      cases hc : T.cls[c]? with
      | none => rw [hc] at h6; cases h6
      | some k' =>
        rw [hc] at h6
        have h6 : (match k'.init with
          | some f => nm.kw f (es.length + 1) ks (permS perm)
          | none => false) = true := h6
        cases hi : k'.init with
        | none => rw [hi] at h6; cases h6
        | some f =>
          rw [hi] at h6
          have hl := (kwNames_all pos X.env hn).2.2.2
          refine .of rfl (d_newk (n := es.length) g.ctx g1 (g.gok.cls _ _ h2) g2 (any_ns h4) (fun e => ?_) hn (ha.ln S es h3 h4) (fun ρ cs ds cs' q => by rw [← hl]; exact hk.kn S kws h5 ρ cs ds cs' q) hc hi h6 (ha.l X S _ g h3) (hk.k X S _ g h5))
          subst e
          exact ha.l0 S h3
  · cases h
theorem sn_dct : SE T O nm G .dct := snd_e (std_VB _ _) fun X S e g h => by
  split at h
  · exact .of rfl d_dct
  · cases h
theorem sn_walk {a : Ex} (ha : SE T O nm G a) : SE T O nm G (.walk a) := snd_it fun X S tg e g h => by
  simp only [Bool.and_eq_true] at h
  obtain ⟨n, hr, hI⟩ := g.itr h.1.1
  exact ⟨si_walk g.ctx hr C8.pass0 hI (ha.e X S _ g h.1.2).v, h.2⟩
theorem sn_dsub {a : Ex} (x : Str) (ha : SE T O nm G a) : SE T O nm G (.dsub a x) := snd_e (std_VB _ _) fun X S e g h => by
  split at h
  · simp only [Bool.and_eq_true, beq_iff_eq] at h
    obtain ⟨h1, h2⟩ := h
    subst h2
    exact .of rfl (d_dsub g.ctx (ha.e X S _ g h1).v)
  · cases h
theorem sn_dks {a : Ex} (ha : SE T O nm G a) : SE T O nm G (.dks a) := snd_it fun X S tg e g h => by
  simp only [Bool.and_eq_true] at h
  exact ⟨si_dks (ha.e X S _ g h.1).v, h.2⟩
theorem pps_of {X : Cx} {S : Sx} {a : Ex} {pos : Pos} (ha : SE T O nm G a) (g : Good T O nm G X S) : ∀ {kjs : List (Str × Nat)} {keys : List (Option Expr)} {values : List Expr}, dispC G (ck G a).e S kjs keys values = true →
    PPs X pos keys values (trsA T X.K nm E0 (baseA a (den T O a).v) kjs) ∧ keys.all (·.isSome) = true ∧ keys.length = values.length ∧ keys.length = kjs.length
  | [], [], [], _ => ⟨pps_nil, rfl, rfl, rfl⟩
  | (k, j) :: kjs, some (.Constant (.str y) _ _) :: ks, .Attribute a' f p2 :: vs, h => by
    simp only [dispC, Bool.and_eq_true, beq_iff_eq] at h
    obtain ⟨⟨⟨⟨h1, h2⟩, h3⟩, h4⟩, h5⟩ := h
    subst h1
    obtain ⟨i1, i2, i3, i4⟩ := pps_of (pos := pos) ha g h5
    have ha' : (ck G (.attr a j)).e S (.Attribute a' f p2) = true := by
      show ((ck G a).e S a' && G.at_ j == f && noSup a') = true
      simp [h2, h3, h4]
    have hv := ((sn_attr j ha).e X S _ g ha').v
    exact ⟨pps_cons pe_str hv i1, by simpa using i2, by simpa using i3, by simpa using i4⟩
  | [], [], _ :: _, h => by simp [dispC] at h
  | [], _ :: _, _, h => by simp [dispC] at h
  | _ :: _, [], _, h => by simp [dispC] at h
  | _ :: _, _ :: _, [], h => by simp [dispC] at h
  | (_, _) :: _, none :: _, _ :: _, h => by simp [dispC] at h
theorem sn_dctA {a st : Ex} (kjs : List (Str × Nat)) (ha : SE T O nm G a) (hs : SE T O nm G st) : SE T O nm G (.dctA a st kjs) := snd_e (std_VB _ _) fun X S e g h => by
  split at h
  · rename_i keys values pos
    split at h
    · rename_i ks b vs hk hv
      simp only [Bool.and_eq_true, decide_eq_true_eq] at h
      obtain ⟨⟨h1, h2⟩, h3⟩ := h
      obtain ⟨i1, i2, i3, i4⟩ := pps_of (pos := pos) ha g h1
      have ek : keys = ks.reverse ++ [none] := by rw [← List.reverse_reverse keys, hk, List.reverse_cons]
      have ev : values = vs.reverse ++ [b] := by rw [← List.reverse_reverse values, hv, List.reverse_cons]
      subst ek ev
      have h0 : ks.reverse ≠ [] := fun z => by rw [z] at i4; simp at i4; omega
      exact .of rfl (d_dctA i1 (hs.e X S _ g h2).v i2 i3 i4 h0 (by omega))
    · cases h
  · cases h
theorem sn_methw (m : Nat) (ks : List Str) {o as : Ex} (ho : SE T O nm G o) (ha : SE T O nm G as) : SE T O nm G (.methw m o ks as) := snd_e (std_VB _ _) fun X S e g h => by
  split at h
  · rename_i o' ms apos kws pos
    simp only [Bool.and_eq_true, beq_iff_eq, decide_eq_true_eq] at h
    obtain ⟨⟨⟨⟨⟨⟨h1, h2⟩, h3⟩, h4⟩, h5⟩, h6⟩, h7⟩ := h
    rw [g.gok.mt] at h2
    cases hn : kwNames kws with
    | none => rw [hn] at h7; cases h7
    | some ks' =>
      rw [hn] at h7
      have h7 : (ks' == ks && G.T.cls.all fun k => k.meths.all fun p => p.1 != m || G.kw p.2 1 ks [kwM]) = true := h7
      rw [Bool.and_eq_true, beq_iff_eq] at h7
      obtain ⟨e1, h8⟩ := h7
      subst e1
      rw [g.gok.tab, g.gok.kw] at h8
      obtain ⟨nn, hr, hW⟩ := g.kwf
      refine .of rfl (d_methw g.ctx hr C8.pass0 (fun c f hm => hW f 1 ks' ?_) h2 h3 h5 (by rw [h6]; simp) hn (ho.e X S _ g h1).v (ha.k X S _ g h4))
      unfold methOf at hm
      cases hc : T.cls[c]? with
      | none => rw [hc] at hm; cases hm
      | some k =>
        rw [hc] at hm
        have hm : k.meths.lookup m = some f := hm
        have z := List.all_eq_true.mp h8 k (List.mem_of_getElem? hc)
        have z := List.all_eq_true.mp z (m, f) (mem_lk hm)
        simpa using z
  · cases h
/-- THE LOOK IS RIGHT: expressions -/
theorem snd : ∀ e : Ex, SE T O nm G e
  | .var i => sn_var i
  | .int i => sn_int i
  | .str x => sn_str x
  | .bl b => sn_bl b
  | .non => sn_non
  | .glob j => sn_glob j
  | .bin op a b => sn_bin op (snd a) (snd b)
  | .neg a => sn_neg (snd a)
  | .not a => sn_not (snd a)
  | .inv a => sn_inv (snd a)
  | .and a b => sn_and (snd a) (snd b)
  | .or a b => sn_or (snd a) (snd b)
  | .cmp op a b => sn_cmp op (snd a) (snd b)
  | .cmpB op a b => sn_cmpB op (snd a) (snd b)
  | .chain o p a b c => sn_chain o p (snd a) (snd b) (snd c)
  | .isn a => sn_isn (snd a)
  | .notn a => sn_notn (snd a)
  | .ifx c a b => sn_ifx (snd c) (snd a) (snd b)
  | .nil => sn_nil
  | .cons a r => sn_cons (snd a) (snd r)
  | .star a r => sn_star (snd a) (snd r)
  | .tup as => sn_tup (snd as)
  | .lst as => sn_lst (snd as)
  | .sub a i => sn_sub (snd a) (snd i)
  | .slice a lo hi => sn_slice (snd a) (snd lo) (snd hi)
  | .rev a => sn_rev (snd a)
  | .attr a j => sn_attr j (snd a)
  | .prop a j => sn_prop j (snd a)
  | .call f as => sn_call f (snd as)
  | .callk f as kas perm => snd_none
  | .new c as => sn_new c (snd as)
  | .newk c as kas perm => sn_newk c perm (snd as) (snd kas)
  | .dct => sn_dct
  | .walk a => sn_walk (snd a)
  | .dsub a x => sn_dsub x (snd a)
  | .dks a => sn_dks (snd a)
  | .dctA a st kjs => sn_dctA kjs (snd a) (snd st)
  | .methw m o ks as => sn_methw m ks (snd o) (snd as)
  | .meth m o as => sn_meth m (snd o) (snd as)
  | .methk m o as kas perm => sn_methk m perm (snd o) (snd as) (snd kas)
  | .blt b as => sn_blt b (snd as)
  | .isi a ts => sn_isi ts (snd a)
  | .fstr as => sn_fstr (snd as)
  | .fmt a => sn_fmt (snd a)
  | .split a b => sn_split (snd a) (snd b)
  | .join a b => sn_join (snd a) (snd b)
  | .comp elt tg one src cond => sn_comp tg one (snd elt) (snd src) (snd cond)
  | .compO elt tg one i cond => sn_compO tg one i (snd elt) (snd cond)
  | .isb neg a b => sn_isb neg b (snd a)
  | .callv i as => sn_callv i (snd as)
  | .cval c j => sn_cval c j
  | .cmeth c m as => sn_cmeth c m (snd as)
  | .newv i as => sn_newv i (snd as)
  | .dkeys j a => sn_dkeys j (snd a)
  | .rng a => sn_rng (snd a)
  | .rng2 a b => sn_rng2 (snd a) (snd b)
  | .enum a => sn_enum (snd a)
  | .zip a b => sn_zip (snd a) (snd b)
end
end Dv
end
section
set_option Elab.async false
set_option linter.all false
set_option maxRecDepth 100000
set_option maxHeartbeats 4000000
namespace Dv
open PySem PySem.Spec PyProof.Rows L2
/-! ### the look at statements -/
structure CkS where
  s : Sx → List Stmt → Bool
  one : Sx → Stmt → Bool
def ckO (f : Sx → Stmt → Bool) : CkS := ⟨fun _ _ => false, f⟩
def isLc : Expr → Bool
  | .ListComp _ _ _ _ => true
  | _ => false
def notTup : Expr → Bool
  | .Tuple _ _ _ => false
  | _ => true
def parC (G : Gi) (S : Sx) (i j : Nat) (x y : Str) (px py : Pos) (a b : Expr) : Bool :=
  G.N[i]? == some x && G.N[j]? == some y && !(i == j) && !(x == y) && S.sc.names.lookup x == some .local && S.sc.names.lookup y == some .local && px.line == py.line && !isStar a && !isStar b && !(foldedForSure 8 a && foldedForSure 8 b) && !(constantsAlone 8 a && constantsAlone 8 b)
def augOp : Bop → Option Operator
  | .add => some .Add
  | .sub => some .Sub
  | _ => none
def notCO : Ex → Bool
  | .compO _ _ _ _ _ => false
  | _ => true
def ckS (G : Gi) : Sm → CkS
  | .skip => ⟨fun _ ss => match ss with
      | [] => true
      | _ => false, fun _ st => match st with
      | .Pass _ => true
      | .Expr (.Constant (.str _) _ _) _ => true
      | _ => false⟩
  | .seq a b => ⟨fun S ss => match ss with
      | st :: r => (ckS G a).one S st && (ckS G b).s S r
      | _ => false, fun _ _ => false⟩
  | .frz _ b => ⟨fun S ss => (ckS G b).s S ss, fun _ _ => false⟩
  | .set i e => ckO fun S st => match st with
      | .Assign [.Name x _] v _ => locC G S i x && (ck G e).e S v && (notComp v || isLc v && notCO e)
      | _ => false
  | .own i as => ckO fun S st => match st with
      | .Assign [.Name x _] (.List es _) _ => locC G S i x && (ck G as).l S es
      | _ => false
  | .setT is e => ckO fun S st => match st with
      | .Assign [.Tuple es k pt] v _ => tgC G S (.Tuple es k pt) is false && (ck G e).e S v && notComp v && notTup v
      | _ => false
  | .par is as => ckO fun S st => match is, st with
      | [i, j], .Assign [.Tuple [.Name x px, .Name y py] _ _] (.Tuple [a, b] _ _) _ => parC G S i j x y px py a b && (ck G as).l S [a, b]
      | _, _ => false
  | .setA i j e => ckO fun S st => match st with
      | .Assign [.Attribute (.Name x px) f _] v _ => (ck G (.var i)).e S (.Name x px) && G.at_ j == f && (ck G e).e S v
      | _ => false
  | .setI i k e => ckO fun S st => match st with
      | .Assign [.Subscript (.Name x px) k' _] v _ => (ck G (.var i)).e S (.Name x px) && (ck G k).e S k' && (ck G e).e S v && plainSl k'
      | _ => false
  | .aug i op e => ckO fun S st => match st with
      | .AugAssign (.Name x _) op' v _ => locC G S i x && augOp op == some op' && (ck G e).e S v
      | _ => false
  | .ex e => ckO fun S st => match st with
      | .Expr v _ => (ck G e).e S v && notComp v
      | _ => false
  | .app i e => ckO fun S st => match st with
      | .Expr (.Call (.Attribute (.Name x px) m apos) [v] [] cpos) _ => m == ("append" : Str) && (ck G (.var i)).e S (.Name x px) && (ck G e).e S v && !isStar v && apos.endLine == cpos.line
      | _ => false
  | .ext i e => ckO fun S st => match st with
      | .Expr (.Call (.Attribute (.Name x px) m apos) [v] [] cpos) _ => m == ("extend" : Str) && (ck G (.var i)).e S (.Name x px) && (ck G e).e S v && !isStar v && apos.endLine == cpos.line
      | _ => false
  | .ite c a b => ckO fun S st => match st with
      | .If c' as bs _ => (ck G c).e S c' && (ckS G a).s S as && (ckS G b).s S bs
      | _ => false
  | .for_ tg one src body => ckO fun S st => match st with
      | .For tg' iter bs [] _ => (ck G src).it S tg' iter && tgC G S tg' tg one && (ckS G body).s S bs
      | _ => false
  | .while_ c body => ckO fun S st => match st with
      | .While c' bs [] _ => (ck G c).e S c' && (ckS G body).s S bs
      | _ => false
  | .ret e => ckO fun S st => match st with
      | .Return (some v) _ => (ck G e).e S v
      | _ => false
  | .retC as => ckO fun S st => match st with
      | .Return (some (.List es _)) _ => (ck G as).l S es
      | _ => false
  | .brk => ckO fun _ st => match st with
      | .Break _ => true
      | _ => false
  | .cnt => ckO fun _ st => match st with
      | .Continue _ => true
      | _ => false
  | .never => ⟨fun _ _ => true, fun _ _ => true⟩
def GoodS (T : Tab) (O : Orc) (nm : Nm) (G : Gi) (X : Cx) (S : Sx) : Prop := Good T O nm G X S ∧ PassesOwn (model X.prog X.w) X.A X.env X.xe
structure SndS (T : Tab) (O : Orc) (nm : Nm) (G : Gi) (f : Env → Cells → Res Flw) (kk : CkS) : Prop where
  s : ∀ X S ss, GoodS T O nm G X S → kk.s S ss = true → PSs X ss (tS X.K nm E0 f)
  one : ∀ X S st, GoodS T O nm G X S → kk.one S st = true → PS X st (tS X.K nm E0 f)
section
variable {T : Tab} {O : Orc} {nm : Nm} {G : Gi}
abbrev SS (T : Tab) (O : Orc) (nm : Nm) (G : Gi) (m : Sm) : Prop := SndS T O nm G (fun ρ cs => sm T O m ρ cs) (ckS G m)
theorem snd_o {f : Env → Cells → Res Flw} {k : Sx → Stmt → Bool} (h : ∀ X S st, GoodS T O nm G X S → k S st = true → PS X st (tS X.K nm E0 f)) : SndS T O nm G f (ckO k) := { s := (fun X S ss g q => nomatch q), one := h }
theorem PS.skip {X : Cx} {st : Stmt} (h : PS X st tNext) : PS X st (tS X.K nm E0 fun ρ cs => .ok (.nx ρ) cs) := h.imp fun D σ H q => by
  obtain ⟨x0, g0, H0, g, ρ, cs, f, p⟩ := q
  exact PostS.nx p f
theorem ss_skip : SS T O nm G .skip where
  s := fun X S ss g h => by
    have h : (match (generalizing := false) ss with | [] => true | _ => false) = true := h
    split at h
    · exact s_nil
    · cases h
  one := fun X S st g h => by
    have h : (match (generalizing := false) st with
      | .Pass _ => true
      | .Expr (.Constant (.str _) _ _) _ => true
      | _ => false) = true := h
    split at h
    · exact PS.skip ps_pass
    · exact PS.skip ps_doc
    · cases h
theorem ss_seq {a b : Sm} (ha : SS T O nm G a) (hb : SS T O nm G b) : SS T O nm G (.seq a b) where
  s := fun X S ss g h => by
    have h : (match (generalizing := false) ss with
      | st :: r => (ckS G a).one S st && (ckS G b).s S r
      | _ => false) = true := h
    split at h
    · rw [Bool.and_eq_true] at h
      exact s_cons (ha.one X S _ g h.1) (hb.s X S _ g h.2)
    · cases h
  one := fun X S st g h => nomatch h
theorem ss_frz (i : Nat) {b : Sm} (hb : SS T O nm G b) : SS T O nm G (.frz i b) where
  s := fun X S ss g h => s_frz (hb.s X S ss g h)
  one := fun X S st g h => nomatch h
theorem ss_never : SS T O nm G .never where
  s := fun X S ss g h => s_nevers
  one := fun X S st g h => s_never
theorem notComp_sw {e : Expr} (h : notComp e = true) (t : Option Expr) (l : Nat) (env : PySem.Env) : swapsWith e t l env = pure false := by
  cases e <;> first | rfl | (exact absurd h (by simp [notComp]))
theorem sole_sw {t e : Expr} {l : Nat} {env : PySem.Env} (h : swapsWith e (some t) l env = pure false) : swapsWithSole [t] e l env = pure false := by
  unfold swapsWithSole
  exact h
theorem star_fun : (fun (e : Expr) => match e with | .Starred .. => true | _ => false) = isStar := by
  funext e
  cases e <;> rfl
theorem attr_sw (e a : Expr) (f : Str) (p : Pos) (l : Nat) (env : PySem.Env) : swapsWith e (some (.Attribute a f p)) l env = pure false := by
  cases e <;> rfl
theorem sub_sw (e a f : Expr) (p : Pos) (l : Nat) (env : PySem.Env) : swapsWith e (some (.Subscript a f p)) l env = pure false := by
  cases e <;> rfl
/-- what a plan of a comprehension says -/
theorem lc_comp {S : Sx} {e : Ex} {elt : Expr} {gs : List Comprehension} {scope : Scope} {p : Pos} (h : (ck G e).e S (.ListComp elt gs scope p) = true) (h0 : notCO e = true) : ∃ elt' tg one src cond, e = .comp elt' tg one src cond := by
  cases e with
  | comp elt' tg one src cond => exact ⟨_, _, _, _, _, rfl⟩
  | compO elt' tg one src cond => cases h0
  | _ => exact absurd h (by first | exact Bool.false_ne_true | (intro z; exact nomatch z))
theorem ss_set (i : Nat) (e : Ex) : SS T O nm G (.set i e) := snd_o fun X S st g h => by
  split at h
  · rename_i x px v pos
    simp only [Bool.and_eq_true, Bool.or_eq_true] at h
    obtain ⟨⟨h1, h2⟩, h3⟩ := h
    obtain ⟨l1, l2, l3⟩ := loc_of g.1 h1
    have he := ((snd e).e X S v g.1 h2).v
    rcases h3 with h3 | h3
    · exact s_set g.1.ctx.nd l1 l2 he (notComp_sw h3 _ _ _) l3
    · cases v with
      | ListComp elt gs scope p =>
        have sw : swapsWith (.ListComp elt gs scope p) (some (.Name x px)) pos.line X.env = pure (X.env.blockKind == .function && X.env.kindOf x == some .local && px.line == p.line && !(scope.names.any fun (n, k) => n == x && (k == .local || k == .cell))) := rfl
        cases hb : (X.env.blockKind == .function && X.env.kindOf x == some .local && px.line == p.line && !(scope.names.any fun (n, k) => n == x && (k == .local || k == .cell))) with
        | false =>
          rw [hb] at sw
          exact s_set g.1.ctx.nd l1 l2 he sw l3
        | true =>
          rw [hb] at sw
          simp only [Bool.and_eq_true, beq_iff_eq] at hb
          have hyl : X.env.scope.names.lookup x = some .local := hb.1.1.2
          obtain ⟨elt', tg, one, src, cond, rfl⟩ := lc_comp h2 h3.2
          have h2 : (match (generalizing := false) (Expr.ListComp elt gs scope p) with
            | .ListComp elt1 [⟨tg', iter, ifs, 0⟩] scope _ => (ck G src).it S tg' iter && blkC G.N S.sc scope (tgNames tg' tg) && decide ((tgNames tg' tg).map (·.2) = tg) && tgC G ⟨relS scope S.sc, fun x => scope.names.lookup x == some .cell⟩ tg' tg one &&
                (ck G elt').e ⟨relS scope S.sc, fun x => scope.names.lookup x == some .cell⟩ elt1 && (ck G cond).c ⟨relS scope S.sc, fun x => scope.names.lookup x == some .cell⟩ ifs
            | _ => false) = true := h2
          split at h2
          · rename_i eq
            cases eq
            simp only [Bool.and_eq_true, decide_eq_true_eq] at h2
            obtain ⟨⟨⟨⟨⟨q1, q2⟩, q3⟩, q4⟩, q5⟩, q6⟩ := h2
            obtain ⟨i1, i2⟩ := (snd src).it X S _ _ g.1 q1
            have hk := blk_kind q2
            have q2' := q2
            rw [← g.1.N, ← g.1.sc] at q2'
            exact s_setLc g.1.ctx.calm g.1.ctx.nd l1 hyl sw i1 (blkOk_by q2') q3 (fun s H C cl fp => tg_of (g.1.blk hk s H C cl fp) q4) (fun s H C cl fp => (snd cond).c _ _ _ (g.1.blk hk s H C cl fp) q6) (fun s H C cl fp => ((snd elt').e _ _ _ (g.1.blk hk s H C cl fp) q5).v) (notSet_of i2 _)
          · cases h2
      | _ => simp [isLc] at h3
  · cases h
theorem ss_own (i : Nat) (as : Ex) : SS T O nm G (.own i as) := snd_o fun X S st g h => by
  split at h
  · simp only [Bool.and_eq_true] at h
    obtain ⟨l1, l2, l3⟩ := loc_of g.1 h.1
    exact s_own g.1.ctx.nd l1 l2 ((snd as).l X S _ g.1 h.2) l3
  · cases h
theorem ss_setT (is : List Nat) (e : Ex) : SS T O nm G (.setT is e) := snd_o fun X S st g h => by
  split at h
  · rename_i es k pt v pos
    simp only [Bool.and_eq_true] at h
    obtain ⟨⟨⟨h1, h2⟩, h3⟩, h4⟩ := h
    refine s_setT ((snd e).e X S _ g.1 h2).v (tg_of g.1 h1) (sole_sw (notComp_sw h3 _ _ _)) ?_ rfl
    cases v <;> first | rfl | (exact absurd h4 (by simp [notTup]))
  · cases h
theorem ss_par (is : List Nat) (as : Ex) : SS T O nm G (.par is as) := snd_o fun X S st g h => by
  split at h
  · rename_i i j x px y py kt pt a b k2 pt2 pos
    rw [Bool.and_eq_true] at h
    obtain ⟨h1, h2⟩ := h
    unfold parC at h1
    simp only [Bool.and_eq_true, beq_iff_eq, Bool.not_eq_true', beq_eq_false_iff_ne] at h1
    obtain ⟨⟨⟨⟨⟨⟨⟨⟨⟨⟨q1, q2⟩, q3⟩, q4⟩, q5⟩, q6⟩, q7⟩, q8⟩, q9⟩, q10⟩, q11⟩ := h1
    have e5 : X.env.scope.names.lookup x = some .local := by rw [g.1.sc]; exact q5
    have e6 : X.env.scope.names.lookup y = some .local := by rw [g.1.sc]; exact q6
    have hi : X.N[i]? = some x := by rw [g.1.N]; exact q1
    have hj : X.N[j]? = some y := by rw [g.1.N]; exact q2
    have hA := (snd as).l X S _ g.1 h2
    have hk5 : X.env.kindOf x = some .local := e5
    have hk6 : X.env.kindOf y = some .local := e6
    have hbk : X.env.blockKind = .function := by
      unfold PySem.Env.blockKind
      rw [g.1.kind]
      rfl
    have hw : swappedStores [.Tuple [.Name x px, .Name y py] kt pt] (.Tuple [a, b] k2 pt2) X.env = pure (some [x, y]) := by
      have hxy : [x, y].eraseDups.length = 2 := by
        have : (y == x) = false := beq_eq_false_iff_ne.mpr (Ne.symm q4)
        simp [List.eraseDups_cons, this]
      have hv : ([a, b].any fun (e : Expr) => match e with | .Starred .. => true | _ => false) = false := by
        rw [star_fun]
        simp only [List.any_cons, List.any_nil, q8, q9, Bool.or_false]
      have hf : [a, b].all (foldedForSure 8) = false := by
        simpa using q10
      have hc : [a, b].all (constantsAlone 8) = false := by
        simpa using q11
      have hnm : ([Expr.Name x px, Expr.Name y py].filterMap fun
          | .Name id pos => if X.env.kindOf id == some .local && pos.line == px.line then some id else none
          | _ => none) = [x, y] := by
        simp [hk5, hk6, q7]
      show (if (!(([Expr.Name x px, Expr.Name y py].length == 2) || ([Expr.Name x px, Expr.Name y py].length == 3)) || [a, b].length != [Expr.Name x px, Expr.Name y py].length || X.env.blockKind != .function) = true then (pure none : Sem (Option (List Str))) else _) = _
      rw [hbk]
      show (if ([a, b].any fun | .Starred .. => true | _ => false) = true then (pure none : Sem (Option (List Str))) else _) = _
      rw [hv]
      show (let names := [Expr.Name x px, Expr.Name y py].filterMap fun
          | .Name id pos => if X.env.kindOf id == some .local && pos.line == px.line then some id else none
          | _ => none
        if (names.length != [Expr.Name x px, Expr.Name y py].length || names.eraseDups.length != names.length) = true then (pure none : Sem (Option (List Str))) else _) = _
      rw [hnm]
      show (if ([x, y].length != 2 || [x, y].eraseDups.length != 2) = true then (pure none : Sem (Option (List Str))) else _) = _
      rw [hxy]
      show (if [a, b].all (foldedForSure 8) = true then (pure none : Sem (Option (List Str))) else _) = _
      rw [hf]
      rw [if_neg Bool.false_ne_true, hc, if_neg Bool.false_ne_true]
      exact congrArg (fun l => (pure (some l) : Sem (Option (List Str)))) hnm
    exact s_par g.1.ctx.calm g.1.ctx.nd hi hj q3 (ps_par g.1.ctx.calm g.1.ctx.nd hi hj q3 e5 e6 hA hw rfl)
  · cases h
end
end Dv
end
section
set_option Elab.async false
set_option linter.all false
set_option maxRecDepth 100000
set_option maxHeartbeats 4000000
namespace Dv
open PySem PySem.Spec PyProof.Rows L2
section
variable {T : Tab} {O : Orc} {nm : Nm} {G : Gi}
theorem name_pe {i : Nat} {X : Cx} {S : Sx} {x : Str} {px : Pos} (g : Good T O nm G X S) (h : (ck G (.var i)).e S (.Name x px) = true) : PE X (.Name x px) (tVar i) := by
  have h : (G.N[i]? == some x && visC S x && !(x == ("__debug__" : Str)) && !(x == ("__classdict__" : Str))) = true := h
  simp only [Bool.and_eq_true, beq_iff_eq, Bool.not_eq_true'] at h
  obtain ⟨⟨⟨h1, h2⟩, h3⟩, h4⟩ := h
  exact pe_var (by rw [g.N]; exact h1) (vis_of g h2) h3 h4
theorem ss_setA (i j : Nat) (e : Ex) : SS T O nm G (.setA i j e) := snd_o fun X S st g h => by
  split at h
  · simp only [Bool.and_eq_true, beq_iff_eq] at h
    obtain ⟨⟨h1, h2⟩, h3⟩ := h
    rw [g.1.gok.at_] at h2
    exact s_setA g.1.ctx.top h2 (name_pe g.1 h1) ((snd e).e X S _ g.1 h3).v (attr_sw _ _ _ _ _ _)
  · cases h
theorem ss_setI (i : Nat) (k e : Ex) : SS T O nm G (.setI i k e) := snd_o fun X S st g h => by
  split at h
  · rename_i x px k' pos' v pos
    simp only [Bool.and_eq_true, beq_iff_eq] at h
    obtain ⟨⟨⟨h1, h2⟩, h3⟩, h4⟩ := h
    refine s_setI (name_pe g.1 h1) ((snd e).e X S _ g.1 h3).v ((snd k).e X S _ g.1 h2).v (sole_sw (sub_sw _ _ _ _ _ _)) ?_ rfl ?_
    · cases v <;> rfl
    · intro v
      cases k' <;> first | rfl | (exact absurd h4 (by simp [plainSl]))
  · cases h
theorem ss_aug (i : Nat) (op : Bop) (e : Ex) : SS T O nm G (.aug i op e) := snd_o fun X S st g h => by
  split at h
  · simp only [Bool.and_eq_true, beq_iff_eq] at h
    obtain ⟨⟨h1, h2⟩, h3⟩ := h
    obtain ⟨l1, l2, l3⟩ := loc_of g.1 h1
    cases op with
    | add =>
      cases h2
      exact s_aug (aug_add g.1.ctx) g.1.ctx.nd l1 l2 ((snd e).e X S _ g.1 h3).v l3
    | sub =>
      cases h2
      exact s_aug aug_sub g.1.ctx.nd l1 l2 ((snd e).e X S _ g.1 h3).v l3
    | _ => cases h2
  · cases h
theorem ss_ex (e : Ex) : SS T O nm G (.ex e) := snd_o fun X S st g h => by
  split at h
  · rw [Bool.and_eq_true] at h
    exact s_ex ((snd e).e X S _ g.1 h.1).v (notComp_sw h.2 _ _ _)
  · cases h
theorem ss_app (i : Nat) (e : Ex) : SS T O nm G (.app i e) := snd_o fun X S st g h => by
  split at h
  · simp only [Bool.and_eq_true, beq_iff_eq, Bool.not_eq_true'] at h
    obtain ⟨⟨⟨⟨rfl, h1⟩, h2⟩, h3⟩, h4⟩ := h
    exact s_app (name_pe g.1 h1) ((snd e).e X S _ g.1 h2).v h3 (by rw [h4]; simp)
  · cases h
theorem ss_ext (i : Nat) (e : Ex) : SS T O nm G (.ext i e) := snd_o fun X S st g h => by
  split at h
  · simp only [Bool.and_eq_true, beq_iff_eq, Bool.not_eq_true'] at h
    obtain ⟨⟨⟨⟨rfl, h1⟩, h2⟩, h3⟩, h4⟩ := h
    exact s_ext (name_pe g.1 h1) ((snd e).e X S _ g.1 h2).v h3 (by rw [h4]; simp)
  · cases h
theorem ss_ite (c : Ex) {a b : Sm} (ha : SS T O nm G a) (hb : SS T O nm G b) : SS T O nm G (.ite c a b) := snd_o fun X S st g h => by
  split at h
  · simp only [Bool.and_eq_true] at h
    exact s_ite ((snd c).e X S _ g.1 h.1.1).t (ha.s X S _ g h.1.2) (hb.s X S _ g h.2)
  · cases h
theorem ss_for (tg : List Nat) (one : Bool) (src : Ex) {b : Sm} (hb : SS T O nm G b) : SS T O nm G (.for_ tg one src b) := snd_o fun X S st g h => by
  split at h
  · simp only [Bool.and_eq_true] at h
    obtain ⟨⟨h1, h2⟩, h3⟩ := h
    obtain ⟨i1, i2⟩ := (snd src).it X S _ _ g.1 h1
    exact s_for g.2 g.1.ctx.calm i1 (tg_of g.1 h2) (hb.s X S _ g h3) (notSet_of i2 _)
  · cases h
theorem ss_while (c : Ex) {b : Sm} (hb : SS T O nm G b) : SS T O nm G (.while_ c b) := snd_o fun X S st g h => by
  split at h
  · simp only [Bool.and_eq_true] at h
    exact s_while g.2 ((snd c).e X S _ g.1 h.1).t (hb.s X S _ g h.2)
  · cases h
theorem ss_ret (e : Ex) : SS T O nm G (.ret e) := snd_o fun X S st g h => by
  split at h
  · exact s_ret ((snd e).e X S _ g.1 h).v
  · cases h
theorem ss_retC (as : Ex) : SS T O nm G (.retC as) := snd_o fun X S st g h => by
  split at h
  · exact s_retC ((snd as).l X S _ g.1 h)
  · cases h
theorem ss_brk : SS T O nm G .brk := snd_o fun X S st g h => by
  split at h
  · exact s_brk
  · cases h
theorem ss_cnt : SS T O nm G .cnt := snd_o fun X S st g h => by
  split at h
  · exact s_cnt
  · cases h
/-- THE LOOK IS RIGHT: statements -/
theorem sndS : ∀ m : Sm, SS T O nm G m
  | .skip => ss_skip
  | .seq a b => ss_seq (sndS a) (sndS b)
  | .frz i b => ss_frz i (sndS b)
  | .set i e => ss_set i e
  | .own i as => ss_own i as
  | .setT is e => ss_setT is e
  | .par is as => ss_par is as
  | .setA i j e => ss_setA i j e
  | .setI i k e => ss_setI i k e
  | .aug i op e => ss_aug i op e
  | .ex e => ss_ex e
  | .app i e => ss_app i e
  | .ext i e => ss_ext i e
  | .ite c a b => ss_ite c (sndS a) (sndS b)
  | .for_ tg one src b => ss_for tg one src (sndS b)
  | .while_ c b => ss_while c (sndS b)
  | .ret e => ss_ret e
  | .retC as => ss_retC as
  | .brk => ss_brk
  | .cnt => ss_cnt
  | .never => ss_never
end
end Dv
end
section
set_option Elab.async false
set_option linter.all false
set_option maxRecDepth 100000
set_option maxHeartbeats 4000000
namespace Dv
open PySem PySem.Spec PyProof.Rows L2
/-! ### defs -/
/-- a def as the text has it -/
structure FI where
  name : Str
  qual : Str
  params : Arguments
  body : List Stmt
  scope : Scope
  N : List Str
  ps : List Str
  dvs : List V
/-- the values of constants -/
def fvB : List D → List V → Bool
  | [], [] => true
  | .non :: ds, .non :: vs => fvB ds vs
  | .bl a :: ds, .bl b :: vs => a == b && fvB ds vs
  | .int a :: ds, .int b :: vs => a == b && fvB ds vs
  | .str a :: ds, .str b :: vs => a == b && fvB ds vs
  | _, _ => false
def chkF (G : Gi) (F : Fn) (I : FI) : Bool := C8.scC I.N I.ps I.scope && F.n == I.N.length && (I.ps.length == if F.star then F.np + 1 else F.np) && fvB F.dfl I.dvs && (!F.star || I.dvs.isEmpty) && (F.ini.isNone || 0 < F.np) && (ckS { G with N := I.N } F.body).s ⟨I.scope, fun _ => true⟩ I.body
abbrev fdOf (I : FI) (dV kV doc pm : Value) (an : Option Addr) (cdv ct : Value) : FuncData := PySem.W.fnOf I.name I.qual I.params I.body I.scope dV kV doc pm an cdv ct
structure FnB (nm : Nm) (f : Nat) (F : Fn) (I : FI) : Prop where
  pos : F.star = false → F.ini ≠ some kwM → I.dvs = [] → ∀ (kV doc pm : Value) (an : Option Addr) (cdv ct : Value) (us : List Value), us.length = I.ps.length → bindArgs (fdOf I .none kV doc pm an cdv ct) ⟨us, []⟩ = pure (I.ps.zip us)
  posD : I.dvs ≠ [] → ∀ (t : Addr) (kV doc pm : Value) (an : Option Addr) (cdv ct : Value) (us its : List Value), us.length = I.ps.length → its.length = I.dvs.length →
    ∃ k, bindArgs (fdOf I (.ref t) kV doc pm an cdv ct) ⟨us, []⟩ = seqItems? (.ref t) >>= k ∧ k (some its.toArray) = pure (I.ps.zip us)
  star : F.star = true → ∃ ps' pv, I.ps = ps' ++ [pv] ∧ ∀ (kV doc pm : Value) (an : Option Addr) (cdv ct : Value) (us rest : List Value), us.length = ps'.length → bindArgs (fdOf I .none kV doc pm an cdv ct) ⟨us ++ rest, []⟩ = (newTuple rest >>= fun t => pure (ps'.zip us ++ [(pv, t)]))
  kw : ∀ n ks perm, nm.kw f n ks perm = true → perm ≠ [kwM] → F.star = false ∧ (∀ (us ws its : List Value), us.length = n → ws.length = ks.length → its.length = I.dvs.length → ∃ ys, permD perm (us ++ ws ++ its) = some ys ∧ ys.length = I.ps.length ∧
    (I.dvs = [] → ∀ (kV doc pm : Value) (an : Option Addr) (cdv ct : Value), bindArgs (fdOf I .none kV doc pm an cdv ct) ⟨us, ks.zip ws⟩ = pure (I.ps.zip ys)) ∧
    (I.dvs ≠ [] → ∀ (t : Addr) (kV doc pm : Value) (an : Option Addr) (cdv ct : Value), ∃ k, bindArgs (fdOf I (.ref t) kV doc pm an cdv ct) ⟨us, ks.zip ws⟩ = seqItems? (.ref t) >>= k ∧ k (some its.toArray) = pure (I.ps.zip ys)))
  kwd : ∀ n ks, nm.kw f n ks [kwM] = true → F.ini = some kwM ∧ F.star = false ∧ I.dvs = [] ∧ ks.Nodup ∧ ks.length ≤ 100 ∧ ∃ ps' pd, I.ps = ps' ++ [pd] ∧ ps'.length = n ∧ ∀ (kV doc pm : Value) (an : Option Addr) (cdv ct : Value) (us ws : List Value), us.length = n → ws.length = ks.length →
    bindArgs (fdOf I .none kV doc pm an cdv ct) ⟨us, ks.zip ws⟩ = ((alloc ({ data := .dict #[], cls := .type "dict" } : Obj) : Sem Addr) >>= fun d => setsF d (ks.zip ws) (pure (ps'.zip us ++ [(pd, Value.ref d)])))
section
variable {K : PySem.W.Frag} {nm : Nm} {W : XK} {g g' g2 : Gh} {H H' H2 : Hp} {cs : Cells}
theorem fvB_ok : ∀ {ds : List D} {vs : List V}, fvB ds vs = true → Reps K nm g H ds vs
  | [], [], _ => .nil
  | [], _ :: _, h => by simp [fvB] at h
  | d :: ds, [], h => by cases d <;> simp [fvB] at h
  | d :: ds, v :: vs, h => by
    cases d with
    | non =>
      cases v with
      | non => exact .cons .non (fvB_ok (by simpa [fvB] using h))
      | _ => simp [fvB] at h
    | bl b =>
      cases v with
      | bl c =>
        simp only [fvB, Bool.and_eq_true, beq_iff_eq] at h
        rw [h.1]
        exact .cons (.bl _) (fvB_ok h.2)
      | _ => simp [fvB] at h
    | int b =>
      cases v with
      | int c =>
        simp only [fvB, Bool.and_eq_true, beq_iff_eq] at h
        rw [h.1]
        exact .cons (.int _) (fvB_ok h.2)
      | _ => simp [fvB] at h
    | str b =>
      cases v with
      | str c =>
        simp only [fvB, Bool.and_eq_true, beq_iff_eq] at h
        rw [h.1]
        exact .cons (.str _) (fvB_ok h.2)
      | _ => simp [fvB] at h
    | _ => simp [fvB] at h
theorem vals_perm : ∀ {perm : List Nat} {vs : List V} {us : List Value} {ys : List V} {zs : List Value}, Vals vs us → permD perm vs = some ys → permD perm us = some zs → Vals ys zs
  | [], _, _, ys, zs, r, h1, h2 => by
    simp [permD] at h1 h2
    subst h1 h2
    exact .nil
  | i :: p, vs, us, ys, zs, r, h1, h2 => by
    simp only [permD] at h1 h2
    cases e1 : vs[i]? with
    | none => rw [e1] at h1; cases h1
    | some v =>
      obtain ⟨u, hu, ru⟩ := r.get e1
      cases e3 : permD p vs with
      | none => rw [e1, e3] at h1; cases h1
      | some ys' =>
        cases e4 : permD p us with
        | none => rw [hu, e4] at h2; cases h2
        | some zs' =>
          rw [e1, e3] at h1
          rw [hu, e4] at h2
          cases h1
          cases h2
          exact .cons ru (vals_perm r e3 e4)
/-- a frame's slots as a call begins: the values, then nothing -/
theorem env_start {N : List Str} {ds : List D} {vs : List V} {n : Nat} (r : Reps K nm g H ds vs) (hn : N.length = n) (hl : ds.length ≤ n) : EnvOk K nm g H (L2.start N vs) (ds.map Slot.val ++ List.replicate (n - ds.length) .emp) := by
  have hlen := r.length
  refine ⟨?_, fun i s hs => ?_, fun i j d e v h1 => ?_⟩
  · unfold L2.start
    simp only [List.length_append, List.length_map, List.length_replicate]
    omega
  · rcases Nat.lt_or_ge i ds.length with q | q
    · rw [List.getElem?_append_left (by simpa using q), List.getElem?_map] at hs
      have hd : ds[i]? = some ds[i] := by simp [q]
      rw [hd] at hs
      cases hs
      obtain ⟨v, hv, rv⟩ := r.get hd
      refine ⟨v, ?_, rv⟩
      unfold L2.start
      rw [List.getElem?_append_left (by simp; omega), List.getElem?_map, hv]
      rfl
    · rw [List.getElem?_append_right (by simpa using q)] at hs
      have := (List.getElem?_eq_some_iff.mp hs)
      obtain ⟨h1, h2⟩ := this
      rw [List.getElem_replicate] at h2
      subst h2
      exact True.intro
  · exfalso
    rcases Nat.lt_or_ge i ds.length with q | q
    · rw [List.getElem?_append_left (by simpa using q), List.getElem?_map] at h1
      have hd : ds[i]? = some ds[i] := by simp [q]
      rw [hd] at h1
      cases h1
    · rw [List.getElem?_append_right (by simpa using q)] at h1
      obtain ⟨h1, h2⟩ := (List.getElem?_eq_some_iff.mp h1)
      rw [List.getElem_replicate] at h2
      cases h2
theorem no_own {ds : List D} {m : Nat} {i : Nat} {d : D} (h1 : (ds.map Slot.val ++ List.replicate m .emp)[i]? = some (.own d)) : False := by
  rcases Nat.lt_or_ge i ds.length with q | q
  · rw [List.getElem?_append_left (by simpa using q), List.getElem?_map] at h1
    have hd : ds[i]? = some ds[i] := by simp [q]
    rw [hd] at h1
    cases h1
  · rw [List.getElem?_append_right (by simpa using q)] at h1
    obtain ⟨h1, h2⟩ := (List.getElem?_eq_some_iff.mp h1)
    rw [List.getElem_replicate] at h2
    cases h2
/-- .. its first slot a thing of its own -/
theorem env_self {N : List Str} {ds : List D} {vs : List V} {n : Nat} {x : Addr} {d : D} (r : Reps K nm g H ds vs) (hn : N.length = n + 1) (hl : ds.length ≤ n) (ow : Own K nm g H d (.ref x)) :
    EnvOk K nm g H (L2.start N (.ref x :: vs)) (.own d :: (ds.map Slot.val ++ List.replicate (n - ds.length) .emp)) := by
  have hlen := r.length
  have e : L2.start N (.ref x :: vs) = some (.ref x) :: (vs.map some ++ List.replicate (n - vs.length) none) := by
    unfold L2.start
    rw [List.map_cons, List.length_cons, hn]
    simp
  have rest : ∀ (i : Nat) (s : Slot), (ds.map Slot.val ++ List.replicate (n - ds.length) .emp)[i]? = some s → SlotOk K nm g H s (vs.map some ++ List.replicate (n - vs.length) none)[i]? := fun i s hs => by
    rcases Nat.lt_or_ge i ds.length with q | q
    · rw [List.getElem?_append_left (by simpa using q), List.getElem?_map] at hs
      have hd : ds[i]? = some ds[i] := by simp [q]
      rw [hd] at hs
      cases hs
      obtain ⟨v, hv, rv⟩ := r.get hd
      refine ⟨v, ?_, rv⟩
      rw [List.getElem?_append_left (by simp; omega), List.getElem?_map, hv]
      rfl
    · rw [List.getElem?_append_right (by simpa using q)] at hs
      obtain ⟨h1, h2⟩ := (List.getElem?_eq_some_iff.mp hs)
      rw [List.getElem_replicate] at h2
      subst h2
      exact True.intro
  rw [e]
  refine ⟨?_, fun i s hs => ?_, fun i j d1 d2 v h1 h2 h3 h4 => ?_⟩
  · simp only [List.length_cons, List.length_append, List.length_map, List.length_replicate]
    omega
  · cases i with
    | zero =>
      rw [List.getElem?_cons_zero] at hs ⊢
      cases hs
      exact ⟨_, rfl, ow⟩
    | succ i =>
      rw [List.getElem?_cons_succ] at hs ⊢
      exact rest i s hs
  · cases i with
    | zero =>
      cases j with
      | zero => rfl
      | succ j =>
        rw [List.getElem?_cons_succ] at h2
        exact (no_own h2).elim
    | succ i =>
      rw [List.getElem?_cons_succ] at h1
      exact (no_own h1).elim
/-- what a body has to reach, from what its call has to reach -/
theorem post_end {x0 : Addr} {r : Res Flw} {Q : VK} (p : Post K nm W (Rep K nm) g H (r.bind endF) Q) {De : Ends} (h1 : ∀ σ H', Q .non H' → De.nx σ H') (h2 : ∀ v H', Q v H' → De.rt v H') : PostS K nm W x0 g H g2 H2 r De := by
  match r, p with
  | .ok (.nx ρ) cs, p => exact fun σ' g' H' e f => h1 σ' H' (Post.okE (a := D.non) p f.ex f.cs .non)
  | .ok (.ret d) cs, p => exact fun v g' H' e c rv => h2 v H' (Post.okE (a := d) p e c rv)
  | .ok (.brk ρ) cs, p => exact p.elim
  | .ok (.cnt ρ) cs, p => exact p.elim
  | .exc e cs, p => exact p
  | .bad, p => exact p
/-- .. an __init__'s -/
theorem post_ini {x0 : Addr} {m : Bool} {r : Res Flw} {Q : VK} (hn : H x0 = none) (p : Post K nm W (Rep K nm) g H (r.bind (endI m)) (fun v H' => v = .ref x0 → Q .non H')) {De : Ends} (h1 : ∀ σ H', Q .non H' → De.nx σ H') : PostS K nm W x0 g H g2 H2 r De := by
  match r, p with
  | .ok (.nx ρ) cs, p =>
    intro σ' g' H' e f
    have p : Post K nm W (Rep K nm) g H (match ρ[0]? with
      | some (Slot.own (D.ins c fs)) => if m then .ok (.cell cs.length) (cs ++ [.ins c fs]) else .ok (.ins c fs) cs
      | _ => .bad) (fun v H' => v = .ref x0 → Q .non H') := p
    cases hr : ρ[0]? with
    | none => rw [hr] at p; exact p.elim
    | some s =>
      rw [hr] at p
      cases s with
      | own d =>
        cases d with
        | ins c fs =>
          have p : Post K nm W (Rep K nm) g H (if m then .ok (.cell cs.length) (cs ++ [.ins c fs]) else .ok (.ins c fs) cs) (fun v H' => v = .ref x0 → Q .non H') := p
          have hs := f.slf 0 c fs hr
          obtain ⟨v, e1, ow⟩ := f.en.sl 0 _ hr
          rw [hs] at e1
          cases e1
          cases m with
          | false =>
            have p : Post K nm W (Rep K nm) g H (.ok (.ins c fs) cs) (fun v H' => v = .ref x0 → Q .non H') := p
            obtain ⟨r1, c1, _⟩ := own_frz ow f.cs
            exact h1 σ' H' (Post.okE p (frz_ext f.ex hn) c1 r1 rfl)
          | true =>
            have p : Post K nm W (Rep K nm) g H (.ok (.cell cs.length) (cs ++ [.ins c fs])) (fun v H' => v = .ref x0 → Q .non H') := p
            obtain ⟨a, ea, f1, f2, dx, vs, q1, q2⟩ := ow
            cases ea
            have np : x0 ∉ g'.io := f2
            have e2 : ExtS g' H' ⟨g'.fz, g'.io ++ [x0]⟩ H' := ⟨⟨[x0], rfl⟩, fun _ h => h, fun _ _ _ h => h⟩
            obtain ⟨t, t1, t2⟩ := f.ex.io
            have e3 : Ext g H ⟨g'.fz, g'.io ++ [x0]⟩ H' := ⟨⟨t ++ [x0], by show g'.io ++ [x0] = _; rw [t1, List.append_assoc], fun a ha => by
              rcases List.mem_append.mp ha with z | z
              · exact t2 a z
              · rw [List.mem_singleton.mp z]; exact hn⟩, f.ex.fz, f.ex.fzn, f.ex.keep, f.ex.there⟩
            have ok : GOk ⟨g'.fz, g'.io ++ [x0]⟩ H' := by
              refine ⟨f.cs.ok.fzt, fun a q => ?_, fun a q z => ?_, ?_⟩
              · rcases List.mem_append.mp q with q | q
                · exact f.cs.ok.iot a q
                · rw [List.mem_singleton.mp q, q1]; simp
              · rcases List.mem_append.mp q with q | q
                · exact f.cs.ok.dis a q z
                · rw [List.mem_singleton.mp q] at z
                  exact f1 z
              · rw [List.nodup_append]
                exact ⟨f.cs.ok.nd, by simp, fun a ha b hb => by rw [List.mem_singleton.mp hb]; exact fun z => np (z ▸ ha)⟩
            refine h1 σ' H' (Post.okE (b := .ref x0) p e3 ⟨ok, by simp [f.cs.len], fun n x a hn' ha => ?_⟩ (.cell ?_) rfl)
            · rcases Nat.lt_or_ge n cs.length with hl | hl
              · rw [List.getElem?_append_left hl] at hn'
                have ha : (g'.io ++ [x0])[n]? = some a := ha
                rw [List.getElem?_append_left (by rw [← f.cs.len]; exact hl)] at ha
                have z := f.cs.at_ n x a hn' ha
                cases x with
                | lst ds => obtain ⟨vs, z1, z2⟩ := z; exact ⟨vs, z1, z2.monoS e2⟩
                | ins c fs => obtain ⟨dx, vs, z1, z2⟩ := z; exact ⟨dx, vs, z1, z2.monoS e2⟩
              · have e1 : n = cs.length := by
                  have := (List.getElem?_eq_some_iff.mp hn').1
                  simp at this
                  omega
                subst e1
                have ha : (g'.io ++ [x0])[cs.length]? = some a := ha
                rw [List.getElem?_append_right (Nat.le_refl _)] at hn'
                rw [List.getElem?_append_right (by rw [f.cs.len]; exact Nat.le_refl _)] at ha
                simp at hn'
                simp [f.cs.len] at ha
                subst hn' ha
                exact ⟨dx, vs, q1, q2.monoS e2⟩
            · show (g'.io ++ [x0])[cs.length]? = some x0
              rw [f.cs.len]
              simp
        | _ => exact p.elim
      | _ => exact p.elim
  | .ok (.ret d) cs, p => exact p.elim
  | .ok (.brk ρ) cs, p => exact p.elim
  | .ok (.cnt ρ) cs, p => exact p.elim
  | .exc e cs, p => exact p
  | .bad, p => exact p
end
end Dv
end
section
set_option Elab.async false
set_option linter.all false
set_option maxRecDepth 100000
set_option maxHeartbeats 4000000
namespace Dv
open PySem PySem.Spec PyProof.Rows L2
section
variable {T : Tab} {nm : Nm} {G : Gi} {P : Program} {w : World} {K : PySem.W.Frag} {mg : Str → Option Value} {base : Heap} {n k : Nat}
theorem run_false {f : Nat} {F : Fn} (hF : T.fns[f]? = some F) (hi : F.ini = none) (ds : List D) (cs : Cells) : run T (k + 1) false f ds cs = (match freshE F ds with
        | none => Res.bad
        | some ρ => (sm T (run T k) F.body ρ cs).bind endF) := by
  unfold run
  simp only [hF, hi]
  try rfl
theorem run_true {f c : Nat} {F : Fn} (hF : T.fns[f]? = some F) (hi : F.ini = some c) (hcm : c ≠ kwM) (ds : List D) (cs : Cells) : run T (k + 1) true f ds cs = (match freshI F c ds with
        | none => Res.bad
        | some ρ => (sm T (run T k) F.body ρ cs).bind (endI (mutOf T c))) := by
  unfold run
  simp only [hF, hi, if_neg hcm]
  try rfl
theorem run_kw {f : Nat} {F : Fn} (hF : T.fns[f]? = some F) (hi : F.ini = some kwM) (ds : List D) (cs : Cells) : run T (k + 1) true f ds cs = (match freshE F ds with
        | none => Res.bad
        | some ρ => (sm T (run T k) F.body ρ cs).bind endF) := by
  unfold run
  simp only [hF, hi, if_true]
  try rfl
theorem permD_len {α β : Type} : ∀ {perm : List Nat} {l : List α} {m : List β} {y : List β}, l.length = m.length → permD perm m = some y → permD perm l ≠ none
  | [], l, m, y, h, e => by simp [permD]
  | i :: p, l, m, y, h, e => by
    simp only [permD] at e ⊢
    cases e1 : m[i]? with
    | none => rw [e1] at e; cases e
    | some b =>
      cases e2 : permD p m with
      | none => rw [e1, e2] at e; cases e
      | some ys =>
        have hi : i < l.length := by rw [h]; exact (List.getElem?_eq_some_iff.mp e1).1
        rw [List.getElem?_eq_getElem hi]
        cases e3 : permD p l with
        | none => exact absurd e3 (permD_len h e2)
        | some zs => simp
/-- a def's body, walked -/
theorem body_ok {I : FI} {F : Fn} {f : Addr} {cdv : Value} {A : Around} {outer : List PySem.Env} {s : Shared} {H2 : Hp} (b : Bs T (run T k) nm { G with N := I.N } P w K mg base n) (S : FnScope I.N I.ps I.scope) (hc : (ckS { G with N := I.N } F.body).s ⟨I.scope, fun _ => true⟩ I.body = true) (hr : Room (n + 3) (A.deeper (envOfC I.qual I.scope s.heap.objs.size f cdv))) :
    PSs (cxOf C8.CX0 P w K mg base I.N I.qual I.scope f cdv A outer s H2 E0) I.body (tS K nm E0 fun ρ cs => sm T (run T k) F.body ρ cs) := by
  have g : Good T (run T k) nm { G with N := I.N } (cxOf C8.CX0 P w K mg base I.N I.qual I.scope f cdv A outer s H2 E0) ⟨I.scope, fun _ => true⟩ := ⟨n, b, ⟨rfl, rfl, rfl, S.nd, rfl, hr, S.kind⟩⟩
  exact (sndS F.body).s _ _ _ ⟨g, passes_of rfl⟩ hc
structure FOkk (nm : Nm) (K : PySem.W.Frag) (G : Gi) (f : Nat) (F : Fn) (I : FI) (fd : FuncData) : Prop where
  ck : chkF G F I = true
  fd : FunD K I.name I.qual I.params I.body I.scope I.dvs [] (nm.fa f) fd
  b : FnB nm f F I
theorem chkF_of {F : Fn} {I : FI} (h : chkF G F I = true) : FnScope I.N I.ps I.scope ∧ F.n = I.N.length ∧ (I.ps.length = if F.star then F.np + 1 else F.np) ∧ (fvB F.dfl I.dvs = true ∧ (F.star = true → I.dvs = [])) ∧ (F.ini = none ∨ 0 < F.np) ∧ (ckS { G with N := I.N } F.body).s ⟨I.scope, fun _ => true⟩ I.body = true := by
  unfold chkF at h
  simp only [Bool.and_eq_true, beq_iff_eq, Bool.or_eq_true, decide_eq_true_eq, Option.isNone_iff_eq_none, List.isEmpty_iff, Bool.not_eq_true'] at h
  obtain ⟨⟨⟨⟨⟨⟨h1, h2⟩, h3⟩, h4⟩, h7⟩, h5⟩, h6⟩ := h
  exact ⟨C8.fnScope_by h1, h2, h3, ⟨h4, fun e => by rcases h7 with z | z
                                                    · rw [e] at z; cases z
                                                    · exact z⟩, h5, h6⟩
theorem ps_le {I : FI} (S : FnScope I.N I.ps I.scope) : I.ps.length ≤ I.N.length := by
  have := congrArg List.length S.pre
  rw [List.length_take] at this
  omega
/-- the slots where nothing is left over -/
theorem fresh_plain {F : Fn} {ds : List D} {ρ : Env} (hs : F.star = false) (h : freshE F ds = some ρ) : ds.length = F.np ∧ ρ = ds.map Slot.val ++ List.replicate (F.n - F.np) .emp := by
  unfold freshE at h
  rw [hs] at h
  simp only [Bool.false_eq_true, if_false] at h
  split at h
  · rename_i e
    exact ⟨e, (Option.some.inj h).symm⟩
  · cases h
theorem fresh_star {F : Fn} {ds : List D} {ρ : Env} (hs : F.star = true) (h : freshE F ds = some ρ) : F.np ≤ ds.length ∧ ds.length ≤ sizeLine ∧ ρ = (ds.take F.np).map Slot.val ++ Slot.val (.tup (ds.drop F.np)) :: List.replicate (F.n - (F.np + 1)) .emp := by
  unfold freshE at h
  rw [hs] at h
  simp only [if_true] at h
  split at h
  · rename_i e
    exact ⟨e.1, e.2, (Option.some.inj h).symm⟩
  · cases h
theorem fn_plain {f : Nat} {F : Fn} {I : FI} {fd : FuncData} (hF : T.fns[f]? = some F) (o : FOkk nm K G f F I fd) (hs : F.star = false) (hi : F.ini = none) (b : Bs T (run T k) nm { G with N := I.N } P w K mg base n) :
    FnOk P w K mg base C8.CX0 (n + 4) (nm.fa f) fd I.ps (spO K nm E0 (run T (k + 1)) f) := by
  obtain ⟨S, hn, hp, hd, _, hc⟩ := chkF_of o.ck
  rw [hs] at hp
  simp only [Bool.false_eq_true, if_false] at hp
  refine o.fd.ok S (fun vs H Q E h => ?_) (fun cdv A outer s H vs Q E hr h => ?_)
  · obtain ⟨_, g, cs, ds, co, rs, p⟩ := h
    rw [run_false hF hi] at p
    cases hρ : freshE F ds with
    | none => rw [hρ] at p; exact p.elim
    | some ρ =>
      rw [← rs.length, (fresh_plain hs hρ).1, hp]
  · obtain ⟨rfl, g, cs, ds, co, rs, p⟩ := h
    rw [run_false hF hi] at p
    cases hρ : freshE F ds with
    | none => rw [hρ] at p; exact p.elim
    | some ρ =>
      rw [hρ] at p
      obtain ⟨e1, rfl⟩ := fresh_plain hs hρ
      refine ⟨_, body_ok b S hc hr, 0, g, H, g, _, cs, ⟨?_, co, .refl, fun i d a h1 => ?_, fun i c fs h1 => ?_⟩, post_end p (fun _ _ z => z) (fun _ _ z => z)⟩
      · have := env_start rs (N := I.N) (n := F.n) hn.symm (by have := ps_le S; omega)
        rw [e1] at this
        exact this
      · exact (no_own h1).elim
      · exact (no_own h1).elim
theorem binds_plain {f : Nat} {F : Fn} {I : FI} {fd : FuncData} (o : FOkk nm K G f F I fd) (hs : F.star = false) (hkm : F.ini ≠ some kwM) : Binds K fd I.ps [] := by
  rcases Classical.em (I.dvs = []) with hd | hd
  · have fd1 := o.fd
    rw [hd] at fd1
    exact fd1.bindsN fun kV doc pm an cdv ct us hl => o.b.pos hs hkm hd kV doc pm an cdv ct us hl
  · obtain ⟨ds, rv, hb⟩ := o.fd.binds1 (ps := I.ps) I.ps.length I.dvs.length hd (by omega) fun t kV doc pm an cdv ct us its h1 h2 => by
      obtain ⟨k, e1, e2⟩ := o.b.posD hd t kV doc pm an cdv ct us its h1 h2
      refine ⟨k, e1, ?_⟩
      rw [e2, ← h2, List.drop_length, List.append_nil]
    rw [List.drop_length] at rv
    cases rv
    exact hb
/-- what a call with keywords binds -/
theorem kbn_of {f : Nat} {F : Fn} {I : FI} {fd : FuncData} (o : FOkk nm K G f F I fd) {m : Nat} {ks : List Str} {perm : List Nat} (hk : nm.kw f m ks perm = true) (hpm : perm ≠ [kwM]) :
    ∃ its : List Value, Vals I.dvs its ∧ KBn K fd I.ps m ks (fun us ws => (permD perm (us ++ ws ++ its)).getD []) (fun vs zs => (permD perm (vs ++ zs ++ I.dvs)).getD []) := by
  obtain ⟨hs, hb⟩ := o.b.kw m ks perm hk hpm
  have rel : ∀ {its : List Value}, Vals I.dvs its → ∀ {vs : List V} {us : List Value} {zs : List V} {ws : List Value}, Vals vs us → Vals zs ws → Vals ((permD perm (vs ++ zs ++ I.dvs)).getD []) ((permD perm (us ++ ws ++ its)).getD []) := fun {its} rd {vs us zs ws} r1 r2 => by
    have r := (r1.append r2).append rd
    cases e1 : permD perm (vs ++ zs ++ I.dvs) with
    | none =>
      cases e2 : permD perm (us ++ ws ++ its) with
      | none => exact .nil
      | some y => exact absurd (permD_len r.length e2) (by rw [e1]; simp)
    | some x =>
      cases e2 : permD perm (us ++ ws ++ its) with
      | none => exact absurd (permD_len r.length.symm e1) (by rw [e2]; simp)
      | some y => exact vals_perm r e1 e2
  obtain ⟨oc, od, dV, kV, doc, pm, an, cdv, ct, osl, rfl, lk, hcd, hD, hK⟩ := o.fd.ex
  rcases hD with ⟨hd, rfl⟩ | ⟨hd, T, ob, its, m, rfl, lT, oT, rT⟩
  · refine ⟨[], by rw [hd]; exact .nil, fun s us ws X h1 h2 => ?_, fun r1 r2 => rel (by rw [hd]; exact .nil) r1 r2⟩
    obtain ⟨ys, y1, y2, y3, _⟩ := hb us ws [] h1 h2 (by rw [hd]; rfl)
    show BindsTo _ _ _ (I.ps.zip ((permD perm (us ++ ws ++ [])).getD []))
    rw [y1]
    exact .of_eq (y3 hd kV doc pm an cdv ct)
  · refine ⟨its, rT, fun s us ws X h1 h2 => ?_, fun r1 r2 => rel rT r1 r2⟩
    obtain ⟨ys, y1, y2, _, y3⟩ := hb us ws its h1 h2 rT.length.symm
    obtain ⟨k, e1, e2⟩ := y3 hd T kV doc pm an cdv ct
    show BindsTo _ _ _ (I.ps.zip ((permD perm (us ++ ws ++ its)).getD []))
    rw [y1]
    refine BindsTo.of_looks fun M => ?_
    show PySem.W.Looks M s.heap (bindArgs _ _) (I.ps.zip ys)
    rw [e1]
    exact looks_items X lT oT (.of_pure e2)
/-- with a star: what is left over is a new tuple -/
theorem fn_starred {f : Nat} {F : Fn} {I : FI} {fd : FuncData} (hF : T.fns[f]? = some F) (o : FOkk nm K G f F I fd) (hs : F.star = true) (hi : F.ini = none) (b : Bs T (run T k) nm { G with N := I.N } P w K mg base n) :
    FnR P w K mg base C8.CX0 (n + 4) (nm.fa f) (spO K nm E0 (run T (k + 1)) f) := by
  obtain ⟨S, hn, hp, hd, _, hc⟩ := chkF_of o.ck
  rw [hs] at hp
  simp only [if_true] at hp
  obtain ⟨ps', pv, eps, hb⟩ := o.b.star hs
  have hps : ps'.length = F.np := by
    rw [eps] at hp
    simpa using hp
  obtain ⟨oc, od, dV, kV, doc, pm, an, cdv, ct, osl, rfl, lk, hcd, hD, hK⟩ := o.fd.ex
  have hdV : dV = .none := by
    rcases hD with ⟨_, e⟩ | ⟨e, _⟩
    · exact e
    · exact absurd (hd.2 hs) e
  subst hdV
  have S2 : FnScope I.N (ps' ++ [pv]) I.scope := by rw [← eps]; exact S
  refine (StX.fn_star (k := n + 3) (sp := fun vs H2 Q E => E = E0 ∧ ∃ ws p rest H g cs ds, vs = ws ++ [V.ref p] ∧ ws.length = ps'.length ∧ H p = none ∧ H2 = upd H p (.tup rest) ∧ CsOk K nm g H cs ∧ Reps K nm g H ds (ws ++ rest) ∧ Post K nm E0 (Rep K nm) g H (run T (k + 1) false f ds cs) Q) lk hcd S2 (fun _ _ _ _ _ _ _ _ _ _ _ z => z) (fun us rest hl => hb kV doc pm an cdv ct us rest hl) (fun A outer s H2 vs Q E hr h => ?_)).imp fun vs H Q E h => ?_
  · obtain ⟨rfl, ws, p, rest, H, g, cs, ds, rfl, hl, hp0, rfl, co, rs, pp⟩ := h
    rw [run_false hF hi] at pp
    cases hρ : freshE F ds with
    | none => rw [hρ] at pp; exact pp.elim
    | some ρ =>
      rw [hρ] at pp
      obtain ⟨e1, e2, rfl⟩ := fresh_star hs hρ
      have e : Ext g H (g.add p) (upd H p (.tup rest)) := ext_new hp0
      have co2 := co.new (o := .tup rest) hp0
      have r1 : Reps K nm (g.add p) (upd H p (.tup rest)) (ds.take F.np) ws := by
        have := (rs.take F.np).mono e co.ok
        rwa [show (ws ++ rest).take F.np = ws by rw [← hps, ← hl]; simp] at this
      have r2 : Reps K nm (g.add p) (upd H p (.tup rest)) (ds.drop F.np) rest := by
        have := (rs.drop F.np).mono e co.ok
        rwa [show (ws ++ rest).drop F.np = rest by rw [← hps, ← hl]; simp] at this
      have r3 : Reps K nm (g.add p) (upd H p (.tup rest)) (ds.take F.np ++ [D.tup (ds.drop F.np)]) (ws ++ [V.ref p]) := r1.append (.cons (.tup (.inr rfl) upd_same r2) .nil)
      have eρ : (ds.take F.np).map Slot.val ++ Slot.val (.tup (ds.drop F.np)) :: List.replicate (F.n - (F.np + 1)) .emp = (ds.take F.np ++ [D.tup (ds.drop F.np)]).map Slot.val ++ List.replicate (F.n - (ds.take F.np ++ [D.tup (ds.drop F.np)]).length) .emp := by
        have : (ds.take F.np ++ [D.tup (ds.drop F.np)]).length = F.np + 1 := by simp; omega
        rw [this]
        simp
      rw [eρ] at pp
      refine ⟨_, body_ok b S hc hr, 0, g, H, g.add p, _, cs, ⟨?_, co2, e, fun i d a h1 => ?_, fun i c fs h1 => ?_⟩, post_end pp (fun _ _ z => z) (fun _ _ z => z)⟩
      · refine env_start r3 (N := I.N) (n := F.n) hn.symm ?_
        have := ps_le S
        simp
        omega
      · exact (no_own h1).elim
      · exact (no_own h1).elim
  · obtain ⟨rfl, g, cs, ds, co, rs, p⟩ := h
    have p0 := p
    rw [run_false hF hi] at p
    cases hρ : freshE F ds with
    | none => rw [hρ] at p; exact p.elim
    | some ρ =>
      obtain ⟨e1, e2, _⟩ := fresh_star hs hρ
      have hl := rs.length
      refine ⟨vs.take F.np, vs.drop F.np, (List.take_append_drop _ _).symm, by simp; omega, by simp; omega, fun q hq => ⟨rfl, vs.take F.np, q, vs.drop F.np, H, g, cs, ds, rfl, by simp; omega, hq, rfl, co, by rw [List.take_append_drop]; exact rs, p0⟩⟩
/-- a def that takes names into its dict -/
theorem pss_lock {X : Cx} {body : List Stmt} {t : TS} (h : PSs X body t) : PSs X body (fun D σ H => ∃ d ws, H d = some (.dK ws) ∧ ∀ o, t D σ (upd H d (.frz o (.dK ws)))) := ⟨fun pins s σ H D I ⟨d, ws, hd, q⟩ => by
  obtain ⟨o, I2⟩ := I.lock hd (show Mut (some (.dK ws)) from True.intro)
  exact h.run pins s σ _ D I2 (q o)⟩
theorem fn_kww {f : Nat} {F : Fn} {I : FI} {fd : FuncData} (hF : T.fns[f]? = some F) (o : FOkk nm K G f F I fd) (b : Bs T (run T k) nm { G with N := I.N } P w K mg base n) {m : Nat} {ks : List Str} (hk : nm.kw f m ks [kwM] = true) :
    FnW P w K mg base C8.CX0 (n + 4) (nm.fa f) m ks (spW K nm E0 (run T (k + 1)) f) := by
  obtain ⟨hi, hs, hd0, nd, hz, ps', pd, eps, hl, hb⟩ := o.b.kwd m ks hk
  obtain ⟨S, hn, hp, hd, _, hc⟩ := chkF_of o.ck
  rw [hs] at hp
  simp only [Bool.false_eq_true, if_false] at hp
  obtain ⟨oc, od, dV, kV, doc, pm, an, cdv, ct, osl, rfl, lk, hcd, hD, hK⟩ := o.fd.ex
  have hdV : dV = .none := by
    rcases hD with ⟨_, e⟩ | ⟨e, _⟩
    · exact e
    · exact absurd hd0 e
  subst hdV
  have S2 : FnScope I.N (ps' ++ [pd]) I.scope := by rw [← eps]; exact S
  subst hl
  refine fn_kwd (k := n + 3) lk hcd S2 (fun _ _ _ _ _ _ _ _ _ _ _ z => z) nd (Nat.le_trans hz (by decide)) (fun us ws h1 h2 => hb kV doc pm an cdv ct us ws h1 h2) (fun A outer s H vs Q E hr h => ?_)
  obtain ⟨rfl, d, vs', H0, g, cs, ds, p, kvs, ws, rfl, hd, rfl, co, rs, rk, pp⟩ := h
  rw [run_kw hF hi] at pp
  cases hρ : freshE F (ds ++ [.dic (p :: kvs)]) with
  | none => rw [hρ] at pp; exact pp.elim
  | some ρ =>
    rw [hρ] at pp
    obtain ⟨e1, rfl⟩ := fresh_plain hs hρ
    refine ⟨_, pss_lock (body_ok b S hc hr), d, ws, upd_same, fun od => ?_⟩
    rw [upd_upd]
    have e : Ext g H0 (g.add d) (upd H0 d (.frz od (.dK ws))) := ext_new hd
    have co2 := co.new (o := .frz od (.dK ws)) hd
    have r3 : Reps K nm (g.add d) (upd H0 d (.frz od (.dK ws))) (ds ++ [.dic (p :: kvs)]) (vs' ++ [V.ref d]) := (rs.mono e co.ok).append (.cons (.dicF (.inr rfl) upd_same (rk.mono e co.ok)) .nil)
    refine ⟨0, g, H0, g.add d, _, cs, ⟨?_, co2, e, fun i d a h1 => ?_, fun i c fs h1 => ?_⟩, post_end pp (fun _ _ z => z) (fun _ _ z => z)⟩
    · have z := env_start r3 (N := I.N) (n := F.n) hn.symm (by have := ps_le S; omega)
      rw [e1] at z
      exact z
    · exact (no_own h1).elim
    · exact (no_own h1).elim
end
end Dv
end
section
set_option Elab.async false
set_option linter.all false
set_option maxRecDepth 100000
set_option maxHeartbeats 4000000
namespace Dv
open PySem PySem.Spec PyProof.Rows L2
section
variable {T : Tab} {nm : Nm} {G : Gi} {P : Program} {w : World} {K : PySem.W.Frag} {mg : Str → Option Value} {base : Heap} {n k : Nat}
theorem freshI_some {F : Fn} {c : Nat} {ds : List D} {ρ : Env} (h : freshI F c ds = some ρ) : ∃ ρ', freshE { F with np := F.np - 1, n := F.n - 1 } ds = some ρ' ∧ ρ = .own (.ins c []) :: ρ' := by
  unfold freshI at h
  cases q : freshE { F with np := F.np - 1, n := F.n - 1 } ds with
  | none => rw [q] at h; cases h
  | some ρ' => rw [q] at h; cases h; exact ⟨ρ', rfl, rfl⟩
theorem ini_laid {g : Gh} {H : Hp} {cs : Cells} {x dx : Addr} {C : Addr} (co : CsOk K nm g H cs) (h1 : H x = none) (h2 : H dx = none) (h3 : dx ≠ x) :
    Ext g H g (upd (upd H dx (.own x)) x (.ins C dx [])) ∧ CsOk K nm g (upd (upd H dx (.own x)) x (.ins C dx [])) cs := by
  have hx : upd H dx (.own x) x = none := by rw [upd_ne (Ne.symm h3)]; exact h1
  exact ⟨(ext_laid h2).trans (ext_laid hx), (co.laid h2).laid hx⟩
theorem fok_self {N : List Str} {ds : List D} {vs : List V} {m : Nat} {c : Nat} {x dx : Addr} {g g2 : Gh} {H H2 : Hp} {cs : Cells} (hx : H x = none) (hfz : ¬ g2.fz x) (hio : x ∉ g2.io) (hH : H2 x = some (.ins (nm.ca c) dx [])) (e : Ext g H g2 H2) (co : CsOk K nm g2 H2 cs) (r : Reps K nm g2 H2 ds vs) (hn : N.length = m + 1) (hl : ds.length ≤ m) :
    FOk K nm x g H g2 H2 (L2.start N (.ref x :: vs)) (.own (.ins c []) :: (ds.map Slot.val ++ List.replicate (m - ds.length) .emp)) cs := by
  have en := env_self (d := D.ins c []) r hn hl ⟨x, rfl, hfz, hio, dx, [], hH, .nil⟩
  have first : ∀ {i : Nat} {d : D}, (Slot.own (.ins c []) :: (ds.map Slot.val ++ List.replicate (m - ds.length) .emp))[i]? = some (.own d) → i = 0 := fun {i d} h => by
    cases i with
    | zero => rfl
    | succ i =>
      rw [List.getElem?_cons_succ] at h
      exact (no_own h).elim
  have s0 : (L2.start N (.ref x :: vs))[0]? = some (some (V.ref x)) := by
    unfold L2.start
    rfl
  refine ⟨en, co, e, fun i d a h1 h2 => ?_, fun i c' fs h1 => ?_⟩
  · have := first h1
    subst this
    rw [s0] at h2
    cases h2
    exact hx
  · have := first h1
    subst this
    exact s0
theorem ini_plain {f c : Nat} {F : Fn} {I : FI} {fd : FuncData} (hF : T.fns[f]? = some F) (o : FOkk nm K G f F I fd) (hs : F.star = false) (hi : F.ini = some c) (hcm : c ≠ kwM) (b : Bs T (run T k) nm { G with N := I.N } P w K mg base n) :
    FnOk P w K mg base C8.CX0 (n + 4) (nm.fa f) fd I.ps (spI K nm E0 (run T (k + 1)) c f) := by
  obtain ⟨S, hn, hp, hd, hp0, hc⟩ := chkF_of o.ck
  rw [hs] at hp
  simp only [Bool.false_eq_true, if_false] at hp
  have hnp : 0 < F.np := by
    rcases hp0 with z | z
    · rw [hi] at z; cases z
    · exact z
  refine o.fd.ok S (fun vs H Q E h => ?_) (fun cdv A outer s H vs Q E hr h => ?_)
  · obtain ⟨_, x, dx, vs', H, g, cs, ds, rfl, h1, h2, h3, _, co, rs, p⟩ := h
    rw [run_true hF hi hcm] at p
    cases hρ : freshI F c ds with
    | none => rw [hρ] at p; exact p.elim
    | some ρ =>
      obtain ⟨ρ', e1, _⟩ := freshI_some hρ
      obtain ⟨e2, _⟩ := fresh_plain (F := { F with np := F.np - 1, n := F.n - 1 }) hs e1
      have e2 : ds.length = F.np - 1 := e2
      rw [List.length_cons, ← rs.length, e2, hp]
      omega
  · obtain ⟨rfl, x, dx, vs', H, g, cs, ds, rfl, h1, h2, h3, rfl, co, rs, p⟩ := h
    rw [run_true hF hi hcm] at p
    cases hρ : freshI F c ds with
    | none => rw [hρ] at p; exact p.elim
    | some ρ =>
      rw [hρ] at p
      obtain ⟨ρ', e1, rfl⟩ := freshI_some hρ
      obtain ⟨e2, rfl⟩ := fresh_plain (F := { F with np := F.np - 1, n := F.n - 1 }) hs e1
      have e2 : ds.length = F.np - 1 := e2
      obtain ⟨ex, co2⟩ := ini_laid (C := nm.ca c) co h1 h2 h3
      have hle := ps_le S
      have fo := fok_self (N := I.N) (m := F.n - 1) (c := c) h1 (fun z => co.ok.fzt x z h1) (fun z => co.ok.iot x z h1) upd_same ex co2 (rs.mono ex co.ok) (by omega) (by omega)
      rw [e2] at fo
      exact ⟨_, body_ok b S hc hr, x, g, H, g, _, cs, fo, post_ini h1 p fun _ _ z => z⟩
theorem ini_starred {f c : Nat} {F : Fn} {I : FI} {fd : FuncData} (hF : T.fns[f]? = some F) (o : FOkk nm K G f F I fd) (hs : F.star = true) (hi : F.ini = some c) (hcm : c ≠ kwM) (b : Bs T (run T k) nm { G with N := I.N } P w K mg base n) :
    FnR P w K mg base C8.CX0 (n + 4) (nm.fa f) (spI K nm E0 (run T (k + 1)) c f) := by
  obtain ⟨S, hn, hp, hd, hp0, hc⟩ := chkF_of o.ck
  rw [hs] at hp
  simp only [if_true] at hp
  have hnp : 0 < F.np := by
    rcases hp0 with z | z
    · rw [hi] at z; cases z
    · exact z
  obtain ⟨ps', pv, eps, hb⟩ := o.b.star hs
  have hps : ps'.length = F.np := by
    rw [eps] at hp
    simpa using hp
  obtain ⟨oc, od, dV, kV, doc, pm, an, cdv, ct, osl, rfl, lk, hcd, hD, hK⟩ := o.fd.ex
  have hdV : dV = .none := by
    rcases hD with ⟨_, e⟩ | ⟨e, _⟩
    · exact e
    · exact absurd (hd.2 hs) e
  subst hdV
  have S2 : FnScope I.N (ps' ++ [pv]) I.scope := by rw [← eps]; exact S
  refine (StX.fn_star (k := n + 3) (sp := fun vs H3 Q E => E = E0 ∧ ∃ x dx ws p rest H g cs ds, vs = V.ref x :: (ws ++ [V.ref p]) ∧ ws.length + 1 = ps'.length ∧ H x = none ∧ H dx = none ∧ dx ≠ x ∧ upd (upd H dx (.own x)) x (.ins (nm.ca c) dx []) p = none ∧
      H3 = upd (upd (upd H dx (.own x)) x (.ins (nm.ca c) dx [])) p (.tup rest) ∧ CsOk K nm g H cs ∧ Reps K nm g H ds (ws ++ rest) ∧ Post K nm E0 (Rep K nm) g H (run T (k + 1) true f ds cs) (fun v H' => v = .ref x → Q .non H')) lk hcd S2 (fun _ _ _ _ _ _ _ _ _ _ _ z => z) (fun us rest hl => hb kV doc pm an cdv ct us rest hl) (fun A outer s H3 vs Q E hr h => ?_)).imp fun vs H Q E h => ?_
  · obtain ⟨rfl, x, dx, ws, p, rest, H, g, cs, ds, rfl, hl, h1, h2, h3, hp1, rfl, co, rs, pp⟩ := h
    rw [run_true hF hi hcm] at pp
    cases hρ : freshI F c ds with
    | none => rw [hρ] at pp; exact pp.elim
    | some ρ =>
      rw [hρ] at pp
      obtain ⟨ρ', e0, rfl⟩ := freshI_some hρ
      obtain ⟨e1, e2, rfl⟩ := fresh_star (F := { F with np := F.np - 1, n := F.n - 1 }) hs e0
      have e1 : F.np - 1 ≤ ds.length := e1
      obtain ⟨ex, co2⟩ := ini_laid (C := nm.ca c) co h1 h2 h3
      have ex2 : Ext g (upd (upd H dx (.own x)) x (.ins (nm.ca c) dx [])) (g.add p) (upd (upd (upd H dx (.own x)) x (.ins (nm.ca c) dx [])) p (.tup rest)) := ext_new hp1
      have co3 := co2.new (o := .tup rest) hp1
      have ex3 := ex.trans ex2
      have hpx : x ≠ p := fun z => by subst z; rw [upd_same] at hp1; cases hp1
      have r1 : Reps K nm (g.add p) (upd (upd (upd H dx (.own x)) x (.ins (nm.ca c) dx [])) p (.tup rest)) (ds.take (F.np - 1)) ws := by
        have := (rs.take (F.np - 1)).mono ex3 co.ok
        rwa [show (ws ++ rest).take (F.np - 1) = ws by rw [show F.np - 1 = ws.length by omega]; simp] at this
      have r2 : Reps K nm (g.add p) (upd (upd (upd H dx (.own x)) x (.ins (nm.ca c) dx [])) p (.tup rest)) (ds.drop (F.np - 1)) rest := by
        have := (rs.drop (F.np - 1)).mono ex3 co.ok
        rwa [show (ws ++ rest).drop (F.np - 1) = rest by rw [show F.np - 1 = ws.length by omega]; simp] at this
      have r3 : Reps K nm (g.add p) (upd (upd (upd H dx (.own x)) x (.ins (nm.ca c) dx [])) p (.tup rest)) (ds.take (F.np - 1) ++ [D.tup (ds.drop (F.np - 1))]) (ws ++ [V.ref p]) := r1.append (.cons (.tup (.inr rfl) upd_same r2) .nil)
      have len : (ds.take (F.np - 1) ++ [D.tup (ds.drop (F.np - 1))]).length = F.np := by simp; omega
      have eρ : (ds.take (F.np - 1)).map Slot.val ++ Slot.val (.tup (ds.drop (F.np - 1))) :: List.replicate (F.n - 1 - (F.np - 1 + 1)) .emp = (ds.take (F.np - 1) ++ [D.tup (ds.drop (F.np - 1))]).map Slot.val ++ List.replicate (F.n - 1 - (ds.take (F.np - 1) ++ [D.tup (ds.drop (F.np - 1))]).length) .emp := by
        rw [len, show F.np - 1 + 1 = F.np by omega]
        simp
      have pp : Post K nm E0 (Rep K nm) g H ((sm T (run T k) F.body (.own (.ins c []) :: ((ds.take (F.np - 1)).map Slot.val ++ Slot.val (.tup (ds.drop (F.np - 1))) :: List.replicate (F.n - 1 - (F.np - 1 + 1)) .emp)) cs).bind (endI (mutOf T c))) (fun v H' => v = .ref x → Q .non H') := pp
      rw [eρ] at pp
      have hle := ps_le S
      have fo := fok_self (N := I.N) (m := F.n - 1) (c := c) (dx := dx) (g2 := g.add p) (H2 := upd (upd (upd H dx (.own x)) x (.ins (nm.ca c) dx [])) p (.tup rest)) h1 (fun z => Or.elim z (fun z => co.ok.fzt x z h1) fun z => hpx z) (fun z => co.ok.iot x z h1) (by rw [upd_ne hpx]; exact upd_same) ex3 co3 r3 (by omega) (by rw [len]; omega)
      exact ⟨_, body_ok b S hc hr, x, g, H, g.add p, _, cs, fo, post_ini h1 pp fun _ _ z => z⟩
  · obtain ⟨rfl, x, dx, vs', H0, g, cs, ds, rfl, h1, h2, h3, rfl, co, rs, p⟩ := h
    have p0 := p
    rw [run_true hF hi hcm] at p
    cases hρ : freshI F c ds with
    | none => rw [hρ] at p; exact p.elim
    | some ρ =>
      obtain ⟨ρ', e0, _⟩ := freshI_some hρ
      obtain ⟨e1, e2, _⟩ := fresh_star (F := { F with np := F.np - 1, n := F.n - 1 }) hs e0
      have e1 : F.np - 1 ≤ ds.length := e1
      have hl := rs.length
      refine ⟨.ref x :: vs'.take (F.np - 1), vs'.drop (F.np - 1), by rw [List.cons_append, List.take_append_drop], by simp; omega, by simp; omega, fun q hq => ⟨rfl, x, dx, vs'.take (F.np - 1), q, vs'.drop (F.np - 1), H0, g, cs, ds, rfl, by simp; omega, h1, h2, h3, hq, rfl, co, by rw [List.take_append_drop]; exact rs, p0⟩⟩
theorem dfl_ok {f : Nat} {F : Fn} {I : FI} {fd : FuncData} (hF : T.fns[f]? = some F) (o : FOkk nm K G f F I fd) : Dfl T nm K f I.dvs := fun g H => by
  unfold dflT
  rw [hF]
  exact fvB_ok (chkF_of o.ck).2.2.2.1.1
theorem kw_plain {f : Nat} {F : Fn} {I : FI} {fd : FuncData} (hF : T.fns[f]? = some F) (o : FOkk nm K G f F I fd) (hi : F.ini = none) (b : Bs T (run T k) nm { G with N := I.N } P w K mg base n) {m : Nat} {ks : List Str} {perm : List Nat} (hk : nm.kw f m ks perm = true) (hpm : perm ≠ [kwM]) :
    FnK P w K mg base C8.CX0 (n + 4) (nm.fa f) m ks perm I.dvs (spO K nm E0 (run T (k + 1)) f) := by
  have FO := fn_plain hF o (o.b.kw m ks perm hk hpm).1 hi b
  obtain ⟨its, rd, KB⟩ := kbn_of o hk hpm
  intro A outer s H us ws vs zs ys Q E hr e0 rv rz h1 h2 h3 hsp
  have kx : K.In s.heap := e0.mod.kin.keeps fun b o e => (e0.bs b o e).1
  have bt := KB.to s us ws kx (by rw [← rv.length]; exact h1) (by rw [← rz.length]; exact h2)
  have rr := KB.rel rv rz
  rw [h3] at rr
  exact FO.run A outer s H ⟨us, ks.zip ws⟩ _ ys Q E hr e0 bt rr hsp
theorem mk_plain {f c : Nat} {F : Fn} {I : FI} {fd : FuncData} (hF : T.fns[f]? = some F) (o : FOkk nm K G f F I fd) (hi : F.ini = some c) (hcm : c ≠ kwM) (b : Bs T (run T k) nm { G with N := I.N } P w K mg base n) {m : Nat} {ks : List Str} {perm : List Nat} (hk : nm.kw f m ks perm = true) (hpm : perm ≠ [kwM]) :
    MkK P w K mg base C8.CX0 (n + 4) (nm.fa f) m ks perm I.dvs (spI K nm E0 (run T (k + 1)) c f) := by
  have FO := ini_plain hF o (o.b.kw m ks perm hk hpm).1 hi hcm b
  obtain ⟨its, rd, KB⟩ := kbn_of o hk hpm
  exact ⟨fd, I.ps, its, FO, KB⟩
/-- the look at an __iter__ -/
def iterB (G : Gi) (I : FI) (j : Nat) : Bool := (match I.body with
  | [.Return (some (.Call (.Name x _) [a] [] _)) _] => x == ("iter" : Str) && glC ⟨I.scope, fun _ => true⟩ x && G.glo x == some .blt && !isStar a && (ck { G with N := I.N, it := false } (.attr (.var 0) j)).e ⟨I.scope, fun _ => true⟩ a
  | _ => false) && decide (I.ps.length = 1)
theorem itr_ok {f c j : Nat} {F : Fn} {I : FI} {fd : FuncData} (o : FOkk nm K G f F I fd) (hs : F.star = false) (hin : F.ini = none) (hb : iterB G I j = true) (b : Bs T (run T k) nm { G with N := I.N, it := false } P w K mg base n) : ItR T P w K mg base C8.CX0 (n + 4) nm (nm.fa f) c j := by
  intro A outer s H u v fs ds g cs Q hr e0 rv co rp hok hl hQ
  obtain ⟨S, hn, hp, hd, _, hc⟩ := chkF_of o.ck
  unfold iterB at hb
  simp only [Bool.and_eq_true, decide_eq_true_eq] at hb
  obtain ⟨hb, h1⟩ := hb
  split at hb
  case h_2 => cases hb
  rename_i x px a pc pr hbody
  simp only [Bool.and_eq_true, beq_iff_eq, Bool.not_eq_true'] at hb
  obtain ⟨⟨⟨⟨rfl, b2⟩, b3⟩, b4⟩, b5⟩ := hb
  have r1 : Vals [v] [u] := .cons rv .nil
  have kx : K.In s.heap := e0.mod.kin.keeps fun b o e => (e0.bs b o e).1
  have bt := binds_plain o hs (by rw [hin]; simp) s [u] kx (by rw [h1]; rfl)
  rw [List.append_nil] at bt
  refine fn_at (n + 3) o.fd S hr e0 bt r1 (by rw [h1]; rfl) fun cdv hrr => ?_
  have gd : Good T (run T k) nm { G with N := I.N, it := false } (cxOf C8.CX0 P w K mg base I.N I.qual I.scope (nm.fa f) cdv A outer s H E0) ⟨I.scope, fun _ => true⟩ := ⟨n, b, ⟨rfl, rfl, rfl, S.nd, rfl, hrr, S.kind⟩⟩
  obtain ⟨g1, g2⟩ := gl_of gd b2
  have ha := ((snd (.attr (.var 0) j)).e _ _ _ gd b5).v
  have pc2 := pe_callB (p := px) (pos := pc) (call_iterT (X := cxOf C8.CX0 P w K mg base I.N I.qual I.scope (nm.fa f) cdv A outer s H E0)) g1 (gd.gok.blt _ b3) (by kernel_rfl) (pa_cons ha pa_nil (star_not (isStar_not b4))) (by decide) g2 (star_not (isStar_not b4)) rfl
  rw [hbody]
  refine ⟨_, pss_one (ps_ret pc2), ?_⟩
  have hle := ps_le S
  have en := env_start (K := K) (nm := nm) (g := g) (H := H) (N := I.N) (n := F.n) (ds := [.ins c fs]) (.cons rp .nil) hn.symm (by rw [hn]; simpa [h1] using hle)
  refine (fun (z : tV K nm E0 (den T (run T k) (.attr (.var 0) j)).v (L2.start I.N [v]) H fun y H1 => rIterT K s.heap.objs.size [y] H1 Q) => z) ?_
  refine ⟨g, _, cs, en, co, ?_⟩
  have ev : (den T (run T k) (.attr (.var 0) j)).v ([D.ins c fs].map Slot.val ++ List.replicate (F.n - [D.ins c fs].length) .emp) cs = .ok (.tup ds) cs := by
    show (ofRes cs (getA (Slot.val (.ins c fs) :: List.replicate (F.n - 1) .emp) 0)).bind (fun x cs => match deref x cs with
      | .ins c fs => if okAt T c j = true then ofRes cs (fs.lookup j) else .bad
      | _ => .bad) = _
    show (if okAt T c j = true then ofRes cs (fs.lookup j) else .bad) = _
    rw [if_pos hok, hl]
    rfl
  rw [ev]
  intro y g' H' ex cc rt
  obtain ⟨t, zs, rfl, z1, z2⟩ := view_tup (cs := []) (.inl rt) rfl
  exact ⟨t, zs, rfl, z1, fun it h0 hy => hQ g' H' t it ex cc rt h0 hy⟩
theorem fnr_none {f : Nat} {sp : Sp} {m : Nat} (h : ∀ vs H Q E, ¬ sp vs H Q E) : FnR P w K mg base C8.CX0 m (nm.fa f) sp := fun A outer s H us vs Q E hr e0 r hs => (h _ _ _ _ hs).elim
theorem run_out {f : Nat} {b : Bool} {ds : List D} {cs : Cells} (hF : T.fns[f]? = none) : run T (k + 1) b f ds cs = .bad := by
  cases b <;> (unfold run; rw [hF])
theorem run_ini {f c : Nat} {F : Fn} {ds : List D} {cs : Cells} (hF : T.fns[f]? = some F) (hi : F.ini = some c) : run T (k + 1) false f ds cs = .bad := by
  unfold run
  simp only [hF, hi]
theorem spO_bad {O : Orc} {f : Nat} (h : ∀ ds cs, O false f ds cs = .bad) (vs : List V) (H : Hp) (Q : VK) (E : XK) : ¬ spO K nm E0 O f vs H Q E := fun ⟨_, g, cs, ds, _, _, p⟩ => by rw [h] at p; exact p
theorem spI_bad {O : Orc} {c f : Nat} (h : ∀ ds cs, O true f ds cs = .bad) (vs : List V) (H : Hp) (Q : VK) (E : XK) : ¬ spI K nm E0 O c f vs H Q E := fun ⟨_, x, dx, vs', H0, g, cs, ds, _, _, _, _, _, _, _, p⟩ => by rw [h] at p; exact p
theorem spW_bad {O : Orc} {f : Nat} (h : ∀ ds cs, O true f ds cs = .bad) (vs : List V) (H : Hp) (Q : VK) (E : XK) : ¬ spW K nm E0 O f vs H Q E := fun ⟨_, _, _, _, _, _, _, _, _, _, _, _, _, _, _, _, p⟩ => by rw [h] at p; exact p
theorem fnw_none {f m : Nat} {sp : Sp} {ks : List Str} {l : Nat} (h : ∀ vs H Q E, ¬ sp vs H Q E) : FnW P w K mg base C8.CX0 l (nm.fa f) m ks sp := fun A outer s H us ws vs zs Q E hr e0 rv rz h1 h2 hs => by
  have hn : H s.heap.objs.size = none := e0.hok.fresh (Nat.le_refl _)
  exact (h _ _ _ _ (hs _ hn)).elim
theorem fnk_none {f m : Nat} {sp : Sp} {ks : List Str} {perm : List Nat} {l : Nat} {dvs : List V} (h : ∀ vs H Q E, ¬ sp vs H Q E) : FnK P w K mg base C8.CX0 l (nm.fa f) m ks perm dvs sp := fun A outer s H us ws vs zs ys Q E hr e0 rv rz h1 h2 h3 hs => (h _ _ _ _ hs).elim
theorem mkk_none {f m : Nat} {F : Fn} {I : FI} {fd : FuncData} (o : FOkk nm K G f F I fd) {sp : Sp} {ks : List Str} {perm : List Nat} {l : Nat} (hk : nm.kw f m ks perm = true) (hpm : perm ≠ [kwM]) (h : ∀ vs H Q E, ¬ sp vs H Q E) : MkK P w K mg base C8.CX0 l (nm.fa f) m ks perm I.dvs sp := by
  obtain ⟨its, rd, KB⟩ := kbn_of o hk hpm
  exact ⟨fd, I.ps, its, ⟨fun _ _ _ _ z => (h _ _ _ _ z).elim, fun _ _ _ _ _ _ _ _ _ _ _ _ _ z => (h _ _ _ _ z).elim⟩, KB⟩
/-- ALL DEFS, so many calls deep -/
theorem bs_all (fi : Nat → FI) (hT : Top T nm K) (hG : ∀ N, Gok T nm K mg { G with N := N }) (hf : ∀ f F, T.fns[f]? = some F → ∃ fd, FOkk nm K G f F (fi f) fd) (hini : ∀ (c : Nat) (k' : Cl) (f : Nat) (F : Fn), T.cls[c]? = some k' → k'.init = some f → T.fns[f]? = some F → F.ini = some c)
    (hkw : ∀ f n ks perm, nm.kw f n ks perm = true → ∃ F, T.fns[f]? = some F) (hG0 : ∀ N, Gok T nm K mg { G with N := N, it := false }) (hit : ∀ (c : Nat) (k' : Cl) (f j : Nat), T.cls[c]? = some k' → k'.its = some j → k'.meths.lookup nIter = some f → ∃ F, T.fns[f]? = some F ∧ F.star = false ∧ F.ini = none ∧ iterB G (fi f) j = true) (hcm : ∀ (c : Nat) (k' : Cl), T.cls[c]? = some k' → c ≠ kwM) :
    ∀ k N, Bs T (run T k) nm { G with N := N } P w K mg base (4 * k + 4) := by
  have hpm : ∀ (c : Nat) (k' : Cl) (f n : Nat) (ks : List Str) (perm : List Nat), T.cls[c]? = some k' → k'.init = some f → nm.kw f n ks perm = true → perm ≠ [kwM] := fun c k' f n ks perm hc hi hk e => by
    subst e
    obtain ⟨F, hF⟩ := hkw f n ks _ hk
    obtain ⟨fd, o⟩ := hf f F hF
    have e1 := (o.b.kwd n ks hk).1
    rw [hini c k' f F hc hi hF] at e1
    exact hcm c k' hc (Option.some.inj e1)
  have hmk0 : ∀ f n ks perm, nm.kw f n ks perm = true → perm ≠ [kwM] → ∀ (l : Nat) (sp : Sp), (∀ vs H Q E, ¬ sp vs H Q E) → ∃ dvs, Dfl T nm K f dvs ∧ MkK P w K mg base C8.CX0 l (nm.fa f) n ks perm dvs sp := fun f n ks perm hk hpp l sp h => by
    obtain ⟨F, hF⟩ := hkw f n ks perm hk
    obtain ⟨fd, o⟩ := hf f F hF
    exact ⟨_, dfl_ok hF o, mkk_none o hk hpp h⟩
  have b0 : ∀ N, Bs T (run T 0) nm { G with N := N, it := false } P w K mg base 0 := fun N => by
    refine ⟨hT, hG0 N, fun f => fnr_none (spO_bad fun _ _ => rfl), fun c k' f _ _ => fnr_none (spI_bad fun _ _ => rfl), fun f n ks perm hk => ?_, fun c k' f n ks perm hc hi hk => hmk0 f n ks perm hk (hpm c k' f n ks perm hc hi hk) _ _ (spI_bad fun _ _ => rfl), fun f n ks hk => fnw_none (spW_bad fun _ _ => rfl), fun z => Bool.noConfusion z⟩
    obtain ⟨F, hF⟩ := hkw f n ks perm hk
    obtain ⟨fd, o⟩ := hf f F hF
    exact ⟨_, dfl_ok hF o, fnk_none (spO_bad fun _ _ => rfl)⟩
  have hbase : ∀ (m : Nat) (c : Nat) (k' : Cl) (f j : Nat), T.cls[c]? = some k' → k'.its = some j → k'.meths.lookup nIter = some f → ItR T P w K mg base C8.CX0 (m + 4) nm (nm.fa f) c j := fun m c k' f j hc hj hm => by
    obtain ⟨F, hF, hs, hin, hb⟩ := hit c k' f j hc hj hm
    obtain ⟨fd, o⟩ := hf f F hF
    have z := itr_ok o hs hin hb (b0 (fi f).N) (c := c)
    intro A outer s H u v fs ds g cs Q hr
    exact z A outer s H u v fs ds g cs Q (hr.mono (by omega))
  intro k
  induction k with
  | zero =>
    intro N
    refine ⟨hT, hG N, fun f => fnr_none (spO_bad fun _ _ => rfl), fun c k' f _ _ => fnr_none (spI_bad fun _ _ => rfl), fun f n ks perm hk => ?_, fun c k' f n ks perm hc hi hk => hmk0 f n ks perm hk (hpm c k' f n ks perm hc hi hk) _ _ (spI_bad fun _ _ => rfl), fun f n ks hk => fnw_none (spW_bad fun _ _ => rfl), fun _ c k' f j hc hj hm => hbase 0 c k' f j hc hj hm⟩
    obtain ⟨F, hF⟩ := hkw f n ks perm hk
    obtain ⟨fd, o⟩ := hf f F hF
    exact ⟨_, dfl_ok hF o, fnk_none (spO_bad fun _ _ => rfl)⟩
  | succ k IH =>
    intro N
    refine ⟨hT, hG N, fun f => ?_, fun c k' f hc hk' => ?_, fun f n ks perm hk => ?_, fun c k' f n ks perm hc hi0 hk => ?_, fun f n ks hk => ?_, fun _ c k' f j hc hj hm => hbase (4 * (k + 1)) c k' f j hc hj hm⟩
    · cases hF : T.fns[f]? with
      | none => exact fnr_none (spO_bad fun _ _ => run_out hF)
      | some F =>
        obtain ⟨fd, o⟩ := hf f F hF
        cases hi : F.ini with
        | some c => exact fnr_none (spO_bad fun _ _ => run_ini hF hi)
        | none =>
          cases hs : F.star with
          | true => exact fn_starred hF o hs hi (IH (fi f).N)
          | false => exact (FnOk.raw (fn_plain hF o hs hi (IH (fi f).N)) (binds_plain o hs (by rw [hi]; simp)) .nil).imp fun vs H Q E h => by rw [List.append_nil]; exact h
    · cases hF : T.fns[f]? with
      | none => exact fnr_none (spI_bad fun _ _ => run_out hF)
      | some F =>
        obtain ⟨fd, o⟩ := hf f F hF
        have hi := hini c k' f F hc hk' hF
        cases hs : F.star with
        | true => exact ini_starred hF o hs hi (hcm c k' hc) (IH (fi f).N)
        | false => exact (FnOk.raw (ini_plain hF o hs hi (hcm c k' hc) (IH (fi f).N)) (binds_plain o hs (by rw [hi]; exact fun e => hcm c k' hc (Option.some.inj e))) .nil).imp fun vs H Q E h => by rw [List.append_nil]; exact h
    · obtain ⟨F, hF⟩ := hkw f n ks perm hk
      obtain ⟨fd, o⟩ := hf f F hF
      cases hi : F.ini with
      | some c => exact ⟨_, dfl_ok hF o, fnk_none (spO_bad fun _ _ => run_ini hF hi)⟩
      | none => exact ⟨_, dfl_ok hF o, kw_plain hF o hi (IH (fi f).N) hk fun e => by
        subst e
        have z := (o.b.kwd n ks hk).1
        rw [hi] at z
        cases z⟩
    · obtain ⟨F, hF⟩ := hkw f n ks perm hk
      obtain ⟨fd, o⟩ := hf f F hF
      exact ⟨_, dfl_ok hF o, mk_plain hF o (hini c k' f F hc hi0 hF) (hcm c k' hc) (IH (fi f).N) hk (hpm c k' f n ks perm hc hi0 hk)⟩
    · obtain ⟨F, hF⟩ := hkw f n ks _ hk
      obtain ⟨fd, o⟩ := hf f F hF
      exact fn_kww hF o (IH (fi f).N) hk
end
end Dv
end
section
set_option Elab.async false
set_option linter.all false
set_option maxRecDepth 100000
set_option maxHeartbeats 4000000
namespace Dv
open PySem PySem.Spec PyProof.Rows L2
/-! ### a law's data, and the look at the heap behind the top -/
inductive FW where
  | glo (x : Str) | meth (x m : Str) | prp (x m : Str) | cm (x m : Str)
def FW.ad (K : PySem.W.Frag) : FW → Addr
  | .glo x => He.ga K x
  | .meth x m => He.ma K (He.ga K x) m
  | .prp x m => match PySem.W.recIn K (He.ma K (He.ga K x) m) "property" with
    | some (.ref g :: _) => g
    | _ => 0
  | .cm x m => match PySem.W.recIn K (He.ma K (He.ga K x) m) "classmethod" with
    | some (.ref g :: _) => g
    | _ => 0
structure LD where
  T : Tab
  cn : List Str
  ats : List Str
  mts : List Str
  fi : List FI
  fw : List FW
  glo : List (Str × GV)
  kw : List (Nat × Nat × List Str × List Nat)
def LD.ca (L : LD) (K : PySem.W.Frag) (c : Nat) : Addr := He.ga K (L.cn.getD c ⟨#[]⟩)
def LD.fa (L : LD) (K : PySem.W.Frag) (f : Nat) : Addr := (L.fw.getD f (.glo ⟨#[]⟩)).ad K
def LD.mt (L : LD) (m : Nat) : Str := L.mts.getD m ⟨#[]⟩
def LD.kwB (L : LD) (f n : Nat) (ks : List Str) (perm : List Nat) : Bool := L.kw.contains (f, n, ks, perm)
def LD.nm (L : LD) (K : PySem.W.Frag) : Nm := ⟨L.ca K, mkAt L.ats, L.fa K, L.mt, L.kwB⟩
def LD.gi (L : LD) : Gi := ⟨[], fun x => L.glo.lookup x, mkAt L.ats, L.mt, L.kwB, L.T, true⟩
def tB : List String := ["int", "bool", "str", "list", "tuple", "dict"]
def tN : List String := ["NoneType", "bool", "int", "str", "tuple", "list", "dict"]
def prpB (K : PySem.W.Frag) (C : Addr) (x : Str) (g : Addr) : Bool :=
  He.eqO (PySem.W.findIn K (.ref C) x) (some (some (.ref (He.ma K C x)))) && He.eqO (PySem.W.specialIn K (.ref (He.ma K C x)) "__get__") (some (some (.builtin "property.__get__"))) &&
    decide (PySem.W.takesIn K (.ref (He.ma K C x)) = some true) && (match PySem.W.recIn K (He.ma K C x) "property" with
    | some (.ref b :: _) => decide (b = g)
    | _ => false)
theorem prpB_ok {K : PySem.W.Frag} {C g : Addr} {x : Str} (h : prpB K C x g = true) : PropOf K C x (He.ma K C x) g := by
  unfold prpB at h
  simp only [Bool.and_eq_true, decide_eq_true_eq] at h
  obtain ⟨⟨⟨h1, h2⟩, h3⟩, h4⟩ := h
  refine ⟨He.eqO_ok h1, He.eqO_ok h2, h3, ?_⟩
  split at h4
  · rename_i b r q
    exact ⟨r, by rw [← of_decide_eq_true h4]; exact q⟩
  · cases h4
def vB : D → Value → Bool
  | .int i, .int j _ => i == j
  | .str x, .str y _ => x == y
  | .bl b, .bool c => b == c
  | .non, .none => true
  | _, _ => false
def vsB : List D → List Value → Bool
  | [], [] => true
  | d :: ds, v :: vs => vB d v && vsB ds vs
  | _, _ => false
theorem vB_ok {K : PySem.W.Frag} {nm : Nm} {d : D} {u : Value} (h : vB d u = true) : ∃ v, RelV v u ∧ ∀ g H, Rep K nm g H d v := by
  unfold vB at h
  split at h
  · rw [beq_iff_eq] at h
    subst h
    exact ⟨.int _, ⟨_, rfl⟩, fun _ _ => .int _⟩
  · rw [beq_iff_eq] at h
    subst h
    exact ⟨.str _, ⟨_, rfl⟩, fun _ _ => .str _⟩
  · rw [beq_iff_eq] at h
    subst h
    exact ⟨.bl _, rfl, fun _ _ => .bl _⟩
  · exact ⟨.non, rfl, fun _ _ => .non⟩
  · cases h
theorem vsB_ok {K : PySem.W.Frag} {nm : Nm} : ∀ {ds : List D} {us : List Value}, vsB ds us = true → ∃ vs, Vals vs us ∧ ∀ g H, Reps K nm g H ds vs
  | [], [], _ => ⟨[], .nil, fun _ _ => .nil⟩
  | d :: ds, u :: us, h => by
    simp only [vsB, Bool.and_eq_true] at h
    obtain ⟨v, h1, h2⟩ := vB_ok (K := K) (nm := nm) h.1
    obtain ⟨vs, h3, h4⟩ := vsB_ok (K := K) (nm := nm) h.2
    exact ⟨v :: vs, .cons h1 h3, fun g H => .cons (h2 g H) (h4 g H)⟩
  | [], _ :: _, h => by simp [vsB] at h
  | _ :: _, [], h => by simp [vsB] at h
def tupB (K : PySem.W.Frag) (ds : List D) (a : Addr) : Bool := match K.lookup a with
  | some o => He.eqO (some (some o.cls)) (some (some (.type "tuple"))) && (match o.data with
    | .seq its _ => decide (its.size ≤ sizeLine) && vsB ds its.toList
    | _ => false)
  | none => false
theorem tupB_ok {K : PySem.W.Frag} {nm : Nm} {ds : List D} {a : Addr} (h : tupB K ds a = true) : ∀ g H, Rep K nm g H (.tup ds) (.ref a) := by
  unfold tupB at h
  split at h
  · rename_i o q
    rw [Bool.and_eq_true] at h
    have c1 := He.eqO_ok h.1
    have c2 := h.2
    split at c2
    · rename_i its n q3
      rw [Bool.and_eq_true, decide_eq_true_eq] at c2
      obtain ⟨vs, h3, h4⟩ := vsB_ok (K := K) (nm := nm) c2.2
      exact fun g H => .tupK (fun H => .inr ⟨o, its, n, q, by simpa using c1, q3, c2.1, h3⟩) (h4 g H)
    · cases c2
  · cases h
def cvB (K : PySem.W.Frag) (C : Addr) (f : Str) (d : D) : Bool := match PySem.W.findCls K (.ref C) (.type "type") f with
  | some (.val u) => vB d u || (match d, u with
    | .tup ds, .ref a => tupB K ds a
    | _, _ => false)
  | _ => false
theorem cvB_ok {K : PySem.W.Frag} {nm : Nm} {C : Addr} {f : Str} {d : D} (h : cvB K C f d = true) : ∃ v u, ClX.CVal K C (.type "type") f v u ∧ ∀ g H, Rep K nm g H d v := by
  unfold cvB at h
  split at h
  · rename_i u q
    rw [Bool.or_eq_true] at h
    rcases h with h | h
    · obtain ⟨v, h1, h2⟩ := vB_ok (K := K) (nm := nm) h
      exact ⟨v, u, ⟨q, h1⟩, h2⟩
    · split at h
      · rename_i ds a
        unfold tupB at h
        split at h
        · rename_i o q2
          rw [Bool.and_eq_true] at h
          obtain ⟨h1, h2⟩ := h
          have h1 := He.eqO_ok h1
          split at h2
          · rename_i its n q3
            rw [Bool.and_eq_true, decide_eq_true_eq] at h2
            obtain ⟨vs, h3, h4⟩ := vsB_ok (K := K) (nm := nm) h2.2
            exact ⟨.ref a, _, ⟨q, rfl⟩, fun g H => .tupK (fun H => .inr ⟨o, its, n, q2, by simpa using h1, q3, h2.1, h3⟩) (h4 g H)⟩
          · cases h2
        · cases h
      · cases h
  · cases h
def crB (K : PySem.W.Frag) (C : Addr) : Bool := PySem.W.readsIn K C (.type "type") && He.eqO (PySem.W.specialIn K (.ref C) "__getattribute__") (some (some (.builtin "type.__getattribute__")))
theorem crB_ok {K : PySem.W.Frag} {C : Addr} (h : crB K C = true) : ClX.CRead K C (.type "type") := by
  unfold crB at h
  rw [Bool.and_eq_true] at h
  exact ⟨h.1, He.eqO_ok h.2⟩
def cmB (K : PySem.W.Frag) (C : Addr) (m : Str) (g : Addr) : Bool := match PySem.W.findCls K (.ref C) (.type "type") m with
  | some (.get (.builtin s) (.ref p) .none (.ref C')) => s == "classmethod.__get__" && decide (C' = C) && (match PySem.W.recIn K p "classmethod" with
    | some (.ref g' :: _) => decide (g' = g)
    | _ => false) && PySem.W.fnIn K g
  | _ => false
theorem cmB_ok {K : PySem.W.Frag} {C g : Addr} {m : Str} (h : cmB K C m g = true) : ∃ p, ClX.CMet K C (.type "type") m p g := by
  unfold cmB at h
  split at h
  · rename_i s p C' q
    simp only [Bool.and_eq_true, beq_iff_eq, decide_eq_true_eq] at h
    obtain ⟨⟨⟨h1, h2⟩, h3⟩, h4⟩ := h
    subst h1 h2
    split at h3
    · rename_i g' r q2
      have := of_decide_eq_true h3
      subst this
      exact ⟨p, q, ⟨r, q2⟩, h4⟩
    · cases h3
  · cases h
def clsB (L : LD) (K : PySem.W.Frag) (c : Nat) (k : Cl) : Bool :=
  (PySem.W.plainGet K (L.ca K c) Str.empty && PySem.W.hasDictIn K (L.ca K c) && PySem.W.plainOver K (L.ca K c) && He.eqO (PySem.W.findIn K (.ref (L.ca K c)) "__setattr__") (some (some (.builtin "object.__setattr__")))) &&
  (k.atr.all fun j => He.eqO (PySem.W.findIn K (.ref (L.ca K c)) (mkAt L.ats j)) (some none)) &&
  (k.meths.all fun p => He.eqO (PySem.W.findIn K (.ref (L.ca K c)) (L.mt p.1)) (some (some (.ref (L.fa K p.2)))) && PySem.W.isFn K (.ref (L.fa K p.2)) && PySem.W.keepIn K (.ref (L.fa K p.2)) && PySem.W.fnIn K (L.fa K p.2)) &&
  (k.init.all fun f => PySem.W.makesIn K (L.ca K c) && He.eqO (PySem.W.findIn K (.ref (L.ca K c)) "__init__") (some (some (.ref (L.fa K f)))) && PySem.W.isFn K (.ref (L.fa K f)) && PySem.W.keepIn K (.ref (L.ca K c))) &&
  (k.props.all fun p => prpB K (L.ca K c) (mkAt L.ats p.1) (L.fa K p.2)) &&
  PySem.W.selfFirst K (L.ca K c) &&
  (He.eqO (PySem.W.findIn K (.ref (L.ca K c)) "__class__") (some (some (.builtin "object.__class__"))) && He.eqO (PySem.W.specialIn K (.builtin "object.__class__") "__get__") (some (some (.builtin "getset_descriptor.__get__"))) &&
    decide (PySem.W.takesIn K (.builtin "object.__class__") = some true) && decide (PySem.W.mroIn K (L.ca K c) (.type "object") = some true)) &&
  ((List.range L.T.cls.length).all fun c' => decide (PySem.W.kitOne K (.ref (L.ca K c)) (.ref (L.ca K c')) = some (k.anc.contains c')) && PySem.W.notFirst K (L.ca K c) (.ref (L.ca K c'))) &&
  (tB.all fun t => decide (PySem.W.kitOne K (.ref (L.ca K c)) (.type t) = some false)) &&
  (tN.all fun t => decide (PySem.W.kitOne K (.type t) (.ref (L.ca K c)) = some false) && PySem.W.notFirst K (L.ca K c) (.type t)) &&
  PySem.W.noIn K (L.ca K c) (Operator.info .Add).2 &&
  PySem.W.noSeq K (L.ca K c) &&
  ((k.meths.lookup nEq).isNone || He.eqO (PySem.W.findIn K (.ref (L.ca K c)) "__ne__") (some (some (.builtin "object.__ne__")))) &&
  ((k.cvs.isEmpty && k.cms.isEmpty || crB K (L.ca K c)) && (k.cvs.all fun p => cvB K (L.ca K c) (mkAt L.ats p.1) p.2) && (k.cms.all fun p => cmB K (L.ca K c) (L.mt p.1) (L.fa K p.2)))
def LD.clsAll (L : LD) (K : PySem.W.Frag) : Bool := (List.range L.T.cls.length).all fun c => match L.T.cls[c]? with
  | some k => clsB L K c k
  | none => false
def dns : List Str := ["__eq__", "__add__", "__invert__", "__str__", "__len__", "__iter__", "__bool__", "__contains__", "__getitem__", "__call__", "__or__", "__and__", "__sub__"]
/-- the names are right -/
def LD.sane (L : LD) : Bool := decide L.ats.Nodup && (L.ats.all fun x => x.cps.all (· < 1114112)) && (L.mts.all fun x => x.cps.all (· < 1114112) && !L.ats.contains x) && !L.ats.contains ⟨#[]⟩ && decide (L.mts.take 13 = dns) && decide (L.fi.length = L.T.fns.length) && decide (L.fw.length = L.T.fns.length) && (L.kw.all fun q => decide (q.1 < L.T.fns.length)) &&
  ((List.range L.T.cls.length).all fun c => match L.T.cls[c]? with
    | some k => (match k.init with
      | some f => (match L.T.fns[f]? with
        | some F => decide (F.ini = some c)
        | none => true)
      | none => true)
    | none => true)
theorem mem_of_lookup {α β : Type} [BEq α] [LawfulBEq α] {a : α} {b : β} : ∀ {l : List (α × β)}, l.lookup a = some b → (a, b) ∈ l
  | [], h => by cases h
  | (x, y) :: r, h => by
    rw [List.lookup_cons] at h
    cases q : (a == x) with
    | true =>
      rw [q] at h
      cases h
      rw [eq_of_beq q]
      exact List.mem_cons_self
    | false =>
      rw [q] at h
      exact List.mem_cons_of_mem _ (mem_of_lookup h)
section
variable {L : LD} {K : PySem.W.Frag}
theorem cls_of (h : L.clsAll K = true) {c : Nat} {k : Cl} (e : L.T.cls[c]? = some k) : clsB L K c k = true := by
  have hc : c < L.T.cls.length := by
    rcases Nat.lt_or_ge c L.T.cls.length with q | q
    · exact q
    · rw [List.getElem?_eq_none q] at e; cases e
  have := List.all_eq_true.mp h c (List.mem_range.mpr hc)
  rw [e] at this
  exact this
theorem cls_lt {c : Nat} {k : Cl} (e : L.T.cls[c]? = some k) : c < L.T.cls.length := by
  rcases Nat.lt_or_ge c L.T.cls.length with q | q
  · exact q
  · rw [List.getElem?_eq_none q] at e; cases e
theorem mt_at (hs : L.sane = true) (m j : Nat) : L.mt m ≠ mkAt L.ats j := by
  unfold LD.sane at hs
  simp only [Bool.and_eq_true, List.all_eq_true, decide_eq_true_eq] at hs
  obtain ⟨⟨⟨⟨⟨⟨⟨⟨s1, s2⟩, s3⟩, s4⟩, s5⟩, s6⟩, s7⟩, s8⟩, s9⟩ := hs
  intro e
  unfold LD.mt mkAt at e
  rw [List.getD_eq_getElem?_getD, List.getD_eq_getElem?_getD] at e
  cases q1 : L.ats[j]? with
  | some x =>
    have hx := List.mem_of_getElem? q1
    rw [q1] at e
    cases q2 : L.mts[m]? with
    | some y =>
      rw [q2] at e
      have e : y = x := e
      have := (s3 y (List.mem_of_getElem? q2)).2
      rw [e] at this
      simp [hx] at this
    | none =>
      rw [q2] at e
      have e : (⟨#[]⟩ : Str) = x := e
      rw [e] at s4
      simp [hx] at s4
  | none =>
    rw [q1] at e
    cases q2 : L.mts[m]? with
    | some y =>
      rw [q2] at e
      have e : y = ⟨#[1114112 + j]⟩ := e
      have := (s3 y (List.mem_of_getElem? q2)).1
      rw [e] at this
      simp at this
      omega
    | none =>
      rw [q2] at e
      have e : (⟨#[]⟩ : Str) = ⟨#[1114112 + j]⟩ := e
      cases e
theorem mts_get (hs : L.sane = true) (i : Nat) (hi : i < 13) : L.mt i = dns.getD i ⟨#[]⟩ := by
  unfold LD.sane at hs
  simp only [Bool.and_eq_true, List.all_eq_true, decide_eq_true_eq] at hs
  obtain ⟨⟨⟨⟨⟨⟨⟨⟨s1, s2⟩, s3⟩, s4⟩, s5⟩, s6⟩, s7⟩, s8⟩, s9⟩ := hs
  unfold LD.mt
  rw [List.getD_eq_getElem?_getD, List.getD_eq_getElem?_getD, ← s5, List.getElem?_take, if_pos hi]
theorem top_ok (hs : L.sane = true) (h : L.clsAll K = true) : Top L.T (L.nm K) K := by
  have key : ∀ {c k}, L.T.cls[c]? = some k → _ := fun {c k} e => by
    have z := cls_of h e
    unfold clsB at z
    simp only [Bool.and_eq_true, decide_eq_true_eq, List.all_eq_true, Option.all_eq_true, Bool.or_eq_true, Option.isNone_iff_eq_none] at z
    exact z
  have hs' := hs
  unfold LD.sane at hs'
  simp only [Bool.and_eq_true, List.all_eq_true, decide_eq_true_eq] at hs'
  obtain ⟨⟨⟨⟨⟨⟨⟨⟨s1, s2⟩, s3⟩, s4⟩, s5⟩, s6⟩, s7⟩, s8⟩, s9⟩ := hs'
  refine { nmok := ?_, cls := ?_, at_ := ?_, met := ?_, mkr := ?_, prp := ?_, sf := ?_, insT := ?_, kCC := ?_, kCB := ?_, kBC := ?_, noi := ?_, mtat := mt_at hs, nosq := ?_, fni := ?_, ne := ?_, nfT := ?_, nfC := ?_, cvl := ?_, cmt := ?_, dn := ?_ }
  · exact mkAt_inj s1 s2
  · intro c k e
    obtain ⟨⟨⟨⟨⟨⟨⟨⟨⟨⟨⟨⟨⟨z1, z2⟩, z3⟩, z4⟩, z5⟩, z6⟩, z7⟩, z8⟩, z9⟩, z10⟩, z11⟩, z12⟩, z13⟩, z14⟩ := key e
    exact ⟨z1.1.1.1, z1.1.1.2, z1.1.2, He.eqO_ok z1.2⟩
  · intro c k j e hj
    obtain ⟨⟨⟨⟨⟨⟨⟨⟨⟨⟨⟨⟨⟨z1, z2⟩, z3⟩, z4⟩, z5⟩, z6⟩, z7⟩, z8⟩, z9⟩, z10⟩, z11⟩, z12⟩, z13⟩, z14⟩ := key e
    exact He.eqO_ok (z2 j hj)
  · intro c k m f e hl
    obtain ⟨⟨⟨⟨⟨⟨⟨⟨⟨⟨⟨⟨⟨z1, z2⟩, z3⟩, z4⟩, z5⟩, z6⟩, z7⟩, z8⟩, z9⟩, z10⟩, z11⟩, z12⟩, z13⟩, z14⟩ := key e
    obtain ⟨⟨⟨w1, w2⟩, w3⟩, w4⟩ := z3 _ (mem_of_lookup hl)
    exact ⟨He.eqO_ok w1, w2, w3⟩
  · intro c k f e hi
    obtain ⟨⟨⟨⟨⟨⟨⟨⟨⟨⟨⟨⟨⟨z1, z2⟩, z3⟩, z4⟩, z5⟩, z6⟩, z7⟩, z8⟩, z9⟩, z10⟩, z11⟩, z12⟩, z13⟩, z14⟩ := key e
    obtain ⟨⟨⟨w1, w2⟩, w3⟩, w4⟩ := z4 f hi
    exact ⟨w1, He.eqO_ok w2, w3, w4⟩
  · intro c k j f e hl
    obtain ⟨⟨⟨⟨⟨⟨⟨⟨⟨⟨⟨⟨⟨z1, z2⟩, z3⟩, z4⟩, z5⟩, z6⟩, z7⟩, z8⟩, z9⟩, z10⟩, z11⟩, z12⟩, z13⟩, z14⟩ := key e
    exact ⟨_, prpB_ok (z5 _ (mem_of_lookup hl))⟩
  · intro c k e
    obtain ⟨⟨⟨⟨⟨⟨⟨⟨⟨⟨⟨⟨⟨z1, z2⟩, z3⟩, z4⟩, z5⟩, z6⟩, z7⟩, z8⟩, z9⟩, z10⟩, z11⟩, z12⟩, z13⟩, z14⟩ := key e
    exact z6
  · intro c k e
    obtain ⟨⟨⟨⟨⟨⟨⟨⟨⟨⟨⟨⟨⟨z1, z2⟩, z3⟩, z4⟩, z5⟩, z6⟩, z7⟩, z8⟩, z9⟩, z10⟩, z11⟩, z12⟩, z13⟩, z14⟩ := key e
    exact ⟨He.eqO_ok z7.1.1.1, He.eqO_ok z7.1.1.2, z7.1.2, z7.2⟩
  · intro c c' k k' e e'
    obtain ⟨⟨⟨⟨⟨⟨⟨⟨⟨⟨⟨⟨⟨z1, z2⟩, z3⟩, z4⟩, z5⟩, z6⟩, z7⟩, z8⟩, z9⟩, z10⟩, z11⟩, z12⟩, z13⟩, z14⟩ := key e
    exact (z8 c' (List.mem_range.mpr (cls_lt e'))).1
  · intro c k t e ht
    obtain ⟨⟨⟨⟨⟨⟨⟨⟨⟨⟨⟨⟨⟨z1, z2⟩, z3⟩, z4⟩, z5⟩, z6⟩, z7⟩, z8⟩, z9⟩, z10⟩, z11⟩, z12⟩, z13⟩, z14⟩ := key e
    exact z9 t ht
  · intro c k t e ht
    obtain ⟨⟨⟨⟨⟨⟨⟨⟨⟨⟨⟨⟨⟨z1, z2⟩, z3⟩, z4⟩, z5⟩, z6⟩, z7⟩, z8⟩, z9⟩, z10⟩, z11⟩, z12⟩, z13⟩, z14⟩ := key e
    exact (z10 t ht).1
  · intro c k e
    obtain ⟨⟨⟨⟨⟨⟨⟨⟨⟨⟨⟨⟨⟨z1, z2⟩, z3⟩, z4⟩, z5⟩, z6⟩, z7⟩, z8⟩, z9⟩, z10⟩, z11⟩, z12⟩, z13⟩, z14⟩ := key e
    exact z11
  · intro c k e
    obtain ⟨⟨⟨⟨⟨⟨⟨⟨⟨⟨⟨⟨⟨z1, z2⟩, z3⟩, z4⟩, z5⟩, z6⟩, z7⟩, z8⟩, z9⟩, z10⟩, z11⟩, z12⟩, z13⟩, z14⟩ := key e
    exact z12
  · intro c k m f e hl
    obtain ⟨⟨⟨⟨⟨⟨⟨⟨⟨⟨⟨⟨⟨z1, z2⟩, z3⟩, z4⟩, z5⟩, z6⟩, z7⟩, z8⟩, z9⟩, z10⟩, z11⟩, z12⟩, z13⟩, z14⟩ := key e
    exact (z3 _ (mem_of_lookup hl)).2
  · intro c k f e hl
    obtain ⟨⟨⟨⟨⟨⟨⟨⟨⟨⟨⟨⟨⟨z1, z2⟩, z3⟩, z4⟩, z5⟩, z6⟩, z7⟩, z8⟩, z9⟩, z10⟩, z11⟩, z12⟩, z13⟩, z14⟩ := key e
    rcases z13 with q | q
    · rw [q] at hl; cases hl
    · exact ⟨He.eqO_ok q, z7.2⟩
  · intro c k t e ht
    obtain ⟨⟨⟨⟨⟨⟨⟨⟨⟨⟨⟨⟨⟨z1, z2⟩, z3⟩, z4⟩, z5⟩, z6⟩, z7⟩, z8⟩, z9⟩, z10⟩, z11⟩, z12⟩, z13⟩, z14⟩ := key e
    exact (z10 t ht).2
  · intro c k c' k' e e'
    obtain ⟨⟨⟨⟨⟨⟨⟨⟨⟨⟨⟨⟨⟨z1, z2⟩, z3⟩, z4⟩, z5⟩, z6⟩, z7⟩, z8⟩, z9⟩, z10⟩, z11⟩, z12⟩, z13⟩, z14⟩ := key e
    exact (z8 c' (List.mem_range.mpr (cls_lt e'))).2
  · intro c k j d e hl
    obtain ⟨⟨⟨⟨⟨⟨⟨⟨⟨⟨⟨⟨⟨z1, z2⟩, z3⟩, z4⟩, z5⟩, z6⟩, z7⟩, z8⟩, z9⟩, z10⟩, z11⟩, z12⟩, z13⟩, z14⟩ := key e
    have hm := mem_of_lookup hl
    obtain ⟨v, u, w1, w2⟩ := cvB_ok (nm := L.nm K) (z14.1.2 _ hm)
    rcases z14.1.1 with q | q
    · have : k.cvs = [] := by simpa using q.1
      rw [this] at hm
      cases hm
    · exact ⟨_, v, u, crB_ok q, w1, w2⟩
  · intro c k m f e hl
    obtain ⟨⟨⟨⟨⟨⟨⟨⟨⟨⟨⟨⟨⟨z1, z2⟩, z3⟩, z4⟩, z5⟩, z6⟩, z7⟩, z8⟩, z9⟩, z10⟩, z11⟩, z12⟩, z13⟩, z14⟩ := key e
    have hm := mem_of_lookup hl
    obtain ⟨p, w1⟩ := cmB_ok (z14.2 _ hm)
    rcases z14.1.1 with q | q
    · have : k.cms = [] := by simpa using q.2
      rw [this] at hm
      cases hm
    · exact ⟨_, p, crB_ok q, w1⟩
  · exact ⟨mts_get hs 0 (by decide), mts_get hs 1 (by decide), mts_get hs 2 (by decide), mts_get hs 3 (by decide), mts_get hs 4 (by decide), mts_get hs 5 (by decide), mts_get hs 6 (by decide), mts_get hs 7 (by decide), mts_get hs 8 (by decide), mts_get hs 9 (by decide), mts_get hs 10 (by decide), mts_get hs 11 (by decide), mts_get hs 12 (by decide)⟩
end
end Dv
end
section
set_option Elab.async false
set_option linter.all false
set_option maxRecDepth 100000
set_option maxHeartbeats 4000000
namespace Dv
open PySem PySem.Spec PyProof.Rows L2
/-! ### the Hook and the end -/
def fnA (K : PySem.W.Frag) (a : Addr) : He.FnW := match K.lookup a with
  | some ⟨_, _, .func fd, _⟩ => some (fd.name, fd.qualname, fd.params, fd.body, fd.scope, fd.globals, fd.closure, fd.builtins)
  | _ => none
def FI.val (d : FI) : He.FnW := some (d.name, d.qual, d.params, .stmts d.body, d.scope, mainGlobals, [], builtinsNs)
def okA (K : PySem.W.Frag) (qual : Str) (dvs : List V) (a : Addr) : Bool := PySem.W.keepIn K (.ref a) && (match K.lookup a with
  | some ⟨_, _, .func fd, _⟩ => PySem.W.codeIn K fd.code qual && (He.dflB K fd.defaults dvs && He.kwdB K fd.kwdefaults [])
  | _ => false)
theorem funA {K : PySem.W.Frag} {d : FI} {a : Addr} (e : fnA K a = d.val) (c : okA K d.qual d.dvs a = true) : ∃ fd, FunD K d.name d.qual d.params d.body d.scope d.dvs [] a fd := by
  unfold okA at c
  obtain ⟨kp, c2⟩ := He.ba c
  unfold fnA at e
  cases q : K.lookup a with
  | none =>
    rw [q] at c2
    cases c2
  | some o =>
    obtain ⟨oc, od, dt, osl⟩ := o
    rw [q] at c2 e
    cases dt with
    | func fd =>
      obtain ⟨n1, n2, n3, n4, n5, n6, n7, n8, n9, n10, n11, n12, n13, n14, n15⟩ := fd
      have e2 : (some (n1, n2, n3, n4, n5, n6, n7, n15) : He.FnW) = some (d.name, d.qual, d.params, .stmts d.body, d.scope, mainGlobals, [], builtinsNs) := e
      simp only [Option.some.injEq, Prod.mk.injEq] at e2
      obtain ⟨h1, h2, h3, h4, h5, h6, h7, h8⟩ := e2
      subst h1 h2 h3 h4 h5 h6 h7 h8
      have c3 : (PySem.W.codeIn K n13 d.qual && (He.dflB K n8 d.dvs && He.kwdB K n9 [])) = true := c2
      obtain ⟨k1, k2⟩ := He.ba c3
      obtain ⟨k3, k4⟩ := He.ba k2
      exact ⟨_, ⟨oc, od, n8, n9, n10, n11, n12, n13, n14, osl, rfl, q, k1, He.dflB_ok k3, He.kwdB_ok k4⟩, kp⟩
    | _ => cases c2
def gloB (L : LD) (K : PySem.W.Frag) (p : Str × GV) : Bool := match p.2 with
  | .fn f => He.eqO (PySem.W.nsIn K mainGlobals p.1) (some (some (.ref (L.fa K f)))) && PySem.W.keepIn K (.ref (L.fa K f))
  | .cls c => He.eqO (PySem.W.nsIn K mainGlobals p.1) (some (some (.ref (L.ca K c))))
  | .blt => He.eqO (PySem.W.nsIn K mainGlobals p.1) (some none)
  | .const j => match PySem.W.nsIn K mainGlobals p.1, L.T.consts[j]? with
    | some (some (.ref a)), some (.tup ds) => tupB K ds a
    | some (some (.int i _)), some (.int i') => decide (i = i')
    | some (some (.str i _)), some (.str i') => decide (i = i')
    | some (some .none), some .non => true
    | _, _ => false
def LD.exB (L : LD) (K : PySem.W.Frag) : Bool := L.clsAll K && L.glo.all (gloB L K) && (L.fi.zip L.fw).all fun q => okA K q.1.qual q.1.dvs (q.2.ad K)
def LD.obs (L : LD) (K : PySem.W.Frag) : He.AlD := (L.exB K, L.fw.map fun w => fnA K (w.ad K))
def LD.val (L : LD) : He.AlD := (true, L.fi.map FI.val)
def LD.obsG (L : LD) (n : Nat) (g : Addr → Option Obj) : He.AlD := L.obs (He.frT g (He.asD g n ++ [cStatics]))
def LD.hook (L : LD) (n : Nat) : PySem.W.Hook where
  α := He.AlD
  obs := fun s => L.obsG n s.heap.get?
  val := fun _ => L.val
  says := fun _ h => ∃ K : PySem.W.Frag, K.In h ∧ L.obs K = L.val
  of := fun _ _ e => ⟨_, He.frT_in, e⟩
  keeps := fun _ _ _ ⟨K, hK, c⟩ k => ⟨K, PySem.W.Frag.In.keeps hK k, c⟩
def LD.ob (L : LD) (n : Nat) (s : PySem.W.SharedT) : He.AlD := L.obsG n (HandSHeadRun.getT s)
theorem LD.ob_eq (L : LD) (n : Nat) (s : PySem.W.SharedT) : L.ob n s = (L.hook n).obs s.abs := by
  have e : HandSHeadRun.getT s = s.abs.heap.get? := funext (HandSHeadRun.getT_eq s)
  unfold LD.ob
  rw [e] <;> rfl
def noFI : FI := ⟨⟨#[]⟩, ⟨#[]⟩, ⟨[], [], none, [], [], none, []⟩, [], ⟨.function, [], false, false, []⟩, [], [], []⟩
def LD.fiAt (L : LD) (f : Nat) : FI := L.fi.getD f noFI
def LD.chkD (L : LD) : Bool := (List.range L.T.fns.length).all fun f => match L.T.fns[f]? with
  | some F => chkF L.gi F (L.fiAt f)
  | none => true
def LD.itB (L : LD) : Bool := L.T.cls.all fun k => match k.its, k.meths.lookup nIter with
  | some j, some f => (match L.T.fns[f]? with
    | some F => !F.star && (F.ini.isNone && iterB L.gi (L.fiAt f) j)
    | none => false)
  | _, _ => true
def LD.chk (L : LD) : Bool := L.chkD && (L.itB && decide (L.T.cls.length < 1000))
section
variable {L : LD} {K : PySem.W.Frag} {h : Heap} {mg : Str → Option Value}
theorem gok_ok (X : K.In h) (G : h.Ns mainGlobals mg) (c : L.glo.all (gloB L K) = true) (N : List Str) : Gok L.T (L.nm K) K mg { L.gi with N := N } := by
  have key : ∀ {x v}, L.glo.lookup x = some v → gloB L K (x, v) = true := fun hl => List.all_eq_true.mp c _ (mem_of_lookup hl)
  refine ⟨rfl, rfl, rfl, rfl, fun x f hl => ?_, fun x f hl => ?_, fun x hl => ?_, fun x j hl => ?_⟩
  · have z := key hl
    obtain ⟨z1, z2⟩ := He.ba z
    exact ⟨PySem.W.mg_of X G (He.eqO_ok z1), z2⟩
  · exact PySem.W.mg_of X G (He.eqO_ok (key hl))
  · exact PySem.W.mg_none_of X G (He.eqO_ok (key hl))
  · have z : (match PySem.W.nsIn K mainGlobals x, L.T.consts[j]? with
      | some (some (.ref a)), some (.tup ds) => tupB K ds a
      | some (some (.int i _)), some (.int i') => decide (i = i')
      | some (some (.str i _)), some (.str i') => decide (i = i')
      | some (some .none), some .non => true
      | _, _ => false) = true := key hl
    split at z
    · rename_i a ds q1 q2
      exact ⟨_, .ref a, _, PySem.W.mg_of X G q1, rfl, q2, tupB_ok z⟩
    · rename_i i t i' q1 q2
      have e : i = i' := of_decide_eq_true z
      subst e
      exact ⟨_, .int i, _, PySem.W.mg_of X G q1, ⟨t, rfl⟩, q2, fun _ _ => .int _⟩
    · rename_i i t i' q1 q2
      have e : i = i' := of_decide_eq_true z
      subst e
      exact ⟨_, .str i, _, PySem.W.mg_of X G q1, ⟨t, rfl⟩, q2, fun _ _ => .str _⟩
    · rename_i q1 q2
      exact ⟨_, .non, _, PySem.W.mg_of X G q1, rfl, q2, fun _ _ => .non⟩
    · cases z
theorem gok_it {T : Tab} {nm : Nm} {G : Gi} (g : Gok T nm K mg G) : Gok T nm K mg { G with it := false } := ⟨g.at_, g.mt, g.kw, g.tab, g.fn, g.cls, g.blt, g.const⟩
/-- what is shown of the text alone -/
structure LD.Ok (L : LD) : Prop where
  sane : L.sane = true
  chk : L.chk = true
  b : ∀ f F, L.T.fns[f]? = some F → FnB (L.nm []) f F (L.fiAt f)
theorem fn_lt {f : Nat} {F : Fn} (e : L.T.fns[f]? = some F) : f < L.T.fns.length := by
  rcases Nat.lt_or_ge f L.T.fns.length with q | q
  · exact q
  · rw [List.getElem?_eq_none q] at e; cases e
theorem fn_all (ok : L.Ok) (c : L.obs K = L.val) {f : Nat} {F : Fn} (hF : L.T.fns[f]? = some F) : ∃ fd, FOkk (L.nm K) K L.gi f F (L.fiAt f) fd := by
  have c1 : L.exB K = true := congrArg Prod.fst c
  have c2 : (L.fw.map fun w => fnA K (w.ad K)) = L.fi.map FI.val := congrArg Prod.snd c
  have hs := ok.sane
  unfold LD.sane at hs
  simp only [Bool.and_eq_true, List.all_eq_true, decide_eq_true_eq] at hs
  obtain ⟨⟨⟨⟨⟨⟨⟨⟨s1, s2⟩, s3⟩, s4⟩, s5⟩, s6⟩, s7⟩, s8⟩, s9⟩ := hs
  have hl := fn_lt hF
  have e1 : L.fi[f]? = some (L.fiAt f) := by
    unfold LD.fiAt
    rw [List.getD_eq_getElem?_getD, List.getElem?_eq_getElem (by omega)] <;> rfl
  have e2 : L.fw[f]? = some (L.fw.getD f (.glo ⟨#[]⟩)) := by
    rw [List.getD_eq_getElem?_getD, List.getElem?_eq_getElem (by omega)] <;> rfl
  unfold LD.exB at c1
  obtain ⟨_, c3⟩ := He.ba c1
  have hz : (L.fiAt f, L.fw.getD f (.glo ⟨#[]⟩)) ∈ L.fi.zip L.fw := by
    refine List.mem_of_getElem? (i := f) ?_
    rw [List.getElem?_zip_eq_some]
    exact ⟨e1, e2⟩
  have c4 := List.all_eq_true.mp c3 _ hz
  have c5 : fnA K ((L.fw.getD f (.glo ⟨#[]⟩)).ad K) = (L.fiAt f).val := by
    have z : (L.fw.map fun w => fnA K (w.ad K))[f]? = (L.fi.map FI.val)[f]? := by rw [c2]
    rw [List.getElem?_map, List.getElem?_map, e1, e2] at z
    exact Option.some.inj z
  obtain ⟨fd, hfd⟩ := funA c5 c4
  have b := ok.b f F hF
  have hc := List.all_eq_true.mp (show L.chkD = true from (He.ba ok.chk).1) f (List.mem_range.mpr hl)
  rw [hF] at hc
  exact ⟨fd, ⟨hc, hfd, ⟨b.pos, b.posD, b.star, b.kw, b.kwd⟩⟩⟩
theorem bs_of (ok : L.Ok) (c : L.obs K = L.val) (X : K.In h) (G : h.Ns mainGlobals mg) {P : Program} {w : World} {base : Heap} (k : Nat) (N : List Str) : Bs L.T (run L.T k) (L.nm K) { L.gi with N := N } P w K mg base (4 * k + 4) := by
  have c1 : L.exB K = true := congrArg Prod.fst c
  unfold LD.exB at c1
  obtain ⟨c2, c3⟩ := He.ba c1
  obtain ⟨c4, c5⟩ := He.ba c2
  have hs := ok.sane
  unfold LD.sane at hs
  simp only [Bool.and_eq_true, List.all_eq_true, decide_eq_true_eq] at hs
  obtain ⟨⟨⟨⟨⟨⟨⟨⟨s1, s2⟩, s3⟩, s4⟩, s5⟩, s6⟩, s7⟩, s8⟩, s9⟩ := hs
  refine bs_all (G := L.gi) L.fiAt (top_ok ok.sane c4) (fun N => gok_ok X G c5 N) (fun f F hF => fn_all ok c hF) (fun cc k' f F hc hi hF => ?_) (fun f n ks perm hk => ?_) (fun N => gok_it (gok_ok X G c5 N)) (fun cc k' f j hc hj hm => ?_) (fun cc k' hc => ?_) k N
  · have z := s9 cc (List.mem_range.mpr (cls_lt hc))
    rw [hc] at z
    have z : (match k'.init with
      | some f => (match L.T.fns[f]? with
        | some F => decide (F.ini = some cc)
        | none => true)
      | none => true) = true := z
    rw [hi] at z
    have z : (match L.T.fns[f]? with
      | some F => decide (F.ini = some cc)
      | none => true) = true := z
    rw [hF] at z
    exact of_decide_eq_true z
  · have hm : L.kw.contains (f, n, ks, perm) = true := hk
    have := s8 _ (List.contains_iff_mem.mp hm)
    exact ⟨L.T.fns[f], List.getElem?_eq_getElem this⟩
  · have z := List.all_eq_true.mp (show L.itB = true from (He.ba (He.ba ok.chk).2).1) k' (List.mem_of_getElem? hc)
    rw [hj, hm] at z
    have z : (match L.T.fns[f]? with
      | some F => !F.star && (F.ini.isNone && iterB L.gi (L.fiAt f) j)
      | none => false) = true := z
    cases hF : L.T.fns[f]? with
    | none => rw [hF] at z; cases z
    | some F =>
      rw [hF] at z
      have z : (!F.star && (F.ini.isNone && iterB L.gi (L.fiAt f) j)) = true := z
      rw [Bool.and_eq_true, Bool.not_eq_true', Bool.and_eq_true, Option.isNone_iff_eq_none] at z
      exact ⟨F, rfl, z.1, z.2.1, z.2.2⟩
  · have z := of_decide_eq_true (He.ba (He.ba ok.chk).2).2
    have hl := cls_lt hc
    intro e
    rw [e] at hl
    have : kwM = 1000000 := rfl
    omega
/-- the law's def: of one parameter -/
theorem law_of (ok : L.Ok) (c : L.obs K = L.val) (X : K.In h) (G : h.Ns mainGlobals mg) {k f : Nat} {F : Fn} {x y : Str} (hF : L.T.fns[f]? = some F) (hs : F.star = false) (hi : F.ini = none) (hdv : (L.fiAt f).dvs = []) (hps : (L.fiAt f).ps = [y]) {fa : Addr} (hfa : mg x = some (.ref fa)) (hg : L.glo.lookup x = some (.fn f))
    (plain : ∀ ns : List Int, ns.length ≤ 63 → ∃ cs, run L.T (k + 1) false f [.scr (ns.map .int)] [] = .ok (.bl true) cs) :
    ∃ fd : FuncData, (∀ (s : Shared) (u : Value), BindsTo s fd ⟨[u], []⟩ [(y, u)]) ∧ (∀ (H : Hp) (a : Addr) (ns : List Int), ns.length ≤ 63 → Only H → SqL K H a (ns.map V.int) → spO K (L.nm K) E0 (run L.T (k + 1)) f [.ref a] H (fun v _ => v = .bl true) fun _ _ _ => False) ∧
      ∀ (P : Program) (w : World) (base : Heap), K.In base → base.Ns mainGlobals mg → FnOk P w K mg base C8.CX0 (4 * k + 8) fa fd [y] (spO K (L.nm K) E0 (run L.T (k + 1)) f) := by
  obtain ⟨fd, o⟩ := fn_all ok c hF
  have c1 : L.exB K = true := congrArg Prod.fst c
  unfold LD.exB at c1
  obtain ⟨c2, c3⟩ := He.ba c1
  obtain ⟨c4, c5⟩ := He.ba c2
  have e : fa = (L.nm K).fa f := by
    have z := ((gok_ok X G c5 []).fn x f hg).1
    rw [hfa] at z
    cases z
    rfl
  subst e
  refine ⟨fd, fun s u => ?_, fun H a ns hl hO hS => ?_, fun P w base KX NX => ?_⟩
  · have fd1 := o.fd
    rw [hdv] at fd1
    have b := FunD.bindsA (ps := [y]) fd1 (fun kV doc pm an cdv ct us hu => by
      have := o.b.pos hs (by rw [hi]; simp) hdv kV doc pm an cdv ct us (by rw [hps]; exact hu)
      rw [hps] at this
      exact this)
    exact b s [u] rfl
  · obtain ⟨cs, e⟩ := plain ns hl
    refine ⟨rfl, ⟨fun b => H b ≠ none, []⟩, [], [.scr (ns.map .int)], ⟨⟨fun _ q => q, fun b q => (nomatch q), fun b q => (nomatch q), List.nodup_nil⟩, rfl, fun n c b q => (nomatch q)⟩, .cons ?_ .nil, ?_⟩
    · have rr : ∀ (g : Gh) (H : Hp) (ns : List Int), Reps K (L.nm K) g H (ns.map D.int) (ns.map V.int) := fun g H ns => by
        induction ns with
        | nil => exact .nil
        | cons n ns ih => exact .cons (.int n) ih
      rcases hS with (q | ⟨ob, q⟩) | q
      · rcases hO a with z | ⟨ob, xs, z⟩
        · rw [q] at z; cases z
        · rw [q] at z; cases z
      · exact .scr (show H a ≠ none by rw [q]; simp) q (rr _ _ _)
      · exact .scrK (fun _ => .inr q) (rr _ _ _)
    · rw [e]
      intro v g' H' _ _ r
      cases r
      rfl
  · have F1 := fn_plain (P := P) (w := w) (mg := mg) (base := base) hF o hs hi (bs_of ok c KX NX (P := P) (w := w) (base := base) k (L.fiAt f).N)
    rw [hps] at F1
    exact F1
theorem no_kw {f n : Nat} {ks : List Str} {perm : List Nat} (h : (L.nm K).kw f n ks perm = true) (hd : (L.kw.all fun q => q.1 != f) = true) : False := by
  have hk : L.kw.contains (f, n, ks, perm) = true := h
  have := List.all_eq_true.mp hd _ (List.contains_iff_mem.mp hk)
  simp at this
theorem no_kwd {i n : Nat} {ks : List Str} (h : (L.nm K).kw i n ks [kwM] = true) (hd : (L.kw.all fun q => q.1 != i || q.2.2.2 != [kwM]) = true) : False := by
  have hk : L.kw.contains (i, n, ks, [kwM]) = true := h
  have := List.all_eq_true.mp hd _ (List.contains_iff_mem.mp hk)
  simp at this
end
end Dv
end
section
set_option Elab.async false
set_option linter.all false
set_option maxRecDepth 100000
set_option maxHeartbeats 4000000
namespace Dv
open PySem PySem.Spec PyProof.Rows L2
/-! ### stepping through the IR by simp: the first part of a bind alone is looked at -/
@[simp] theorem ofVB_v (f g : Env → Cells → Res D) : (ofVB f g).v = f := rfl
@[simp] theorem ofVB_b (f g : Env → Cells → Res D) : (ofVB f g).b = g := rfl
@[simp] theorem ofVB_t (f g : Env → Cells → Res D) : (ofVB f g).t = fun ρ cs => (f ρ cs).bind fun x cs => truth x cs := rfl
@[simp] theorem ofVB_c (f g : Env → Cells → Res D) : (ofVB f g).c = fun ρ cs => (f ρ cs).bind fun x cs => truth x cs := rfl
@[simp] theorem ofVB_o (f g : Env → Cells → Res D) : (ofVB f g).o = fun ρ cs => (f ρ cs).bind fun x cs => (match x with
    | .int i => .ok (some i) cs
    | _ => .bad) := rfl
@[simp] theorem ofVB_it (f g : Env → Cells → Res D) : (ofVB f g).it = fun ρ cs => (f ρ cs).bind fun x cs => ofRes cs (itemsI x) := rfl
@[simp] theorem ofRes_some {α : Type} (a : α) (cs : Cells) : ofRes cs (some a) = .ok a cs := rfl
@[simp] theorem getV_0 (d : D) (ρ : Env) : getV (.val d :: ρ) 0 = some d := rfl
@[simp] theorem getB_0 (d : D) (ρ : Env) : getB (.val d :: ρ) 0 = some d := rfl
@[simp] theorem getA_0 (d : D) (ρ : Env) : getA (.val d :: ρ) 0 = some d := rfl
@[simp] theorem getA_0i (c : Nat) (fs : List (Nat × D)) (ρ : Env) : getA (.own (.ins c fs) :: ρ) 0 = some (.ins c fs) := rfl
@[simp] theorem getB_0o (ds : List D) (ρ : Env) : getB (.own (.lst ds) :: ρ) 0 = some (.lst ds) := rfl
@[simp] theorem getV_s (s : Slot) (i : Nat) (ρ : Env) : getV (s :: ρ) (i + 1) = getV ρ i := rfl
@[simp] theorem getB_s (s : Slot) (i : Nat) (ρ : Env) : getB (s :: ρ) (i + 1) = getB ρ i := rfl
@[simp] theorem getA_s (s : Slot) (i : Nat) (ρ : Env) : getA (s :: ρ) (i + 1) = getA ρ i := rfl
@[simp] theorem isBl_bl (b : Bool) (cs : Cells) : isBl (.bl b) cs = .ok b cs := rfl
@[simp] theorem truth_bl (b : Bool) (cs : Cells) : truth (.bl b) cs = .ok b cs := rfl
@[simp] theorem truth_int (i : Int) (cs : Cells) : truth (.int i) cs = .ok (i != 0) cs := rfl
@[simp] theorem truth_tup (ds : List D) (cs : Cells) : truth (.tup ds) cs = .ok (!ds.isEmpty) cs := rfl
@[simp] theorem truth_lst (ds : List D) (cs : Cells) : truth (.lst ds) cs = .ok (!ds.isEmpty) cs := rfl
@[simp] theorem deref_int (i : Int) (cs : Cells) : deref (.int i) cs = .int i := rfl
@[simp] theorem deref_tup (ds : List D) (cs : Cells) : deref (.tup ds) cs = .tup ds := rfl
@[simp] theorem deref_lst (ds : List D) (cs : Cells) : deref (.lst ds) cs = .lst ds := rfl
@[simp] theorem deref_scr (ds : List D) (cs : Cells) : deref (.scr ds) cs = .scr ds := rfl
@[simp] theorem deref_str (x : Str) (cs : Cells) : deref (.str x) cs = .str x := rfl
@[simp] theorem deref_ins (c : Nat) (fs : List (Nat × D)) (cs : Cells) : deref (.ins c fs) cs = .ins c fs := rfl
@[simp] theorem cmp_lt (i j : Int) (cs : Cells) : cmpI .lt (.int i) (.int j) cs = .ok (.bl (decide (i < j))) cs := rfl
@[simp] theorem cmp_le (i j : Int) (cs : Cells) : cmpI .le (.int i) (.int j) cs = .ok (.bl (decide (i ≤ j))) cs := rfl
@[simp] theorem cmp_gt (i j : Int) (cs : Cells) : cmpI .gt (.int i) (.int j) cs = .ok (.bl (decide (j < i))) cs := rfl
@[simp] theorem cmp_ge (i j : Int) (cs : Cells) : cmpI .ge (.int i) (.int j) cs = .ok (.bl (decide (j ≤ i))) cs := rfl
@[simp] theorem end_ret (d : D) (cs : Cells) : endF (.ret d) cs = .ok d cs := rfl
@[simp] theorem end_nx (ρ : Env) (cs : Cells) : endF (.nx ρ) cs = .ok .non cs := rfl
@[simp] theorem itemsI_tup (ds : List D) : itemsI (.tup ds) = some ds := rfl
@[simp] theorem itemsI_lst (ds : List D) : itemsI (.lst ds) = some ds := rfl
@[simp] theorem itemsI_str (x : Str) : itemsI (.str x) = some (chars x) := rfl
@[simp] theorem items_tup (ds : List D) : items (.tup ds) = some ds := rfl
@[simp] theorem items_lst (ds : List D) : items (.lst ds) = some ds := rfl
@[simp] theorem seq_tup (ds : List D) (cs : Cells) : seqOf (.tup ds) cs = some ds := rfl
@[simp] theorem seq_lst (ds : List D) (cs : Cells) : seqOf (.lst ds) cs = some ds := rfl
/-- a comprehension without an if whose turns change nothing -/
theorem compL_pure {turn : D → Cells → Res (Option D)} {g : D → D} {cs : Cells} : ∀ {xs acc : List D}, (∀ x ∈ xs, turn x cs = .ok (some (g x)) cs) → acc.length + xs.length ≤ sizeLine → compL turn acc xs cs = .ok (acc ++ xs.map g) cs
  | [], acc, _, _ => by simp [compL]
  | x :: xs, acc, h, hl => by
    simp only [List.length_cons] at hl
    rw [compL, h x List.mem_cons_self]
    simp only
    rw [if_pos (by omega), compL_pure (fun y hy => h y (List.mem_cons_of_mem _ hy)) (by simp; omega)]
    simp
theorem compF_pure {turn : D → Cells → Res (Option D)} {g : D → D} {cs : Cells} {xs acc : List D} (h : ∀ x ∈ xs, turn x cs = .ok (some (g x)) cs) (hl : acc.length + xs.length ≤ sizeLine) : compF turn acc xs cs = .ok (acc ++ xs.map g) cs := compL_pure h hl
theorem intsD_map (ns : List Int) : intsD (ns.map D.int) = some ns := by
  induction ns with
  | nil => rfl
  | cons n ns ih => simp [intsD, ih]
theorem boolsD_map (ns : List Bool) : boolsD (ns.map D.bl) = some ns := by
  induction ns with
  | nil => rfl
  | cons n ns ih => simp [boolsD, ih]
theorem strsD_map (ns : List Str) : strsD (ns.map D.str) = some ns := by
  induction ns with
  | nil => rfl
  | cons n ns ih => simp [strsD, ih]
@[simp] theorem bind_assoc {α β γ : Type} (r : Res α) (k : α → Cells → Res β) (j : β → Cells → Res γ) : (r.bind k).bind j = r.bind fun a cs => (k a cs).bind j := by
  cases r <;> rfl
@[simp] theorem ret_tail (r : Res D) (k : Env → Cells → Res Flw) : (r.bind fun d cs => ((Res.ok (Flw.ret d) cs).bind (thenF k)).bind endF) = r := by cases r <;> rfl
@[simp] theorem ret_tail2 (r : Res D) (k : Env → Cells → Res Flw) (j : Env → Cells → Res Flw) : (r.bind fun d cs => (((Res.ok (Flw.ret d) cs).bind (thenF k)).bind (thenF j)).bind endF) = r := by cases r <;> rfl
/-- a comprehension at the head -/
theorem comp_bind {α : Type} {turn : D → Cells → Res (Option D)} (g : D → D) {cs : Cells} {xs : List D} {k : List D → Cells → Res α} {R : Res α} (h : ∀ x ∈ xs, turn x cs = .ok (some (g x)) cs) (hl : xs.length ≤ sizeLine) (hk : k (xs.map g) cs = R) : (compF turn [] xs cs).bind k = R := by
  rw [compF_pure h (by simpa using hl)]
  simpa using hk
/-- a loop at the head -/
theorem forL_inv {body : Env → Cells → Res Flw} {tg : List Nat} {one : Bool} (I : List D → Env → Cells → Prop) (hs : ∀ x xs ρ cs, I (x :: xs) ρ cs → ∃ ρ1 ρ2 cs2, setTg tg one x ρ = some ρ1 ∧ body ρ1 cs = .ok (.nx ρ2) cs2 ∧ I xs ρ2 cs2) : ∀ (xs : List D) (ρ : Env) (cs : Cells), I xs ρ cs → ∃ ρ' cs', forL body tg one xs ρ cs = .ok (.nx ρ') cs' ∧ I [] ρ' cs'
  | [], ρ, cs, h => ⟨ρ, cs, rfl, h⟩
  | x :: xs, ρ, cs, h => by
    obtain ⟨ρ1, ρ2, cs2, e1, e2, h2⟩ := hs x xs ρ cs h
    obtain ⟨ρ', cs', e3, h3⟩ := forL_inv I hs xs ρ2 cs2 h2
    refine ⟨ρ', cs', ?_, h3⟩
    rw [forL, e1]
    show (body ρ1 cs).bind _ = _
    rw [e2]
    exact e3
theorem for_bind {α : Type} {body : Env → Cells → Res Flw} {tg : List Nat} {one : Bool} {xs : List D} {ρ : Env} {cs : Cells} {k : Flw → Cells → Res α} {R : Res α} (I : List D → Env → Cells → Prop) (h0 : I xs ρ cs) (hs : ∀ x xs ρ cs, I (x :: xs) ρ cs → ∃ ρ1 ρ2 cs2, setTg tg one x ρ = some ρ1 ∧ body ρ1 cs = .ok (.nx ρ2) cs2 ∧ I xs ρ2 cs2)
    (hk : ∀ ρ' cs', I [] ρ' cs' → k (.nx ρ') cs' = R) : (forF body tg one xs ρ cs).bind k = R := by
  obtain ⟨ρ', cs', e, h⟩ := forL_inv I hs xs ρ cs h0
  rw [forF, e]
  exact hk ρ' cs' h
/-- it answers, and the answer is so -/
def Wp {α : Type} (r : Res α) (P : α → Cells → Prop) : Prop := ∃ a cs, r = .ok a cs ∧ P a cs
@[simp] theorem wp_ok {α : Type} (a : α) (cs : Cells) (P : α → Cells → Prop) : Wp (.ok a cs) P ↔ P a cs := ⟨fun ⟨b, c, e, h⟩ => by cases e; exact h, fun h => ⟨a, cs, rfl, h⟩⟩
theorem wp_bind {α β : Type} {r : Res α} {k : α → Cells → Res β} {P : β → Cells → Prop} (h : Wp r fun a cs => Wp (k a cs) P) : Wp (r.bind k) P := by
  obtain ⟨a, cs, rfl, h⟩ := h
  exact h
theorem wp_mono {α : Type} {r : Res α} {P Q : α → Cells → Prop} (h : Wp r P) (i : ∀ a cs, P a cs → Q a cs) : Wp r Q := by
  obtain ⟨a, cs, e, h⟩ := h
  exact ⟨a, cs, e, i a cs h⟩
/-- a call at the head, its answer told -/
theorem wp_at {α β : Type} {r : Res α} {k : α → Cells → Res β} {P : α → Cells → Prop} {Q : β → Cells → Prop} (h : Wp r P) (i : ∀ a cs, P a cs → Wp (k a cs) Q) : Wp (r.bind k) Q := wp_bind (wp_mono h i)
theorem wp_for {α : Type} {body : Env → Cells → Res Flw} {tg : List Nat} {one : Bool} {xs : List D} {ρ : Env} {cs : Cells} {k : Flw → Cells → Res α} {Q : α → Cells → Prop} (I : List D → Env → Cells → Prop) (h0 : I xs ρ cs)
    (hs : ∀ x xs ρ cs, I (x :: xs) ρ cs → ∃ ρ1, setTg tg one x ρ = some ρ1 ∧ Wp (body ρ1 cs) fun f cs2 => ∃ ρ2, f = .nx ρ2 ∧ I xs ρ2 cs2) (hk : ∀ ρ' cs', I [] ρ' cs' → Wp (k (.nx ρ') cs') Q) : Wp ((forF body tg one xs ρ cs).bind k) Q := by
  obtain ⟨ρ', cs', e, h⟩ := forL_inv I (fun x xs ρ cs h => by
    obtain ⟨ρ1, e1, f, cs2, e2, ρ2, rfl, h2⟩ := hs x xs ρ cs h
    exact ⟨ρ1, ρ2, cs2, e1, e2, h2⟩) xs ρ cs h0
  rw [forF, e]
  exact hk ρ' cs' h
theorem compL_wp {turn : D → Cells → Res (Option D)} (I : List D → List D → Cells → Prop) (hs : ∀ x xs acc cs, I (x :: xs) acc cs → Wp (turn x cs) fun o cs2 => ∃ d, o = some d ∧ acc.length < sizeLine ∧ I xs (acc ++ [d]) cs2) : ∀ (xs acc : List D) (cs : Cells), I xs acc cs → Wp (compL turn acc xs cs) fun ds cs' => I [] ds cs'
  | [], acc, cs, h => ⟨acc, cs, rfl, h⟩
  | x :: xs, acc, cs, h => by
    obtain ⟨o, cs2, e, d, rfl, hl, h2⟩ := hs x xs acc cs h
    rw [compL, e]
    show Wp (if acc.length < sizeLine then compL turn (acc ++ [d]) xs cs2 else .bad) _
    rw [if_pos hl]
    exact compL_wp I hs xs _ cs2 h2
end Dv
end
section
set_option Elab.async false
set_option linter.all false
set_option maxRecDepth 100000
set_option maxHeartbeats 4000000
namespace Dv
open PySem PySem.Spec PyProof.Rows L2
/-! ### == of plain data (ints, texts, None, tuples and lists of them) is equality -/
mutual
def pl : Nat → D → Bool
  | _, .non => true
  | _, .int _ => true
  | _, .str x => PyData.strOk x
  | n + 1, .tup ds => pls n ds
  | n + 1, .lst ds => pls n ds
  | _, _ => false
def pls : Nat → List D → Bool
  | _, [] => true
  | n, d :: ds => pl n d && pls n ds
end
mutual
theorem pl_py : ∀ (n : Nat) (d : D), pl n d = true → ∃ x, toPy d = some x ∧ PyData.canLay0 x = true ∧ PyData.depth x ≤ n
  | n, .non, _ => ⟨.none, by simp [toPy], by simp [PyData.canLay0], by simp [PyData.depth]⟩
  | n, .int i, _ => ⟨.int i, by simp [toPy], by simp [PyData.canLay0], by simp [PyData.depth]⟩
  | n, .str x, h => ⟨.str x, by simp [toPy], by simpa [PyData.canLay0, pl] using h, by simp [PyData.depth]⟩
  | n + 1, .tup ds, h => by
    obtain ⟨xs, e, c, k⟩ := pls_py n ds (by simpa [pl] using h)
    exact ⟨.tuple xs, by simp [toPy, e], by simpa [PyData.canLay0] using c, by simp [PyData.depth]; omega⟩
  | n + 1, .lst ds, h => by
    obtain ⟨xs, e, c, k⟩ := pls_py n ds (by simpa [pl] using h)
    exact ⟨.list xs, by simp [toPy, e], by simpa [PyData.canLay0] using c, by simp [PyData.depth]; omega⟩
  | 0, .tup ds, h => by simp [pl] at h
  | 0, .lst ds, h => by simp [pl] at h
  | n, .bl b, h => by simp [pl] at h
  | n, .ins c fs, h => by simp [pl] at h
  | n, .cell c, h => by simp [pl] at h
  | n, .cls c, h => by simp [pl] at h
  | n, .dic c, h => by simp [pl] at h
  | n, .scr c, h => by simp [pl] at h
theorem pls_py : ∀ (n : Nat) (ds : List D), pls n ds = true → ∃ xs, toPys ds = some xs ∧ PyData.canLayAll0 xs = true ∧ PyData.depthAll xs ≤ n
  | n, [], _ => ⟨[], by simp [toPys], by simp [PyData.canLayAll0], by simp [PyData.depthAll]⟩
  | n, d :: ds, h => by
    simp only [pls, Bool.and_eq_true] at h
    obtain ⟨x, e, c, k⟩ := pl_py n d h.1
    obtain ⟨xs, e2, c2, k2⟩ := pls_py n ds h.2
    exact ⟨x :: xs, by simp [toPys, e, e2], by simp [PyData.canLayAll0, c, c2], by simp [PyData.depthAll]; omega⟩
end
def Eqv (n : Nat) : Prop := ∀ (a b : D) (m : Nat) (x y : PyData), pl n a = true → pl m b = true → toPy a = some x → toPy b = some y → (PyData.eqv x y = true ↔ a = b)
theorem pls_eqv {n : Nat} (h : Eqv n) : ∀ (as bs : List D) (m : Nat) (xs ys : List PyData), pls n as = true → pls m bs = true → toPys as = some xs → toPys bs = some ys → (PyData.eqvAll xs ys = true ↔ as = bs)
  | [], [], m, xs, ys, _, _, e1, e2 => by
    simp [toPys] at e1 e2
    subst e1 e2
    simp [PyData.eqvAll]
  | a :: as, [], m, xs, ys, h1, _, e1, e2 => by
    obtain ⟨xs', e, _⟩ := pls_py n _ h1
    simp only [pls, Bool.and_eq_true] at h1
    obtain ⟨x, e3, _⟩ := pl_py n _ h1.1
    obtain ⟨zs, e4, _⟩ := pls_py n _ h1.2
    simp [toPys, e3, e4] at e1 e2
    subst e1 e2
    simp [PyData.eqvAll]
  | [], b :: bs, m, xs, ys, _, h2, e1, e2 => by
    simp only [pls, Bool.and_eq_true] at h2
    obtain ⟨x, e3, _⟩ := pl_py m _ h2.1
    obtain ⟨zs, e4, _⟩ := pls_py m _ h2.2
    simp [toPys, e3, e4] at e1 e2
    subst e1 e2
    simp [PyData.eqvAll]
  | a :: as, b :: bs, m, xs, ys, h1, h2, e1, e2 => by
    simp only [pls, Bool.and_eq_true] at h1 h2
    obtain ⟨x, e3, _⟩ := pl_py n _ h1.1
    obtain ⟨zs, e4, _⟩ := pls_py n _ h1.2
    obtain ⟨x', e3', _⟩ := pl_py m _ h2.1
    obtain ⟨zs', e4', _⟩ := pls_py m _ h2.2
    simp [toPys, e3, e4, e3', e4'] at e1 e2
    subst e1 e2
    simp [PyData.eqvAll, h a b m x x' h1.1 h2.1 e3 e3', pls_eqv h as bs m zs zs' h1.2 h2.2 e4 e4']
theorem pl_kind (m : Nat) (b : D) (y : PyData) (hb : pl m b = true) (eb : toPy b = some y) : (b = .non ∧ y = .none) ∨ (∃ i, b = .int i ∧ y = .int i) ∨ (∃ i, b = .str i ∧ y = .str i) ∨
    (∃ m' bs ys, b = .tup bs ∧ m = m' + 1 ∧ pls m' bs = true ∧ toPys bs = some ys ∧ y = .tuple ys) ∨ (∃ m' bs ys, b = .lst bs ∧ m = m' + 1 ∧ pls m' bs = true ∧ toPys bs = some ys ∧ y = .list ys) := by
  cases b with
  | tup bs =>
    cases m with
    | zero => simp [pl] at hb
    | succ m =>
      have hb' : pls m bs = true := by simpa [pl] using hb
      obtain ⟨ys, e, _⟩ := pls_py m bs hb'
      simp [toPy, e] at eb
      exact .inr (.inr (.inr (.inl ⟨m, bs, ys, rfl, rfl, hb', e, eb.symm⟩)))
  | lst bs =>
    cases m with
    | zero => simp [pl] at hb
    | succ m =>
      have hb' : pls m bs = true := by simpa [pl] using hb
      obtain ⟨ys, e, _⟩ := pls_py m bs hb'
      simp [toPy, e] at eb
      exact .inr (.inr (.inr (.inr ⟨m, bs, ys, rfl, rfl, hb', e, eb.symm⟩)))
  | non => simp [toPy] at eb; simp [eb]
  | int i => simp [toPy] at eb; simp [eb]
  | str i => simp [toPy] at eb; simp [eb]
  | bl b => simp [pl] at hb
  | dic b => simp [pl] at hb
  | ins c b => simp [pl] at hb
  | cell b => simp [pl] at hb
  | cls b => simp [pl] at hb
  | scr b => simp [pl] at hb
theorem pl_eqv (n : Nat) : Eqv n := by
  induction n with
  | zero =>
    intro a b m x y ha hb ea eb
    rcases pl_kind 0 a x ha ea with ⟨rfl, rfl⟩ | ⟨i, rfl, rfl⟩ | ⟨i, rfl, rfl⟩ | ⟨_, as, xs, rfl, q, _⟩ | ⟨_, as, xs, rfl, q, _⟩
    all_goals first | (cases q; done) | (rcases pl_kind m b y hb eb with ⟨rfl, rfl⟩ | ⟨j, rfl, rfl⟩ | ⟨j, rfl, rfl⟩ | ⟨_, bs, ys, rfl, _, _, _, rfl⟩ | ⟨_, bs, ys, rfl, _, _, _, rfl⟩ <;> simp [PyData.eqv])
  | succ n ih =>
    intro a b m x y ha hb ea eb
    rcases pl_kind (n + 1) a x ha ea with ⟨rfl, rfl⟩ | ⟨i, rfl, rfl⟩ | ⟨i, rfl, rfl⟩ | ⟨_, as, xs, rfl, q, ha', ea', rfl⟩ | ⟨_, as, xs, rfl, q, ha', ea', rfl⟩
    · rcases pl_kind m b y hb eb with ⟨rfl, rfl⟩ | ⟨j, rfl, rfl⟩ | ⟨j, rfl, rfl⟩ | ⟨_, bs, ys, rfl, _, _, _, rfl⟩ | ⟨_, bs, ys, rfl, _, _, _, rfl⟩ <;> simp [PyData.eqv]
    · rcases pl_kind m b y hb eb with ⟨rfl, rfl⟩ | ⟨j, rfl, rfl⟩ | ⟨j, rfl, rfl⟩ | ⟨_, bs, ys, rfl, _, _, _, rfl⟩ | ⟨_, bs, ys, rfl, _, _, _, rfl⟩ <;> simp [PyData.eqv]
    · rcases pl_kind m b y hb eb with ⟨rfl, rfl⟩ | ⟨j, rfl, rfl⟩ | ⟨j, rfl, rfl⟩ | ⟨_, bs, ys, rfl, _, _, _, rfl⟩ | ⟨_, bs, ys, rfl, _, _, _, rfl⟩ <;> simp [PyData.eqv]
    · cases q
      rcases pl_kind m b y hb eb with ⟨rfl, rfl⟩ | ⟨j, rfl, rfl⟩ | ⟨j, rfl, rfl⟩ | ⟨_, bs, ys, rfl, _, hb', eb', rfl⟩ | ⟨_, bs, ys, rfl, _, _, _, rfl⟩
      case inr.inr.inr.inl => simp [PyData.eqv, pls_eqv ih _ _ _ _ _ ha' hb' ea' eb']
      all_goals simp [PyData.eqv]
    · cases q
      rcases pl_kind m b y hb eb with ⟨rfl, rfl⟩ | ⟨j, rfl, rfl⟩ | ⟨j, rfl, rfl⟩ | ⟨_, bs, ys, rfl, _, _, _, rfl⟩ | ⟨_, bs, ys, rfl, _, hb', eb', rfl⟩
      case inr.inr.inr.inr => simp [PyData.eqv, pls_eqv ih _ _ _ _ _ ha' hb' ea' eb']
      all_goals simp [PyData.eqv]
theorem eqP_pl {n m : Nat} {a b : D} (ha : pl n a = true) (hb : pl m b = true) (hn : n ≤ 64) (hm : m ≤ 64) (cs : Cells) [Decidable (a = b)] : eqP a b cs = .ok (decide (a = b)) cs := by
  obtain ⟨x, e1, c1, k1⟩ := pl_py n a ha
  obtain ⟨y, e2, c2, k2⟩ := pl_py m b hb
  have h1 : SeqAt.shaped x = true := by simp [SeqAt.shaped, c1]; omega
  have h2 : SeqAt.shaped y = true := by simp [SeqAt.shaped, c2]; omega
  have h := pl_eqv n a b m x y ha hb e1 e2
  unfold eqP
  rw [e1, e2]
  simp only [h1, h2, and_self, if_true]
  congr 1
  rw [Bool.eq_iff_iff, h]
  simp
theorem pls_map {α : Type} {n : Nat} {f : α → D} : ∀ {xs : List α}, (∀ x ∈ xs, pl n (f x) = true) → pls n (xs.map f) = true
  | [], _ => rfl
  | x :: xs, h => by
    simp only [List.map_cons, pls, Bool.and_eq_true]
    exact ⟨h x List.mem_cons_self, pls_map fun y hy => h y (List.mem_cons_of_mem _ hy)⟩
theorem pls_ints (n : Nat) (xs : List Int) : pls n (xs.map .int) = true := pls_map fun _ _ => by simp [pl]
theorem eqD_pl (T : Tab) (O : Orc) {n m : Nat} {a b : D} (ha : pl n a = true) (hb : pl m b = true) (hn : n ≤ 64) (hm : m ≤ 64) (cs : Cells) [Decidable (a = b)] : eqD T O a b cs = .ok (decide (a = b)) cs := by
  have : clsOf a cs = none := by cases a <;> first | rfl | simp [pl] at ha
  unfold eqD
  rw [this]
  exact eqP_pl ha hb hn hm cs
end Dv
end
section
set_option Elab.async false
set_option linter.all false
set_option maxRecDepth 100000
set_option maxHeartbeats 4000000
namespace Dv
open PySem PySem.Spec PyProof.Rows L2
/-! ### ranges -/
theorem rngD_nat (n : Nat) (h : n < 1000000000) (cs : Cells) : rngD (.int n) cs = .ok ((List.range n).map fun (i : Nat) => .int (i : Int)) cs := by
  unfold rngD
  simp only
  rw [if_pos (ok62_iff.mpr (by omega))]
  rfl
theorem rngD_int (n : Int) (h0 : 0 ≤ n) (h : n < 1000000000) (cs : Cells) : rngD (.int n) cs = .ok ((List.range n.toNat).map fun (i : Nat) => .int (i : Int)) cs := by
  unfold rngD
  simp only
  rw [if_pos (ok62_iff.mpr (by omega))]
theorem rng2D_nat (m n : Nat) (h : n < 1000000000) (hm : m < 1000000000) (cs : Cells) : rng2D (.int m) (.int n) cs = .ok ((List.range (n - m)).map fun (i : Nat) => .int ((m + i : Nat) : Int)) cs := by
  unfold rng2D
  simp only
  rw [if_pos ⟨ok62_iff.mpr (by omega), ok62_iff.mpr (by omega)⟩]
  have e : ((n : Int) - (m : Int)).toNat = n - m := by omega
  rw [e]
  simp
/-! ### the pen that draws: cell 0 -/
def penC (l : List D) (a : Nat) (r : Int) : Cell := .lst [.lst l, .int a, .int r]
def Pn (tl : Cells) (b : Nat) (cs : Cells) : Prop := ∃ (ns : List Int) (a : Nat) (r : Int), cs = penC (ns.map .int) a r :: tl ∧ 0 ≤ r ∧ a ≤ b
theorem Pn.mono {tl : Cells} {b b' : Nat} {cs : Cells} (h : Pn tl b cs) (i : b ≤ b') : Pn tl b' cs := by
  obtain ⟨ns, a, r, e, h0, h1⟩ := h
  exact ⟨ns, a, r, e, h0, by omega⟩
section
variable (T : Tab) (O : Orc)
theorem pen_0 (l : List D) (a : Nat) (r : Int) (tl : Cells) : subD T O (.cell 0) (.int 0) (penC l a r :: tl) = .ok (.lst l) (penC l a r :: tl) := rfl
theorem pen_1 (l : List D) (a : Nat) (r : Int) (tl : Cells) : subD T O (.cell 0) (.int 1) (penC l a r :: tl) = .ok (.int a) (penC l a r :: tl) := rfl
theorem pen_2 (l : List D) (a : Nat) (r : Int) (tl : Cells) : subD T O (.cell 0) (.int 2) (penC l a r :: tl) = .ok (.int r) (penC l a r :: tl) := rfl
end
theorem sm_seq (T : Tab) (O : Orc) (a b : Sm) (ρ : Env) (cs : Cells) : sm T O (.seq a b) ρ cs = (sm T O a ρ cs).bind (thenF fun ρ cs => sm T O b ρ cs) := (rfl)
def dr1 : Sm := .ite (.cmp .gt (.sub (.var 0) (.int 2)) (.int 0)) (.seq (.set 5 (.bin .mod (.blt .int (.cons (.sub (.var 0) (.int 2)) .nil)) (.var 1))) (.seq (.setI 0 (.int 2) (.bin .fdiv (.blt .int (.cons (.sub (.var 0) (.int 2)) .nil)) (.var 1))) (.seq (.ret (.var 5)) .skip))) .skip
def dr4 : Sm := .ite (.cmp .ne (.sub (.var 0) (.int 0)) (.lst .nil)) (.seq (.set 3 (.sub (.sub (.var 0) (.int 0)) (.bin .mod (.blt .int (.cons (.var 2) .nil)) (.blt .len (.cons (.sub (.var 0) (.int 0)) .nil))))) .skip) .skip
def dr5 : Sm := .ite (.and (.cmp .lt (.var 2) (.blt .len (.cons (.sub (.var 0) (.int 0)) .nil))) (.cmp .ge (.blt .abs (.cons (.var 3) .nil)) (.bin .pow (.int 10) (.int 18)))) (.seq (.set 6 (.bin .add (.bin .mul (.int 2) (.bin .sub (.blt .abs (.cons (.var 3) .nil)) (.bin .pow (.int 10) (.int 18)))) (.blt .int (.cons (.cmp .lt (.var 3) (.int 0)) .nil)))) (.seq (.setI 0 (.int 2) (.bin .fdiv (.blt .int (.cons (.var 6) .nil)) (.var 1))) (.seq (.ret (.bin .mod (.blt .int (.cons (.var 6) .nil)) (.var 1))) .skip))) .skip
def dr6 (p1 c3 c4 p2 : Int) : Sm := .set 4 (.bin .mod (.blt .int (.cons (.bin .pow (.bin .add (.bin .add (.bin .mod (.blt .int (.cons (.var 3) .nil)) (.int p1)) (.bin .mul (.int c3) (.var 2))) (.int c4)) (.int 5)) .nil)) (.int p2))
def dr7 (c5 c6 c7 p3 : Int) : Sm := .set 4 (.bin .mod (.blt .int (.cons (.bin .pow (.bin .add (.bin .add (.bin .mul (.var 4) (.bin .add (.bin .mul (.int 2) (.var 2)) (.int c5))) (.bin .mul (.bin .mul (.int c6) (.var 2)) (.var 2))) (.int c7)) (.int 3)) .nil)) (.int p3))
def dr8 : Sm := .ret (.bin .mod (.blt .int (.cons (.bin .fdiv (.var 4) (.int 32)) .nil)) (.var 1))
def drawSm (c1 c2 p1 c3 c4 p2 c5 c6 c7 p3 : Int) : Sm := .seq dr1 (.seq (.set 2 (.sub (.var 0) (.int 1))) (.seq (.setI 0 (.int 1) (.bin .add (.var 2) (.int 1))) (.seq (.set 3 (.bin .add (.bin .mul (.int c1) (.var 2)) (.int c2))) (.seq dr4 (.seq dr5 (.seq (dr6 p1 c3 c4 p2) (.seq (dr7 c5 c6 c7 p3) (.seq dr8 .skip))))))))
theorem setI_2 (l : List D) (x : Nat) (y z : Int) : setIt [.lst l, .int x, .int y] 2 (.int z) = some [.lst l, .int x, .int z] := rfl
theorem setI_1 (l : List D) (x : Nat) (y : Int) (z : D) : setIt [.lst l, .int x, .int y] 1 z = some [.lst l, z, .int y] := rfl
section
variable (T : Tab) (O : Orc)
theorem bin_mod {i j : Int} (h : 0 < j) (cs : Cells) : binD T O .mod (.int i) (.int j) cs = .ok (.int (i % j)) cs := by
  show (if 0 < j then _ else _) = _
  rw [if_pos h]
theorem bin_div {i j : Int} (h : okDiv j = true) (cs : Cells) : binD T O .fdiv (.int i) (.int j) cs = .ok (.int (i / j)) cs := by
  show (if okDiv j = true then _ else _) = _
  rw [if_pos h]
theorem bin_mul {i j : Int} (h : okMul i j = true) (cs : Cells) : binD T O .mul (.int i) (.int j) cs = .ok (.int (i * j)) cs := by
  show (if okMul i j = true then _ else _) = _
  rw [if_pos h]
theorem bin_pow {i j : Int} (h : okPow i j = true) (cs : Cells) : binD T O .pow (.int i) (.int j) cs = .ok (.int (i ^ j.toNat)) cs := by
  show (if okPow i j = true then _ else _) = _
  rw [if_pos h]
theorem bin_add (i j : Int) (cs : Cells) : binD T O .add (.int i) (.int j) cs = .ok (.int (i + j)) cs := rfl
theorem bin_sub (i j : Int) (cs : Cells) : binD T O .sub (.int i) (.int j) cs = .ok (.int (i - j)) cs := rfl
theorem vi_int (i : Int) (cs : Cells) : bInt [.int i] cs = .ok (.int i) cs := rfl
theorem vi_bool (b : Bool) (cs : Cells) : bInt [.bl b] cs = .ok (.int (if b then 1 else 0)) cs := rfl
theorem vi_abs (i : Int) (cs : Cells) : bAbs [.int i] cs = .ok (.int (if i < 0 then -i else i)) cs := rfl
theorem pr_0 (l : List D) (a r : D) (tl : Cells) : subD T O (.cell 0) (.int 0) (Cell.lst [.lst l, a, r] :: tl) = .ok (.lst l) (Cell.lst [.lst l, a, r] :: tl) := rfl
theorem pr_1 (l a r : D) (tl : Cells) : subD T O (.cell 0) (.int 1) (Cell.lst [l, a, r] :: tl) = .ok a (Cell.lst [l, a, r] :: tl) := rfl
theorem pr_2 (l a r : D) (tl : Cells) : subD T O (.cell 0) (.int 2) (Cell.lst [l, a, r] :: tl) = .ok r (Cell.lst [l, a, r] :: tl) := rfl
theorem si_2 (l x y z : D) : setIt [l, x, y] 2 z = some [l, x, z] := rfl
theorem si_1 (l x y z : D) : setIt [l, x, y] 1 z = some [l, z, y] := rfl
variable {l : List D} {a : Nat} {r : Int} {tl : Cells} {m : Int} {s2 s3 s4 s5 s6 : Slot}
theorem dr1_pos (h : 0 < r) (hm : 0 < m) (dv : okDiv m = true) :
    sm T O dr1 [.val (.cell 0), .val (.int m), s2, s3, s4, s5, s6] (penC l a r :: tl) = .ok (.ret (.int (r % m))) (penC l a (r / m) :: tl) := by
  unfold dr1 penC
  simp only [sm, thenF_nx, thenF_ret, thenF_brk, thenF_cnt, den, ofVT, ofVB, noDen, baseA, cmpD, bltD, bind_ok, ofRes_some, getV_0, getV_s, getB_0, getB_s, truth_bl, truth_int, cmp_lt, cmp_le, cmp_gt, cmp_ge, List.getElem?_cons_zero, List.getElem?_cons_succ, List.set_cons_zero, List.set_cons_succ, if_true, if_false, reduceIte, decide_true, decide_false, end_ret, end_nx, List.length_cons, List.length_nil, Nat.zero_add, Nat.reduceAdd, Nat.reduceLT, Nat.reduceLeDiff, Nat.zero_le, and_self, pr_2, h, bin_mod T O hm, bin_div T O dv, vi_int, si_2]
theorem dr1_neg (h : ¬ 0 < r) :
    sm T O dr1 [.val (.cell 0), .val (.int m), s2, s3, s4, s5, s6] (penC l a r :: tl) = .ok (.nx [.val (.cell 0), .val (.int m), s2, s3, s4, s5, s6]) (penC l a r :: tl) := by
  unfold dr1 penC
  simp only [sm, thenF_nx, thenF_ret, thenF_brk, thenF_cnt, den, ofVT, ofVB, noDen, baseA, cmpD, bltD, bind_ok, ofRes_some, getV_0, getV_s, getB_0, getB_s, truth_bl, truth_int, cmp_lt, cmp_le, cmp_gt, cmp_ge, List.getElem?_cons_zero, List.getElem?_cons_succ, List.set_cons_zero, List.set_cons_succ, if_true, if_false, reduceIte, decide_true, decide_false, end_ret, end_nx, List.length_cons, List.length_nil, Nat.zero_add, Nat.reduceAdd, Nat.reduceLT, Nat.reduceLeDiff, Nat.zero_le, and_self, pr_2, h]
  rfl
theorem dr2 : sm T O (.set 2 (.sub (.var 0) (.int 1))) [.val (.cell 0), .val (.int m), s2, s3, s4, s5, s6] (penC l a r :: tl) = .ok (.nx [.val (.cell 0), .val (.int m), .val (.int a), s3, s4, s5, s6]) (penC l a r :: tl) := by
  unfold penC
  simp only [sm, thenF_nx, thenF_ret, thenF_brk, thenF_cnt, den, ofVT, ofVB, noDen, baseA, cmpD, bltD, bind_ok, ofRes_some, getV_0, getV_s, getB_0, getB_s, truth_bl, truth_int, cmp_lt, cmp_le, cmp_gt, cmp_ge, List.getElem?_cons_zero, List.getElem?_cons_succ, List.set_cons_zero, List.set_cons_succ, if_true, if_false, reduceIte, decide_true, decide_false, end_ret, end_nx, List.length_cons, List.length_nil, Nat.zero_add, Nat.reduceAdd, Nat.reduceLT, Nat.reduceLeDiff, Nat.zero_le, and_self, pr_1]
theorem dr3 : sm T O (.setI 0 (.int 1) (.bin .add (.var 2) (.int 1))) [.val (.cell 0), .val (.int m), .val (.int a), s3, s4, s5, s6] (penC l a r :: tl) = .ok (.nx [.val (.cell 0), .val (.int m), .val (.int a), s3, s4, s5, s6]) (penC l (a + 1) r :: tl) := by
  unfold penC
  simp only [sm, thenF_nx, thenF_ret, thenF_brk, thenF_cnt, den, ofVT, ofVB, noDen, baseA, cmpD, bltD, bind_ok, ofRes_some, getV_0, getV_s, getB_0, getB_s, truth_bl, truth_int, cmp_lt, cmp_le, cmp_gt, cmp_ge, List.getElem?_cons_zero, List.getElem?_cons_succ, List.set_cons_zero, List.set_cons_succ, if_true, if_false, reduceIte, decide_true, decide_false, end_ret, end_nx, List.length_cons, List.length_nil, Nat.zero_add, Nat.reduceAdd, Nat.reduceLT, Nat.reduceLeDiff, Nat.zero_le, and_self, pr_1, si_1, bin_add]
  rfl
theorem dr3b {c1 c2 : Int} (hc : 0 ≤ c1 ∧ c1 < 1048576) : sm T O (.set 3 (.bin .add (.bin .mul (.int c1) (.var 2)) (.int c2))) [.val (.cell 0), .val (.int m), .val (.int a), s3, s4, s5, s6] (penC l (a + 1) r :: tl) = .ok (.nx [.val (.cell 0), .val (.int m), .val (.int a), .val (.int (c1 * a + c2)), s4, s5, s6]) (penC l (a + 1) r :: tl) := by
  have : okMul c1 a = true := okMul_iff.mpr (.inl (by constructor <;> omega))
  simp only [sm, thenF_nx, thenF_ret, thenF_brk, thenF_cnt, den, ofVT, ofVB, noDen, baseA, cmpD, bltD, bind_ok, ofRes_some, getV_0, getV_s, getB_0, getB_s, truth_bl, truth_int, cmp_lt, cmp_le, cmp_gt, cmp_ge, List.getElem?_cons_zero, List.getElem?_cons_succ, List.set_cons_zero, List.set_cons_succ, if_true, if_false, reduceIte, decide_true, decide_false, end_ret, end_nx, List.length_cons, List.length_nil, Nat.zero_add, Nat.reduceAdd, Nat.reduceLT, Nat.reduceLeDiff, Nat.zero_le, and_self, bin_mul T O this, bin_add]
theorem dr4_nil {x : Int} (e : eqD T O (.lst []) (.lst []) (penC [] (a + 1) r :: tl) = .ok true (penC [] (a + 1) r :: tl)) : sm T O dr4 [.val (.cell 0), .val (.int m), .val (.int a), .val (.int x), s4, s5, s6] (penC [] (a + 1) r :: tl) = .ok (.nx [.val (.cell 0), .val (.int m), .val (.int a), .val (.int x), s4, s5, s6]) (penC [] (a + 1) r :: tl) := by
  unfold penC at *
  unfold dr4
  simp only [sm, thenF_nx, thenF_ret, thenF_brk, thenF_cnt, den, ofVT, ofVB, noDen, baseA, cmpD, bltD, bind_ok, ofRes_some, getV_0, getV_s, getB_0, getB_s, truth_bl, truth_int, cmp_lt, cmp_le, cmp_gt, cmp_ge, List.getElem?_cons_zero, List.getElem?_cons_succ, List.set_cons_zero, List.set_cons_succ, if_true, if_false, reduceIte, decide_true, decide_false, end_ret, end_nx, List.length_cons, List.length_nil, Nat.zero_add, Nat.reduceAdd, Nat.reduceLT, Nat.reduceLeDiff, Nat.zero_le, and_self, pr_0, e, Bool.not_true]
  rfl
theorem len_l (ds : List D) (cs : Cells) : bLen T O [.lst ds] cs = .ok (.int ds.length) cs := rfl
theorem len_t (ds : List D) (cs : Cells) : bLen T O [.tup ds] cs = .ok (.int ds.length) cs := rfl
theorem at_in {α : Type} {xs : List α} {k : Int} (h0 : 0 ≤ k) (h1 : k < xs.length) : ∃ x ∈ xs, atI xs k = some x := by
  have hk : k.toNat < xs.length := by omega
  refine ⟨xs[k.toNat], List.getElem_mem hk, ?_⟩
  unfold atI ixN
  rw [if_pos h0, if_pos h1]
  simp [hk]
theorem dr4_cons {x : Int} {n : Int} {ns : List Int} (e : eqD T O (.lst ((n :: ns).map .int)) (.lst []) (penC ((n :: ns).map .int) (a + 1) r :: tl) = .ok false (penC ((n :: ns).map .int) (a + 1) r :: tl)) : ∃ y : Int, sm T O dr4 [.val (.cell 0), .val (.int m), .val (.int a), .val (.int x), s4, s5, s6] (penC ((n :: ns).map .int) (a + 1) r :: tl) = .ok (.nx [.val (.cell 0), .val (.int m), .val (.int a), .val (.int y), s4, s5, s6]) (penC ((n :: ns).map .int) (a + 1) r :: tl) := by
  unfold penC at *
  have hl : (0 : Int) < (((n :: ns).map D.int).length : Int) := by simp
  have h1 := Int.emod_nonneg (a : Int) (show (((n :: ns).map D.int).length : Int) ≠ 0 by omega)
  have h2 := Int.emod_lt_of_pos (a : Int) hl
  obtain ⟨y, hy, e1⟩ := at_in h1 h2
  obtain ⟨z, hz, rfl⟩ := List.mem_map.mp hy
  have e2 : ∀ cs, subD T O (.lst ((n :: ns).map .int)) (.int ((a : Int) % (((n :: ns).map D.int).length : Int))) cs = .ok (.int z) cs := fun cs => by
    show ofRes cs (atI _ _) = _
    rw [e1]
    rfl
  refine ⟨z, ?_⟩
  unfold dr4
  generalize (n :: ns).map D.int = l at *
  simp only [sm, thenF_nx, thenF_ret, thenF_brk, thenF_cnt, den, ofVT, ofVB, noDen, baseA, cmpD, bltD, bind_ok, ofRes_some, getV_0, getV_s, getB_0, getB_s, truth_bl, truth_int, cmp_lt, cmp_le, cmp_gt, cmp_ge, List.getElem?_cons_zero, List.getElem?_cons_succ, List.set_cons_zero, List.set_cons_succ, if_true, if_false, reduceIte, decide_true, decide_false, end_ret, end_nx, List.length_cons, List.length_nil, Nat.zero_add, Nat.reduceAdd, Nat.reduceLT, Nat.reduceLeDiff, Nat.zero_le, and_self, pr_0, e, Bool.not_false, vi_int, len_l, bin_mod T O hl, e2]
theorem dr5_no {x : Int} {l : List D} (e : ∀ cs, binD T O .pow (.int 10) (.int 18) cs = .ok (.int 1000000000000000000) cs) (h : ¬ ((a : Int) < l.length ∧ 1000000000000000000 ≤ (if x < 0 then -x else x))) : sm T O dr5 [.val (.cell 0), .val (.int m), .val (.int a), .val (.int x), s4, s5, s6] (penC l (a + 1) r :: tl) = .ok (.nx [.val (.cell 0), .val (.int m), .val (.int a), .val (.int x), s4, s5, s6]) (penC l (a + 1) r :: tl) := by
  unfold penC dr5
  by_cases h1 : (a : Int) < l.length
  · have h2 : ¬ 1000000000000000000 ≤ (if x < 0 then -x else x) := fun h2 => h ⟨h1, h2⟩
    simp only [sm, thenF_nx, thenF_ret, thenF_brk, thenF_cnt, den, ofVT, ofVB, noDen, baseA, cmpD, bltD, bind_ok, ofRes_some, getV_0, getV_s, getB_0, getB_s, truth_bl, truth_int, cmp_lt, cmp_le, cmp_gt, cmp_ge, List.getElem?_cons_zero, List.getElem?_cons_succ, List.set_cons_zero, List.set_cons_succ, if_true, if_false, reduceIte, decide_true, decide_false, end_ret, end_nx, List.length_cons, List.length_nil, Nat.zero_add, Nat.reduceAdd, Nat.reduceLT, Nat.reduceLeDiff, Nat.zero_le, and_self, pr_0, len_l, h1, h2, vi_abs, e]
    rfl
  · simp only [sm, thenF_nx, thenF_ret, thenF_brk, thenF_cnt, den, ofVT, ofVB, noDen, baseA, cmpD, bltD, bind_ok, ofRes_some, getV_0, getV_s, getB_0, getB_s, truth_bl, truth_int, cmp_lt, cmp_le, cmp_gt, cmp_ge, List.getElem?_cons_zero, List.getElem?_cons_succ, List.set_cons_zero, List.set_cons_succ, if_true, if_false, reduceIte, decide_true, decide_false, end_ret, end_nx, List.length_cons, List.length_nil, Nat.zero_add, Nat.reduceAdd, Nat.reduceLT, Nat.reduceLeDiff, Nat.zero_le, and_self, pr_0, len_l, h1]
    rfl
theorem dr5_yes {x : Int} {l : List D} (e : ∀ cs, binD T O .pow (.int 10) (.int 18) cs = .ok (.int 1000000000000000000) cs) (h : (a : Int) < l.length ∧ 1000000000000000000 ≤ (if x < 0 then -x else x)) (hm : 0 < m) (dv : okDiv m = true) : ∃ g : Int, 0 ≤ g ∧ sm T O dr5 [.val (.cell 0), .val (.int m), .val (.int a), .val (.int x), s4, s5, s6] (penC l (a + 1) r :: tl) = .ok (.ret (.int (g % m))) (penC l (a + 1) (g / m) :: tl) := by
  unfold penC dr5
  have hu : ∀ y : Int, okMul 2 y = true := fun y => rfl
  simp only [sm, thenF_nx, thenF_ret, thenF_brk, thenF_cnt, den, ofVT, ofVB, noDen, baseA, cmpD, bltD, bind_ok, ofRes_some, getV_0, getV_s, getB_0, getB_s, truth_bl, truth_int, cmp_lt, cmp_le, cmp_gt, cmp_ge, List.getElem?_cons_zero, List.getElem?_cons_succ, List.set_cons_zero, List.set_cons_succ, if_true, if_false, reduceIte, decide_true, decide_false, end_ret, end_nx, List.length_cons, List.length_nil, Nat.zero_add, Nat.reduceAdd, Nat.reduceLT, Nat.reduceLeDiff, Nat.zero_le, and_self, pr_0, len_l, h.1, h.2, vi_abs, e, bin_sub, bin_mul T O (hu _), vi_bool, bin_add, si_2, vi_int, bin_mod T O hm, bin_div T O dv]
  refine ⟨_, ?_, rfl⟩
  have := h.2
  have : (0 : Int) ≤ (if decide (x < 0) = true then 1 else 0) := by split <;> decide
  omega
theorem dr6_ok {p1 c3 c4 p2 x : Int} {s6' : Slot} {cs : Cells} (h1 : 0 < p1 ∧ p1 < 4294967296) (h2 : 0 < p2 ∧ p2 < 4294967296) (h3 : 0 ≤ c3 ∧ c3 < 1048576) (h4 : 0 ≤ c4 ∧ c4 < 1048576) (ha : a < 1048576) : ∃ y : Int, 0 ≤ y ∧ y < 4294967296 ∧ sm T O (dr6 p1 c3 c4 p2) [.val (.cell 0), .val (.int m), .val (.int a), .val (.int x), s4, s5, s6] cs = .ok (.nx [.val (.cell 0), .val (.int m), .val (.int a), .val (.int x), .val (.int y), s5, s6]) cs := by
  have m1 : okMul c3 a = true := okMul_iff.mpr (.inl (by constructor <;> omega))
  have b1 := Int.emod_nonneg x (show p1 ≠ 0 by omega)
  have b2 := Int.emod_lt_of_pos x h1.1
  have b3 : 0 ≤ c3 * a := Int.mul_nonneg h3.1 (by omega)
  have b4 : c3 * a ≤ 1048576 * 1048576 := Int.mul_le_mul (by omega) (by omega) (by omega) (by omega)
  have m2 : okPow (x % p1 + c3 * a + c4) 5 = true := okPow_iff.mpr ⟨by omega, by omega, by omega⟩
  unfold dr6
  simp only [sm, thenF_nx, thenF_ret, thenF_brk, thenF_cnt, den, ofVT, ofVB, noDen, baseA, cmpD, bltD, bind_ok, ofRes_some, getV_0, getV_s, getB_0, getB_s, truth_bl, truth_int, cmp_lt, cmp_le, cmp_gt, cmp_ge, List.getElem?_cons_zero, List.getElem?_cons_succ, List.set_cons_zero, List.set_cons_succ, if_true, if_false, reduceIte, decide_true, decide_false, end_ret, end_nx, List.length_cons, List.length_nil, Nat.zero_add, Nat.reduceAdd, Nat.reduceLT, Nat.reduceLeDiff, Nat.zero_le, and_self, vi_int, bin_mod T O h1.1, bin_mul T O m1, bin_add, bin_pow T O m2, bin_mod T O h2.1]
  refine ⟨_, ?_, ?_, rfl⟩
  · exact Int.emod_nonneg _ (by omega)
  · have := Int.emod_lt_of_pos ((x % p1 + c3 * a + c4) ^ (5 : Int).toNat) h2.1
    omega
theorem dr7_ok {c5 c6 c7 p3 x y : Int} {cs : Cells} (hy : 0 ≤ y ∧ y < 4294967296) (h1 : 0 < p3 ∧ p3 < 4294967296) (h3 : 0 ≤ c5 ∧ c5 < 1048576) (h4 : 0 ≤ c6 ∧ c6 < 1048576) (h5 : 0 ≤ c7 ∧ c7 < 1048576) (ha : a < 1048576) : ∃ z : Int, sm T O (dr7 c5 c6 c7 p3) [.val (.cell 0), .val (.int m), .val (.int a), .val (.int x), .val (.int y), s5, s6] cs = .ok (.nx [.val (.cell 0), .val (.int m), .val (.int a), .val (.int x), .val (.int z), s5, s6]) cs := by
  have m0 : okMul 2 a = true := rfl
  have m1 : okMul y (2 * a + c5) = true := okMul_iff.mpr (.inl (by constructor <;> omega))
  have m2 : okMul c6 a = true := okMul_iff.mpr (.inl (by constructor <;> omega))
  have m3 : okMul (c6 * a) a = true := okMul_iff.mpr (.inr (by constructor <;> omega))
  have b1 : 0 ≤ y * (2 * a + c5) := Int.mul_nonneg hy.1 (by omega)
  have b2 : y * (2 * a + c5) ≤ 4294967296 * 3145728 := Int.mul_le_mul (by omega) (by omega) (by omega) (by omega)
  have b3 : 0 ≤ c6 * a := Int.mul_nonneg h4.1 (by omega)
  have b4 : c6 * a ≤ 1048576 * 1048576 := Int.mul_le_mul (by omega) (by omega) (by omega) (by omega)
  have b5 : 0 ≤ c6 * a * a := Int.mul_nonneg b3 (by omega)
  have b6 : c6 * a * a ≤ 1048576 * 1048576 * 1048576 := Int.mul_le_mul b4 (by omega) (by omega) (by omega)
  have m4 : okPow (y * (2 * a + c5) + c6 * a * a + c7) 3 = true := okPow_iff.mpr ⟨by omega, by omega, by omega⟩
  unfold dr7
  simp only [sm, thenF_nx, thenF_ret, thenF_brk, thenF_cnt, den, ofVT, ofVB, noDen, baseA, cmpD, bltD, bind_ok, ofRes_some, getV_0, getV_s, getB_0, getB_s, truth_bl, truth_int, cmp_lt, cmp_le, cmp_gt, cmp_ge, List.getElem?_cons_zero, List.getElem?_cons_succ, List.set_cons_zero, List.set_cons_succ, if_true, if_false, reduceIte, decide_true, decide_false, end_ret, end_nx, List.length_cons, List.length_nil, Nat.zero_add, Nat.reduceAdd, Nat.reduceLT, Nat.reduceLeDiff, Nat.zero_le, and_self, vi_int, bin_mod T O h1.1, bin_mul T O m0, bin_mul T O m1, bin_mul T O m2, bin_mul T O m3, bin_add, bin_pow T O m4]
  exact ⟨_, rfl⟩
theorem dr8_ok {x z : Int} {cs : Cells} (hm : 0 < m) : sm T O dr8 [.val (.cell 0), .val (.int m), .val (.int a), .val (.int x), .val (.int z), s5, s6] cs = .ok (.ret (.int (z / 32 % m))) cs := by
  have d : okDiv 32 = true := rfl
  unfold dr8
  simp only [sm, thenF_nx, thenF_ret, thenF_brk, thenF_cnt, den, ofVT, ofVB, noDen, baseA, cmpD, bltD, bind_ok, ofRes_some, getV_0, getV_s, getB_0, getB_s, truth_bl, truth_int, cmp_lt, cmp_le, cmp_gt, cmp_ge, List.getElem?_cons_zero, List.getElem?_cons_succ, List.set_cons_zero, List.set_cons_succ, if_true, if_false, reduceIte, decide_true, decide_false, end_ret, end_nx, List.length_cons, List.length_nil, Nat.zero_add, Nat.reduceAdd, Nat.reduceLT, Nat.reduceLeDiff, Nat.zero_le, and_self, bin_div T O d, vi_int, bin_mod T O hm]
end
theorem seqE (T : Tab) (O : Orc) (x : List Int) (cs : Cells) : eqD T O (.lst (x.map .int)) (.lst []) cs = .ok (x.isEmpty) cs := by
  classical
  rw [eqD_pl T O (n := 1) (m := 1) (by simpa [pl] using pls_ints 0 x) (by rfl) (by decide) (by decide)]
  cases x <;> simp
theorem p1018 (T : Tab) (O : Orc) (cs : Cells) : binD T O .pow (.int 10) (.int 18) cs = .ok (.int 1000000000000000000) cs := bin_pow T O rfl cs
/-- how a draw goes -/
theorem draw_wp (T : Tab) (O : Orc) {c1 c2 p1 c3 c4 p2 c5 c6 c7 p3 : Int} (hc : (0 < p1 ∧ p1 < 4294967296) ∧ (0 < p2 ∧ p2 < 4294967296) ∧ (0 < p3 ∧ p3 < 4294967296) ∧ (0 ≤ c1 ∧ c1 < 1048576) ∧ (0 ≤ c3 ∧ c3 < 1048576) ∧ (0 ≤ c4 ∧ c4 < 1048576) ∧ (0 ≤ c5 ∧ c5 < 1048576) ∧ (0 ≤ c6 ∧ c6 < 1048576) ∧ (0 ≤ c7 ∧ c7 < 1048576))
    {tl : Cells} {b m : Nat} {cs : Cells} (h : Pn tl b cs) (hm : 0 < m) (hm2 : m < 1000000000) (hb : b < 1000000) :
    Wp ((sm T O (drawSm c1 c2 p1 c3 c4 p2 c5 c6 c7 p3) [.val (.cell 0), .val (.int m), .emp, .emp, .emp, .emp, .emp] cs).bind endF) fun d cs' => (∃ j : Nat, j < m ∧ d = .int j) ∧ Pn tl (b + 1) cs' := by
  obtain ⟨ns, a, r, rfl, hr, ha⟩ := h
  obtain ⟨hp1, hp2, hp3, hc1, hc3, hc4, hc5, hc6, hc7⟩ := hc
  have hm' : (0 : Int) < m := by omega
  have dv : okDiv (m : Int) = true := okDiv_of hm' (by omega)
  have fin : ∀ x : Int, ∃ j : Nat, j < m ∧ D.int (x % (m : Int)) = D.int j := fun x => by
    have h1 := Int.emod_nonneg x (show (m : Int) ≠ 0 by omega)
    have h2 := Int.emod_lt_of_pos x hm'
    exact ⟨(x % (m : Int)).toNat, by omega, by congr 1; omega⟩
  have ge : ∀ x : Int, 0 ≤ x → 0 ≤ x / (m : Int) := fun x hx => Int.ediv_nonneg hx (by omega)
  unfold drawSm
  by_cases h0 : 0 < r
  · rw [sm_seq, dr1_pos T O h0 hm' dv]
    exact ⟨_, _, rfl, fin _, ns, a, _, rfl, ge _ hr, by omega⟩
  rw [sm_seq, dr1_neg T O h0]
  simp only [bind_ok, thenF_nx]
  rw [sm_seq, dr2 T O]
  simp only [bind_ok, thenF_nx]
  rw [sm_seq, dr3 T O]
  simp only [bind_ok, thenF_nx]
  rw [sm_seq, dr3b T O hc1]
  simp only [bind_ok, thenF_nx]
  have e4 : ∃ y : Int, sm T O dr4 [.val (.cell 0), .val (.int m), .val (.int a), .val (.int (c1 * a + c2)), .emp, .emp, .emp] (penC (ns.map .int) (a + 1) r :: tl) = .ok (.nx [.val (.cell 0), .val (.int m), .val (.int a), .val (.int y), .emp, .emp, .emp]) (penC (ns.map .int) (a + 1) r :: tl) := by
    cases ns with
    | nil => exact ⟨_, dr4_nil T O (seqE T O [] _)⟩
    | cons n ns => exact dr4_cons T O (seqE T O (n :: ns) _)
  obtain ⟨y, e4⟩ := e4
  rw [sm_seq, e4]
  simp only [bind_ok, thenF_nx]
  by_cases h5 : (a : Int) < (ns.map D.int).length ∧ 1000000000000000000 ≤ (if y < 0 then -y else y)
  · obtain ⟨g, hg, e5⟩ := dr5_yes (m := m) (r := r) (tl := tl) (s4 := .emp) (s5 := .emp) (s6 := .emp) T O (p1018 T O) h5 hm' dv
    rw [sm_seq, e5]
    exact ⟨_, _, rfl, fin _, ns, a + 1, _, rfl, ge _ hg, by omega⟩
  rw [sm_seq, dr5_no T O (p1018 T O) h5]
  simp only [bind_ok, thenF_nx]
  obtain ⟨z, z0, z1, e6⟩ := dr6_ok T O (m := m) (x := y) (s4 := .emp) (s5 := .emp) (s6 := .emp) (s6' := .emp) (cs := penC (ns.map .int) (a + 1) r :: tl) hp1 hp2 hc3 hc4 (show a < 1048576 by omega)
  rw [sm_seq, e6]
  simp only [bind_ok, thenF_nx]
  obtain ⟨w, e7⟩ := dr7_ok T O (m := m) (x := y) (s5 := .emp) (s6 := .emp) (cs := penC (ns.map .int) (a + 1) r :: tl) ⟨z0, z1⟩ hp3 hc5 hc6 hc7 (show a < 1048576 by omega)
  rw [sm_seq, e7]
  simp only [bind_ok, thenF_nx]
  rw [sm_seq, dr8_ok T O hm']
  exact ⟨_, _, rfl, fin _, ns, a + 1, r, rfl, hr, by omega⟩
/-- a comprehension whose turns draw -/
theorem compL_pen {turn : D → Cells → Res (Option D)} {tl : Cells} {c : Nat} (P : D → Prop) : ∀ {xs acc : List D} {b : Nat} {cs : Cells}, (∀ x ∈ xs, ∀ b' cs, b ≤ b' → b' + c ≤ b + c * xs.length → Pn tl b' cs → Wp (turn x cs) fun o cs' => ∃ d, o = some d ∧ P d ∧ Pn tl (b' + c) cs') →
    acc.length + xs.length ≤ sizeLine → (∀ d ∈ acc, P d) → Pn tl b cs → Wp (compL turn acc xs cs) fun ds cs' => ds.length = acc.length + xs.length ∧ (∀ d ∈ ds, P d) ∧ Pn tl (b + c * xs.length) cs'
  | [], acc, b, cs, _, _, ha, hp => ⟨acc, cs, rfl, by simp, ha, by simpa using hp⟩
  | x :: xs, acc, b, cs, h, hl, ha, hp => by
    have hx := h x List.mem_cons_self b cs (Nat.le_refl _) (by simp [Nat.mul_add]) hp
    obtain ⟨o, cs2, e, d, rfl, hd, hp2⟩ := hx
    rw [compL, e]
    show Wp (if acc.length < sizeLine then compL turn (acc ++ [d]) xs cs2 else .bad) _
    simp only [List.length_cons] at hl
    rw [if_pos (by omega)]
    refine wp_mono (compL_pen (c := c) P (b := b + c) (fun y hy b' cs' h1 h2 => h y (List.mem_cons_of_mem _ hy) b' cs' (by omega) (by rw [List.length_cons, Nat.mul_add, Nat.mul_one]; omega)) (by simp; omega) (by
      intro y hy
      rcases List.mem_append.mp hy with q | q
      · exact ha y q
      · simp at q; subst q; exact hd) hp2) fun ds cs' q => ?_
    refine ⟨by rw [q.1]; simp; omega, q.2.1, ?_⟩
    have : b + c + c * xs.length = b + c * (x :: xs).length := by simp [Nat.mul_add]; omega
    rw [← this]
    exact q.2.2
theorem comp_pen {α : Type} {turn : D → Cells → Res (Option D)} {tl : Cells} {c n : Nat} (P : D → Prop) {xs : List D} {b : Nat} {cs : Cells} {k : List D → Cells → Res α} {Q : α → Cells → Prop} (h : ∀ x ∈ xs, ∀ b' cs, b ≤ b' → b' + c ≤ b + c * xs.length → Pn tl b' cs → Wp (turn x cs) fun o cs' => ∃ d, o = some d ∧ P d ∧ Pn tl (b' + c) cs')
    (hl : xs.length ≤ n) (hn : n ≤ sizeLine) (hp : Pn tl b cs) (hk : ∀ ds cs', ds.length = xs.length → (∀ d ∈ ds, P d) → Pn tl (b + c * n) cs' → Wp (k ds cs') Q) : Wp ((compF turn [] xs cs).bind k) Q :=
  wp_at (compL_pen P h (by simpa using Nat.le_trans hl hn) (by simp) hp) fun ds cs' q => hk ds cs' (by simpa using q.1) q.2.1 (q.2.2.mono (Nat.add_le_add_left (Nat.mul_le_mul_left _ hl) _))
end Dv
end
section
set_option maxRecDepth 100000
namespace Pk
open PySem PySem.Spec PyProof.Rows L2 Dv
def f_is_integer : Fn := ⟨1, false, 1, [], none, (.seq (.ret (.and (.isi (.var 0) [.int]) (.not (.isi (.var 0) [.bool])))) .skip)⟩
def f_is_within : Fn := ⟨3, false, 3, [], none, (.seq (.ret (.and (.call 0 (.cons (.var 0) .nil)) (.chain .le .le (.var 1) (.var 0) (.var 2)))) .skip)⟩
def f_need_count : Fn := ⟨2, false, 2, [], none, (.seq (.ite (.not (.call 1 (.cons (.var 0) (.cons (.int 0) (.cons (.var 1) .nil))))) (.seq .never .skip) .skip) .skip)⟩
def f_ascending : Fn := ⟨1, false, 3, [], none, (.seq (.ret (.blt .tuple (.cons (.blt .sorted (.cons (.comp (.blt .int (.cons (.var 1) .nil)) [1] true (.dkeys 2 (.var 0)) .nil) .nil)) .nil))) .skip)⟩
def f_shared : Fn := ⟨1, false, 3, [], none, (.seq (.set 1 (.sub (.var 0) (.int 0))) (.seq (.for_ [2] true (.var 0) (.seq (.while_ (.cmp .gt (.var 2) (.int 0)) (.seq (.par [1, 2] (.cons (.var 2) (.cons (.bin .mod (.blt .int (.cons (.var 1) .nil)) (.var 2)) .nil))) .skip)) .skip)) (.seq (.ret (.var 1)) .skip)))⟩
def f_first_totals : Fn := ⟨1, false, 9, [], none, (.seq (.set 1 (.sub (.var 0) (.int 0))) (.seq (.own 2 (.cons (.int 0) (.star (.comp .non [8] true (.rng2 (.int 1) (.var 1)) .nil) .nil))) (.seq (.set 3 (.bl true)) (.seq (.while_ (.var 3) (.seq (.set 3 (.bl false)) (.seq (.for_ [4] true (.compO (.var 6) [6] true 2 (.notn (.var 6))) (.seq (.for_ [5] true (.var 0) (.seq (.set 7 (.bin .add (.var 4) (.var 5))) (.seq (.set 8 (.bin .mod (.blt .int (.cons (.var 7) .nil)) (.var 1))) (.seq (.ite (.or (.isn (.sub (.var 2) (.var 8))) (.cmp .lt (.var 7) (.sub (.var 2) (.var 8)))) (.seq (.setI 2 (.var 8) (.var 7)) (.seq (.set 3 (.bl true)) .skip)) .skip) .skip)))) .skip)) .skip))) (.frz 2 (.seq (.ret (.var 2)) .skip))))))⟩
def f_need_lengths : Fn := ⟨1, false, 1, [], none, (.seq (.ite (.not (.isi (.var 0) [.cls 0])) (.seq .never .skip) .skip) .skip)⟩
def f_lengths_of : Fn := ⟨1, false, 1, [], none, (.seq (.ret (.new 0 (.star (.var 0) .nil))) .skip)⟩
def f_length_in : Fn := ⟨1, false, 2, [], none, (.seq (.ite (.or (.not (.chain .le .le (.int 1) (.blt .len (.cons (.var 0) .nil)) (.int 2))) (.or (.cmp .eq (.sub (.var 0) (.int 0)) (.str "0")) (.not (.blt .all (.cons (.comp (.cmp .isin (.var 1) (.str "0123456789")) [1] true (.var 0) .nil) .nil))))) (.seq (.ret .non) .skip) .skip) (.seq (.ret (.ifx (.cmp .le (.blt .int (.cons (.var 0) .nil)) (.glob 1)) (.blt .int (.cons (.var 0) .nil)) .non)) .skip))⟩
def f_lengths_in : Fn := ⟨1, false, 5, [], none, (.seq (.ite (.not (.isi (.var 0) [.str])) (.seq .never .skip) .skip) (.seq (.own 1 .nil) (.seq (.for_ [2, 3] false (.enum (.split (.var 0) (.str " "))) (.seq (.set 4 (.call 8 (.cons (.var 3) .nil))) (.seq (.ite (.or (.isn (.var 4)) (.or (.cmp .eq (.blt .len (.cons (.var 1) .nil)) (.glob 0)) (.and (.cmp .gt (.blt .len (.cons (.var 1) .nil)) (.int 0)) (.cmp .le (.var 4) (.sub (.var 1) (.neg (.int 1))))))) (.seq .never .skip) .skip) (.seq (.app 1 (.var 4)) .skip)))) (.frz 1 (.seq (.ret (.var 1)) .skip)))))⟩
def f_need_book : Fn := ⟨2, false, 2, [], none, (.seq (.ite (.not (.isi (.var 0) [.cls 1])) (.seq .never .skip) .skip) .skip)⟩
def f_need_word : Fn := ⟨3, false, 3, [], none, (.seq (.ite (.or (.not (.isi (.var 0) [.str])) (.cmp .notin (.var 0) (.var 1))) (.seq .never .skip) .skip) .skip)⟩
def f_upcoming : Fn := ⟨2, false, 2, [], none, (.seq (.ret (.ifx (.cmp .lt (.var 1) (.blt .len (.cons (.var 0) .nil))) (.sub (.var 0) (.var 1)) (.str ""))) .skip)⟩
def f_need_head : Fn := ⟨3, false, 3, [], none, (.seq (.ite (.cmp .ne (.call 12 (.cons (.var 0) (.cons (.var 1) .nil))) (.var 2)) (.seq .never .skip) .skip) .skip)⟩
def f_number_at : Fn := ⟨4, false, 6, [], none, (.seq (.set 4 (.call 12 (.cons (.var 0) (.cons (.var 1) .nil)))) (.seq (.ite (.cmp .notin (.var 4) (.comp (.blt .str (.cons (.var 5) .nil)) [5] true (.rng2 (.var 2) (.bin .add (.var 3) (.int 1))) .nil)) (.seq .never .skip) .skip) (.seq (.ret (.blt .int (.cons (.var 4) .nil))) .skip)))⟩
def f_lengths_at : Fn := ⟨3, false, 6, [], none, (.seq (.own 3 .nil) (.seq (.while_ (.or (.cmp .eq (.blt .len (.cons (.var 3) .nil)) (.int 0)) (.and (.cmp .lt (.blt .len (.cons (.var 3) .nil)) (.int 6)) (.cmp .ne (.call 12 (.cons (.var 0) (.cons (.var 1) .nil))) (.str "low")))) (.seq (.set 4 (.ifx (.cmp .gt (.blt .len (.cons (.var 3) .nil)) (.int 0)) (.bin .add (.sub (.var 3) (.neg (.int 1))) (.int 1)) (.int 1))) (.seq (.set 5 (.call 14 (.cons (.var 0) (.cons (.var 1) (.cons (.var 4) (.cons (.glob 4) .nil)))))) (.seq (.ite (.cmp .gt (.bin .add (.var 5) (.ifx (.cmp .gt (.blt .len (.cons (.var 3) .nil)) (.int 0)) (.sub (.var 3) (.int 0)) (.var 5))) (.var 2)) (.seq .never .skip) .skip) (.seq (.app 3 (.var 5)) (.seq (.aug 1 .add (.int 1)) .skip)))))) (.frz 3 (.seq (.ret (.tup (.cons (.var 1) (.cons (.var 3) .nil)))) .skip))))⟩
def f_are_rows : Fn := ⟨1, false, 2, [], none, (.seq (.ite (.or (.not (.isi (.var 0) [.list, .tuple])) (.cmp .gt (.blt .len (.cons (.var 0) .nil)) (.glob 6))) (.seq (.ret (.bl false)) .skip) .skip) (.seq (.ret (.blt .all (.cons (.comp (.call 1 (.cons (.var 1) (.cons (.int 1) (.cons (.glob 1) .nil)))) [1] true (.var 0) .nil) .nil))) .skip))⟩
def f_total_of : Fn := ⟨1, false, 2, [], none, (.seq (.ret (.blt .sum (.cons (.comp (.blt .int (.cons (.var 1) .nil)) [1] true (.var 0) .nil) .nil))) .skip)⟩
def f_rows_of : Fn := ⟨1, false, 3, [], none, (.seq (.own 1 .nil) (.seq (.for_ [2] true (.var 0) (.seq (.ext 1 (.var 2)) .skip)) (.frz 1 (.seq (.ret (.blt .tuple (.cons (.var 1) .nil))) .skip))))⟩
def f_pages_in : Fn := ⟨1, false, 7, [], none, (.seq (.ite (.not (.isi (.var 0) [.str])) (.seq .never .skip) .skip) (.seq (.set 1 (.split (.var 0) (.str " "))) (.seq (.ite (.cmp .eq (.sub (.var 1) (.int 0)) (.str "-")) (.seq (.ite (.cmp .gt (.blt .len (.cons (.var 1) .nil)) (.int 1)) (.seq .never .skip) .skip) (.seq (.ret (.lst (.cons (.tup .nil) .nil))) .skip)) .skip) (.seq (.par [2, 3] (.cons (.lst .nil) (.cons (.lst .nil) .nil))) (.seq (.for_ [4, 5] false (.enum (.var 1)) (.seq (.set 6 (.call 8 (.cons (.var 5) .nil))) (.seq (.ite (.and (.notn (.var 6)) (.cmp .lt (.blt .len (.cons (.var 3) .nil)) (.glob 6))) (.seq (.app 3 (.var 6)) .skip) (.seq (.ite (.and (.cmp .eq (.var 5) (.str "/")) (.and (.cmp .gt (.blt .len (.cons (.var 3) .nil)) (.int 0)) (.cmp .lt (.blt .len (.cons (.var 2) .nil)) (.bin .sub (.glob 5) (.int 1))))) (.seq (.app 2 (.var 3)) (.seq (.own 3 .nil) .skip)) (.seq .never .skip)) .skip)) .skip))) (.seq (.ite (.cmp .eq (.blt .len (.cons (.var 3) .nil)) (.int 0)) (.seq .never .skip) .skip) (.seq (.ret (.lst (.star (.var 2) (.cons (.var 3) .nil)))) .skip)))))))⟩
def f_Lengths_init : Fn := ⟨1, true, 4, [], some 0, (.seq (.for_ [2, 3] false (.enum (.var 1)) (.seq (.ite (.not (.call 1 (.cons (.var 3) (.cons (.int 1) (.cons (.glob 1) .nil))))) (.seq .never .skip) .skip) .skip)) (.seq (.ite (.cmp .eq (.blt .len (.cons (.var 1) .nil)) (.int 0)) (.seq .never .skip) .skip) (.seq (.setA 0 0 (.call 3 (.cons (.var 1) .nil))) (.seq (.ite (.cmp .gt (.blt .len (.cons (.attr (.var 0) 0) .nil)) (.glob 0)) (.seq .never .skip) .skip) (.seq (.setA 0 1 (.sub (.attr (.var 0) 0) (.int 0))) (.seq (.setA 0 2 (.sub (.attr (.var 0) 0) (.neg (.int 1)))) (.seq (.setA 0 3 (.call 5 (.cons (.attr (.var 0) 0) .nil))) .skip)))))))⟩
def f_Lengths_read : Fn := ⟨2, false, 3, [], none, (.seq (.set 2 (.call 9 (.cons (.var 1) .nil))) (.seq (.ret (.newv 0 (.star (.var 2) .nil))) .skip))⟩
def f_Lengths_len : Fn := ⟨1, false, 1, [], none, (.seq (.ret (.blt .len (.cons (.attr (.var 0) 0) .nil))) .skip)⟩
def f_Lengths_contains : Fn := ⟨2, false, 2, [], none, (.seq (.ret (.and (.call 1 (.cons (.var 1) (.cons (.int 1) (.cons (.glob 1) .nil)))) (.cmp .isin (.var 1) (.attr (.var 0) 0)))) .skip)⟩
def f_Lengths_or : Fn := ⟨2, false, 2, [], none, (.seq (.ex (.call 6 (.cons (.var 1) .nil))) (.seq (.ret (.call 7 (.cons (.lst (.star (.attr (.var 0) 0) (.star (.attr (.var 1) 0) .nil))) .nil))) .skip))⟩
def f_Lengths_and : Fn := ⟨2, false, 3, [], none, (.seq (.ex (.call 6 (.cons (.var 1) .nil))) (.seq (.ret (.call 7 (.cons (.comp (.var 2) [2] true (.attr (.var 0) 0) (.cmp .isin (.var 2) (.attr (.var 1) 0))) .nil))) .skip))⟩
def f_Lengths_sub : Fn := ⟨2, false, 3, [], none, (.seq (.ex (.call 6 (.cons (.var 1) .nil))) (.seq (.ret (.call 7 (.cons (.comp (.var 2) [2] true (.attr (.var 0) 0) (.cmp .notin (.var 2) (.attr (.var 1) 0))) .nil))) .skip))⟩
def f_Lengths_within : Fn := ⟨2, false, 3, [], none, (.seq (.ex (.call 6 (.cons (.var 1) .nil))) (.seq (.ret (.blt .all (.cons (.comp (.cmp .isin (.var 2) (.attr (.var 1) 0)) [2] true (.attr (.var 0) 0) .nil) .nil))) .skip))⟩
def f_Lengths_has_total : Fn := ⟨2, false, 3, [], none, (.seq (.ite (.not (.call 1 (.cons (.var 1) (.cons (.int 1) (.cons (.glob 3) .nil))))) (.seq (.ret (.bl false)) .skip) .skip) (.seq (.set 2 (.sub (.attr (.var 0) 3) (.bin .mod (.blt .int (.cons (.var 1) .nil)) (.attr (.var 0) 1)))) (.seq (.ret (.and (.notn (.var 2)) (.cmp .le (.var 2) (.var 1)))) .skip)))⟩
def f_Lengths_totals : Fn := ⟨2, false, 3, [], none, (.seq (.ex (.call 2 (.cons (.var 1) (.cons (.glob 2) .nil)))) (.seq (.ret (.blt .tuple (.cons (.comp (.var 2) [2] true (.rng2 (.int 1) (.bin .add (.var 1) (.int 1))) (.meth 14 (.var 0) (.cons (.var 2) .nil))) .nil))) .skip))⟩
def f_Lengths_divisor : Fn := ⟨1, false, 1, [], none, (.seq (.ret (.call 4 (.cons (.attr (.var 0) 0) .nil))) .skip)⟩
def f_Lengths_fewest : Fn := ⟨2, false, 7, [], none, (.seq (.ex (.call 2 (.cons (.var 1) (.cons (.glob 2) .nil)))) (.seq (.own 2 (.cons (.int 0) .nil)) (.seq (.for_ [3] true (.rng2 (.int 1) (.bin .add (.var 1) (.int 1))) (.seq (.set 4 (.comp (.sub (.var 2) (.bin .sub (.var 3) (.var 5))) [5] true (.attr (.var 0) 0) (.cmp .le (.var 5) (.var 3)))) (.seq (.set 4 (.comp (.blt .int (.cons (.var 6) .nil)) [6] true (.var 4) (.notn (.var 6)))) (.seq (.app 2 (.ifx (.cmp .ne (.var 4) (.lst .nil)) (.bin .add (.int 1) (.blt .min (.cons (.var 4) .nil))) .non)) .skip)))) (.seq (.ret (.sub (.var 2) (.var 1))) .skip))))⟩
def f_Lengths_many : Fn := ⟨2, false, 5, [], none, (.seq (.ex (.call 2 (.cons (.var 1) (.cons (.glob 2) .nil)))) (.seq (.own 2 (.cons (.int 1) .nil)) (.seq (.for_ [3] true (.rng2 (.int 1) (.bin .add (.var 1) (.int 1))) (.seq (.app 2 (.blt .sum (.cons (.comp (.blt .int (.cons (.sub (.var 2) (.bin .sub (.var 3) (.var 4))) .nil)) [4] true (.attr (.var 0) 0) (.cmp .le (.var 4) (.var 3))) .nil))) .skip)) (.seq (.ret (.sub (.var 2) (.var 1))) .skip))))⟩
def f_Lengths_eq : Fn := ⟨2, false, 2, [], none, (.seq (.ret (.and (.isi (.var 1) [.cls 0]) (.cmp .eq (.attr (.var 0) 0) (.attr (.var 1) 0)))) .skip)⟩
def f_Lengths_str : Fn := ⟨1, false, 2, [], none, (.seq (.ret (.join (.str " ") (.comp (.fmt (.var 1)) [1] true (.attr (.var 0) 0) .nil))) .skip)⟩
def f_Lengths_iter : Fn := ⟨1, false, 1, [], none, .never⟩
def f_Book_init : Fn := ⟨8, false, 8, [.str "own", .str "even", .str "left"], some 1, (.seq (.ite (.not (.call 1 (.cons (.var 1) (.cons (.int 2) (.cons (.glob 4) .nil))))) (.seq .never .skip) .skip) (.seq (.ite (.or (.not (.isi (.var 2) [.cls 0])) (.cmp .gt (.bin .add (.attr (.var 2) 1) (.attr (.var 2) 2)) (.var 1))) (.seq .never .skip) .skip) (.seq (.ite (.not (.call 1 (.cons (.var 3) (.cons (.int 0) (.cons (.bin .add (.var 1) (.int 1)) .nil))))) (.seq .never .skip) .skip) (.seq (.ite (.not (.call 1 (.cons (.var 4) (.cons (.int 0) (.cons (.var 1) .nil))))) (.seq .never .skip) .skip) (.seq (.ex (.call 11 (.cons (.var 5) (.cons (.cval 1 16) (.cons (.str "looks") .nil))))) (.seq (.ex (.call 11 (.cons (.var 6) (.cons (.cval 1 17) (.cons (.str "cut") .nil))))) (.seq (.ex (.call 11 (.cons (.var 7) (.cons (.cval 1 18) (.cons (.str "side") .nil))))) (.seq (.setA 0 4 (.var 1)) (.seq (.setA 0 5 (.var 2)) (.seq (.setA 0 6 (.var 3)) (.seq (.setA 0 7 (.var 4)) (.seq (.setA 0 8 (.var 5)) (.seq (.setA 0 9 (.var 6)) (.seq (.setA 0 10 (.var 7)) (.seq (.setA 0 11 (.meth 15 (.var 2) (.cons (.var 1) .nil))) .skip)))))))))))))))⟩
def f_Book_read : Fn := ⟨2, false, 10, [], none, (.seq (.set 2 (.ifx (.isi (.var 1) [.str]) (.split (.var 1) (.str " ")) (.lst (.cons (.str "") .nil)))) (.seq (.ex (.call 13 (.cons (.var 2) (.cons (.int 0) (.cons (.str "room") .nil))))) (.seq (.set 3 (.call 14 (.cons (.var 2) (.cons (.int 1) (.cons (.int 2) (.cons (.glob 4) .nil)))))) (.seq (.ex (.call 13 (.cons (.var 2) (.cons (.int 2) (.cons (.str "lengths") .nil))))) (.seq (.setT [6, 7] (.call 15 (.cons (.var 2) (.cons (.int 3) (.cons (.var 3) .nil))))) (.seq (.ex (.call 13 (.cons (.var 2) (.cons (.var 6) (.cons (.str "low") .nil))))) (.seq (.set 4 (.call 14 (.cons (.var 2) (.cons (.bin .add (.var 6) (.int 1)) (.cons (.int 0) (.cons (.bin .add (.var 3) (.int 1)) .nil)))))) (.seq (.ex (.call 13 (.cons (.var 2) (.cons (.bin .add (.var 6) (.int 2)) (.cons (.str "bound") .nil))))) (.seq (.set 5 (.call 14 (.cons (.var 2) (.cons (.bin .add (.var 6) (.int 3)) (.cons (.int 0) (.cons (.var 3) .nil)))))) (.seq (.for_ [8, 9] false (.enum (.tup (.cons (.cval 1 16) (.cons (.cval 1 17) (.cons (.cval 1 18) .nil))))) (.seq (.ite (.cmp .notin (.call 12 (.cons (.var 2) (.cons (.bin .add (.bin .add (.var 6) (.int 4)) (.var 8)) .nil))) (.var 9)) (.seq .never .skip) .skip) .skip)) (.seq (.ite (.cmp .gt (.blt .len (.cons (.var 2) .nil)) (.bin .add (.var 6) (.int 7))) (.seq .never .skip) .skip) (.seq (.ret (.new 1 (.cons (.var 3) (.cons (.new 0 (.star (.var 7) .nil)) (.cons (.var 4) (.cons (.var 5) (.cons (.sub (.var 2) (.bin .add (.var 6) (.int 4))) (.cons (.sub (.var 2) (.bin .add (.var 6) (.int 5))) (.cons (.sub (.var 2) (.bin .add (.var 6) (.int 6))) .nil))))))))) .skip))))))))))))⟩
def f_Book_sums : Fn := ⟨1, false, 1, [], none, (.seq (.ret (.attr (.var 0) 11)) .skip)⟩
def f_Book_is_low : Fn := ⟨2, false, 2, [], none, (.seq (.ret (.and (.call 1 (.cons (.var 1) (.cons (.int 0) (.cons (.attr (.var 0) 4) .nil)))) (.cmp .lt (.var 1) (.attr (.var 0) 6)))) .skip)⟩
def f_Book_call : Fn := ⟨3, false, 3, [], none, (.seq (.ite (.or (.not (.call 0 (.cons (.var 1) .nil))) (.or (.not (.call 0 (.cons (.var 2) .nil))) (.or (.cmp .notin (.var 1) (.attr (.var 0) 11)) (.cmp .notin (.var 2) (.attr (.var 0) 11))))) (.seq (.ret (.bl false)) .skip) .skip) (.seq (.ite (.cmp .gt (.bin .add (.var 1) (.var 2)) (.attr (.var 0) 7)) (.seq (.ret (.bl true)) .skip) .skip) (.seq (.ite (.cmp .eq (.attr (.var 0) 8) (.str "own")) (.seq (.ret (.cmp .ge (.blt .max2 (.cons (.var 1) (.cons (.var 2) .nil))) (.attr (.var 0) 6))) .skip) .skip) (.seq (.ret (.cmp .ge (.blt .min2 (.cons (.var 1) (.cons (.var 2) .nil))) (.attr (.var 0) 6))) .skip))))⟩
def f_Book_partners : Fn := ⟨2, false, 3, [], none, (.seq (.ite (.or (.not (.call 0 (.cons (.var 1) .nil))) (.cmp .notin (.var 1) (.attr (.var 0) 11))) (.seq .never .skip) .skip) (.seq (.ret (.blt .tuple (.cons (.comp (.var 2) [2] true (.attr (.var 0) 11) (.callv 0 (.cons (.var 1) (.cons (.var 2) .nil)))) .nil))) .skip))⟩
def f_Book_and : Fn := ⟨2, false, 5, [], none, (.seq (.ite (.or (.not (.isi (.var 1) [.cls 1])) (.or (.cmp .ne (.attr (.var 0) 4) (.attr (.var 1) 4)) (.cmp .ne (.attr (.var 0) 5) (.attr (.var 1) 5)))) (.seq .never .skip) .skip) (.seq (.set 2 (.ifx (.cmp .isin (.str "own") (.tup (.cons (.attr (.var 0) 8) (.cons (.attr (.var 1) 8) .nil)))) (.str "own") (.str "near"))) (.seq (.par [3, 4] (.cons (.blt .min2 (.cons (.blt .int (.cons (.attr (.var 0) 6) .nil)) (.cons (.blt .int (.cons (.attr (.var 1) 6) .nil)) .nil))) (.cons (.blt .min2 (.cons (.blt .int (.cons (.attr (.var 0) 7) .nil)) (.cons (.blt .int (.cons (.attr (.var 1) 7) .nil)) .nil))) .nil))) (.seq (.ret (.new 1 (.cons (.attr (.var 0) 4) (.cons (.attr (.var 0) 5) (.cons (.var 3) (.cons (.var 4) (.cons (.var 2) (.cons (.attr (.var 0) 9) (.cons (.attr (.var 0) 10) .nil))))))))) .skip))))⟩
def f_Book_eq : Fn := ⟨2, false, 2, [], none, (.seq (.ite (.or (.not (.isi (.var 1) [.cls 1])) (.or (.cmp .ne (.attr (.var 0) 4) (.attr (.var 1) 4)) (.cmp .ne (.attr (.var 0) 5) (.attr (.var 1) 5)))) (.seq (.ret (.bl false)) .skip) .skip) (.seq (.ite (.or (.cmp .ne (.attr (.var 0) 6) (.attr (.var 1) 6)) (.cmp .ne (.attr (.var 0) 7) (.attr (.var 1) 7))) (.seq (.ret (.bl false)) .skip) .skip) (.seq (.ret (.and (.cmp .eq (.attr (.var 0) 8) (.attr (.var 1) 8)) (.and (.cmp .eq (.attr (.var 0) 9) (.attr (.var 1) 9)) (.cmp .eq (.attr (.var 0) 10) (.attr (.var 1) 10))))) .skip)))⟩
def f_Book_str : Fn := ⟨1, false, 2, [], none, (.seq (.set 1 (.fstr (.cons (.str "low ") (.cons (.fmt (.attr (.var 0) 6)) (.cons (.str " bound ") (.cons (.fmt (.attr (.var 0) 7)) (.cons (.str " ") (.cons (.fmt (.attr (.var 0) 8)) (.cons (.str " ") (.cons (.fmt (.attr (.var 0) 9)) (.cons (.str " ") (.cons (.fmt (.attr (.var 0) 10)) .nil)))))))))))) (.seq (.ret (.fstr (.cons (.str "room ") (.cons (.fmt (.attr (.var 0) 4)) (.cons (.str " lengths ") (.cons (.fmt (.attr (.var 0) 5)) (.cons (.str " ") (.cons (.fmt (.var 1)) .nil)))))))) .skip))⟩
def f_Book_but : Fn := ⟨2, false, 4, [], some 1000000, (.seq (.for_ [2] true (.dks (.var 1)) (.seq (.ite (.cmp .notin (.var 2) (.glob 7)) (.seq .never .skip) .skip) .skip)) (.seq (.set 3 (.dctA (.var 0) (.var 1) [("room", 4), ("lengths", 5), ("low", 6), ("bound", 7), ("looks", 8), ("cut", 9), ("side", 10)])) (.seq (.ret (.new 1 (.cons (.dsub (.var 3) "room") (.cons (.dsub (.var 3) "lengths") (.cons (.dsub (.var 3) "low") (.cons (.dsub (.var 3) "bound") (.cons (.dsub (.var 3) "looks") (.cons (.dsub (.var 3) "cut") (.cons (.dsub (.var 3) "side") .nil))))))))) .skip)))⟩
def f_Chain_init : Fn := ⟨1, true, 4, [], some 2, (.seq (.for_ [2, 3] false (.enum (.var 1)) (.seq (.ite (.or (.not (.call 16 (.cons (.var 3) .nil))) (.and (.cmp .eq (.blt .len (.cons (.var 3) .nil)) (.int 0)) (.cmp .gt (.blt .len (.cons (.var 1) .nil)) (.int 1)))) (.seq .never .skip) .skip) .skip)) (.seq (.ite (.cmp .eq (.blt .len (.cons (.var 1) .nil)) (.int 0)) (.seq .never .skip) .skip) (.seq (.ite (.cmp .gt (.blt .len (.cons (.var 1) .nil)) (.glob 5)) (.seq .never .skip) .skip) (.seq (.setA 0 12 (.blt .tuple (.cons (.comp (.blt .tuple (.cons (.var 3) .nil)) [3] true (.var 1) .nil) .nil))) (.seq (.setA 0 13 (.call 18 (.cons (.attr (.var 0) 12) .nil))) (.seq (.setA 0 14 (.call 17 (.cons (.attr (.var 0) 13) .nil))) .skip))))))⟩
def f_Chain_read : Fn := ⟨2, false, 3, [], none, (.seq (.set 2 (.call 19 (.cons (.var 1) .nil))) (.seq (.ret (.newv 0 (.star (.var 2) .nil))) .skip))⟩
def f_Chain_sums : Fn := ⟨1, false, 2, [], none, (.seq (.ret (.blt .tuple (.cons (.comp (.call 17 (.cons (.var 1) .nil)) [1] true (.attr (.var 0) 12) .nil) .nil))) .skip)⟩
def f_Chain_kinds : Fn := ⟨1, false, 2, [], none, (.seq (.set 1 (.attr (.var 0) 13)) (.seq (.ret (.ifx (.cmp .gt (.blt .len (.cons (.var 1) .nil)) (.int 0)) (.new 0 (.star (.var 1) .nil)) .non)) .skip))⟩
def f_Chain_len : Fn := ⟨1, false, 1, [], none, (.seq (.ret (.blt .len (.cons (.attr (.var 0) 12) .nil))) .skip)⟩
def f_Chain_getitem : Fn := ⟨2, false, 2, [], none, (.seq (.ex (.meth 23 (.var 0) (.cons (.var 1) .nil))) (.seq (.ret (.sub (.attr (.var 0) 12) (.var 1))) .skip))⟩
def f_Chain_stretch : Fn := ⟨3, false, 5, [], none, (.seq (.for_ [3] true (.tup (.cons (.var 1) (.cons (.var 2) .nil))) (.seq (.ite (.not (.call 1 (.cons (.var 3) (.cons (.int 0) (.cons (.blt .len (.cons (.attr (.var 0) 12) .nil)) .nil))))) (.seq .never .skip) .skip) .skip)) (.seq (.set 4 (.slice (.attr (.var 0) 12) (.var 1) (.var 2))) (.seq (.ret (.new 2 (.star (.var 4) .nil))) .skip)))⟩
def f_Chain_need_page : Fn := ⟨2, false, 2, [], none, (.seq (.ite (.not (.call 1 (.cons (.var 1) (.cons (.int 0) (.cons (.bin .sub (.blt .len (.cons (.attr (.var 0) 12) .nil)) (.int 1)) .nil))))) (.seq .never .skip) .skip) .skip)⟩
def f_Chain_add : Fn := ⟨2, false, 4, [], none, (.seq (.ite (.not (.isi (.var 1) [.cls 2])) (.seq .never .skip) .skip) (.seq (.set 2 (.comp (.var 3) [3] true (.lst (.star (.attr (.var 0) 12) (.star (.attr (.var 1) 12) .nil))) (.cmp .gt (.blt .len (.cons (.var 3) .nil)) (.int 0)))) (.seq (.ret (.ifx (.cmp .gt (.blt .len (.cons (.var 2) .nil)) (.int 0)) (.new 2 (.star (.var 2) .nil)) (.new 2 (.cons (.tup .nil) .nil)))) .skip)))⟩
def f_Chain_invert : Fn := ⟨1, false, 3, [], none, (.seq (.set 1 (.comp (.rev (.var 2)) [2] true (.rev (.attr (.var 0) 12)) .nil)) (.seq (.ret (.new 2 (.star (.var 1) .nil))) .skip))⟩
def f_Chain_with_page : Fn := ⟨3, false, 4, [], none, (.seq (.ex (.meth 23 (.var 0) (.cons (.var 1) .nil))) (.seq (.set 3 (.lst (.star (.slice (.attr (.var 0) 12) .nil (.var 1)) (.cons (.var 2) (.star (.slice (.attr (.var 0) 12) (.bin .add (.var 1) (.int 1)) .nil) .nil))))) (.seq (.ret (.new 2 (.star (.var 3) .nil))) .skip)))⟩
def f_Chain_without_page : Fn := ⟨2, false, 3, [], none, (.seq (.ex (.meth 23 (.var 0) (.cons (.var 1) .nil))) (.seq (.set 2 (.lst (.star (.slice (.attr (.var 0) 12) .nil (.var 1)) (.star (.slice (.attr (.var 0) 12) (.bin .add (.var 1) (.int 1)) .nil) .nil)))) (.seq (.ret (.new 2 (.star (.var 2) .nil))) .skip)))⟩
def f_Chain_fits : Fn := ⟨2, false, 4, [], none, (.seq (.ite (.not (.isi (.var 1) [.cls 1])) (.seq .never .skip) .skip) (.seq (.ite (.not (.blt .all (.cons (.comp (.cmp .isin (.var 3) (.attr (.var 1) 5)) [3] true (.attr (.var 0) 13) .nil) .nil))) (.seq (.ret (.bl false)) .skip) .skip) (.seq (.ret (.blt .all (.cons (.comp (.cmp .le (.var 2) (.attr (.var 1) 4)) [2] true (.prop (.var 0) 21) .nil) .nil))) .skip)))⟩
def f_Chain_first_unlet : Fn := ⟨2, false, 5, [], none, (.seq (.ite (.not (.meth 26 (.var 0) (.cons (.var 1) .nil))) (.seq .never .skip) .skip) (.seq (.set 2 (.prop (.var 0) 21)) (.seq (.set 3 (.comp (.var 4) [4] true (.rng (.bin .sub (.blt .len (.cons (.var 2) .nil)) (.int 1))) (.not (.callv 1 (.cons (.sub (.var 2) (.var 4)) (.cons (.sub (.var 2) (.bin .add (.var 4) (.int 1))) .nil)))))) (.seq (.ret (.ifx (.cmp .ne (.var 3) (.lst .nil)) (.sub (.var 3) (.int 0)) .non)) .skip))))⟩
def f_Chain_eq : Fn := ⟨2, false, 2, [], none, (.seq (.ret (.and (.isi (.var 1) [.cls 2]) (.cmp .eq (.attr (.var 0) 12) (.attr (.var 1) 12)))) .skip)⟩
def f_Chain_str : Fn := ⟨1, false, 3, [], none, (.seq (.ite (.cmp .eq (.attr (.var 0) 12) (.tup (.cons (.tup .nil) .nil))) (.seq (.ret (.str "-")) .skip) .skip) (.seq (.ret (.join (.str " / ") (.comp (.join (.str " ") (.comp (.fmt (.var 2)) [2] true (.var 1) .nil)) [1] true (.attr (.var 0) 12) .nil))) .skip))⟩
def f_Chain_iter : Fn := ⟨1, false, 1, [], none, .never⟩
/-! numbers
0 is_integer
1 is_within
2 need_count
3 ascending
4 shared
5 first_totals
6 need_lengths
7 lengths_of
8 length_in
9 lengths_in
10 need_book
11 need_word
12 upcoming
13 need_head
14 number_at
15 lengths_at
16 are_rows
17 total_of
18 rows_of
19 pages_in
20 Lengths.__init__
21 Lengths.read
22 Lengths.__len__
23 Lengths.__contains__
24 Lengths.__or__
25 Lengths.__and__
26 Lengths.__sub__
27 Lengths.within
28 Lengths.has_total
29 Lengths.totals
30 Lengths.divisor
31 Lengths.missing
32 Lengths.fewest
33 Lengths.many
34 Lengths.__eq__
35 Lengths.__str__
36 Lengths.__iter__
37 Book.__init__
38 Book.read
39 Book.sums
40 Book.is_low
41 Book.__call__
42 Book.partners
43 Book.__and__
44 Book.__eq__
45 Book.__str__
46 Book.but
47 Chain.__init__
48 Chain.read
49 Chain.sums
50 Chain.kinds
51 Chain.__len__
52 Chain.__getitem__
53 Chain.stretch
54 Chain.need_page
55 Chain.__add__
56 Chain.__invert__
57 Chain.with_page
58 Chain.without_page
59 Chain.fits
60 Chain.first_unlet
61 Chain.__eq__
62 Chain.__str__
63 Chain.__iter__
-/
end Pk
end
section
set_option Elab.async false
set_option linter.all false
set_option maxRecDepth 100000
set_option maxHeartbeats 400000
namespace Pk
open PySem PySem.Spec PyProof.Rows L2 Dv
theorem run_of {T : Tab} {k i : Nat} {F : Fn} {ρ : Dv.Env} {ds : List Dv.D} {cs : Cells} (hF : T.fns[i]? = some F) (hi : F.ini = none) (he : freshE F ds = some ρ) : run T (k + 1) false i ds cs = (sm T (run T k) F.body ρ cs).bind endF := by
  show (match T.fns[i]? with
    | none => Res.bad
    | some F => (match F.ini with
      | some _ => Res.bad
      | none => (match freshE F ds with
        | none => Res.bad
        | some ρ => (sm T (run T k) F.body ρ cs).bind endF))) = _
  rw [hF]
  simp only [hi, he]
structure Has (T : Tab) (i : Nat) (F : Fn) : Prop where
  at_ : T.fns[i]? = some F
variable {T : Tab} {k : Nat}
theorem r_integer (h0 : Has T 0 f_is_integer) (n : Int) (cs : Cells) : run T (k + 1) false 0 [.int n] cs = .ok (.bl true) cs := by
  rw [run_of h0.at_ rfl rfl]
  rfl
theorem r_within (h0 : Has T 0 f_is_integer) (h1 : Has T 1 f_is_within) (n a b : Int) (cs : Cells) : run T (k + 2) false 1 [.int n, .int a, .int b] cs = .ok (.bl (decide (a ≤ n) && decide (n ≤ b))) cs := by
  rw [run_of (ρ := [.val (.int n), .val (.int a), .val (.int b)]) h1.at_ rfl rfl]
  unfold f_is_within
  by_cases q : a ≤ n
  · simp only [sm, thenF_nx, thenF_ret, thenF_brk, thenF_cnt, den, ofVT, ofVB, noDen, baseA, cmpD, bltD, bind_ok, ofRes_some, getV_0, getV_s, getB_0, getB_s, truth_bl, truth_int, cmp_lt, cmp_le, cmp_gt, cmp_ge, List.getElem?_cons_zero, List.getElem?_cons_succ, List.set_cons_zero, List.set_cons_succ, if_true, if_false, reduceIte, decide_true, decide_false, end_ret, end_nx, List.length_cons, List.length_nil, Nat.zero_add, Nat.reduceAdd, Nat.reduceLT, Nat.reduceLeDiff, Nat.zero_le, and_self, r_integer h0, q, Bool.true_and]
  · simp only [sm, thenF_nx, thenF_ret, thenF_brk, thenF_cnt, den, ofVT, ofVB, noDen, baseA, cmpD, bltD, bind_ok, ofRes_some, getV_0, getV_s, getB_0, getB_s, truth_bl, truth_int, cmp_lt, cmp_le, cmp_gt, cmp_ge, List.getElem?_cons_zero, List.getElem?_cons_succ, List.set_cons_zero, List.set_cons_succ, if_true, if_false, reduceIte, decide_true, decide_false, end_ret, end_nx, List.length_cons, List.length_nil, Nat.zero_add, Nat.reduceAdd, Nat.reduceLT, Nat.reduceLeDiff, Nat.zero_le, and_self, r_integer h0, q, Bool.false_and]
theorem r_ascending (h3 : Has T 3 f_ascending) (ns : List Int) (hl : ns.length < sizeLine) (cs : Cells) : run T (k + 1) false 3 [.tup (ns.map .int)] cs = .ok (.tup (((ddp [] ns).mergeSort fun a b => decide (a ≤ b)).map .int)) cs := by
  rw [run_of (ρ := [.val (.tup (ns.map .int)), .emp, .emp]) h3.at_ rfl rfl]
  have hd : (ddp [] ns).length ≤ sizeLine := by
    have := ddp_len ns []
    simp at this
    omega
  unfold f_ascending
  simp only [sm, thenF_nx, thenF_ret, thenF_brk, thenF_cnt, den, ofVT, ofVB, noDen, baseA, cmpD, bltD, bind_ok, ofRes_some, getV_0, getV_s, getB_0, getB_s, truth_bl, truth_int, cmp_lt, cmp_le, cmp_gt, cmp_ge, List.getElem?_cons_zero, List.getElem?_cons_succ, List.set_cons_zero, List.set_cons_succ, if_true, if_false, reduceIte, decide_true, decide_false, end_ret, end_nx, List.length_cons, List.length_nil, Nat.zero_add, Nat.reduceAdd, Nat.reduceLT, Nat.reduceLeDiff, Nat.zero_le, and_self, itemsI_tup, dkD, intsD_map, hl]
  simp only [Dv.bind_assoc]
  refine comp_bind (fun d => d) (fun x hx => ?_) (by simpa using hd) ?_
  · obtain ⟨n, hn, rfl⟩ := List.mem_map.mp hx
    simp only [sm, thenF_nx, thenF_ret, thenF_brk, thenF_cnt, den, ofVT, ofVB, noDen, baseA, cmpD, bltD, bind_ok, ofRes_some, getV_0, getV_s, getB_0, getB_s, truth_bl, truth_int, cmp_lt, cmp_le, cmp_gt, cmp_ge, List.getElem?_cons_zero, List.getElem?_cons_succ, List.set_cons_zero, List.set_cons_succ, if_true, if_false, reduceIte, decide_true, decide_false, end_ret, end_nx, List.length_cons, List.length_nil, Nat.zero_add, Nat.reduceAdd, Nat.reduceLT, Nat.reduceLeDiff, Nat.zero_le, and_self, turnD, setTg, setAll, wipeE, vi_int]
  · rw [List.map_id']
    simp only [sm, thenF_nx, thenF_ret, thenF_brk, thenF_cnt, den, ofVT, ofVB, noDen, baseA, cmpD, bltD, bind_ok, ofRes_some, getV_0, getV_s, getB_0, getB_s, truth_bl, truth_int, cmp_lt, cmp_le, cmp_gt, cmp_ge, List.getElem?_cons_zero, List.getElem?_cons_succ, List.set_cons_zero, List.set_cons_succ, if_true, if_false, reduceIte, decide_true, decide_false, end_ret, end_nx, List.length_cons, List.length_nil, Nat.zero_add, Nat.reduceAdd, Nat.reduceLT, Nat.reduceLeDiff, Nat.zero_le, and_self, bSorted, deref_lst, intsD_map, Option.map_some, bTuple, seq_lst]
end Pk
end
section
set_option Elab.async false
set_option linter.all false
set_option maxRecDepth 100000
set_option maxHeartbeats 400000
namespace Pk
open PySem PySem.Spec PyProof.Rows L2 Dv
/-! ### the least totals by their rests: plain -/
abbrev FT := List (Option Nat)
def sw (w : Option Nat → Nat) (F : FT) : Nat := (F.map w).sum
theorem sw_set (w : Option Nat → Nat) (b : Option Nat) : ∀ (F : FT) (r : Nat) (a : Option Nat), F[r]? = some a → sw w (F.set r b) + w a = sw w F + w b
  | [], r, a, h => by simp at h
  | x :: F, 0, a, h => by
    simp at h
    subst h
    simp [sw]
    omega
  | x :: F, r + 1, a, h => by
    have := sw_set w b F r a (by simpa using h)
    simp [sw] at this ⊢
    omega
def wm : Option Nat → Nat
  | none => 3601
  | some v => v
def wc : Option Nat → Nat
  | none => 0
  | some _ => 1
theorem wc_le (F : FT) : sw wc F ≤ F.length := by
  induction F with
  | nil => simp [sw]
  | cons x F ih => cases x <;> simp [sw, wc] at ih ⊢ <;> omega
/-- some rows of these lengths have this total -/
def Reach (L : List Nat) (v : Nat) : Prop := ∃ rows : List Nat, (∀ r ∈ rows, r ∈ L) ∧ rows.sum = v
theorem Reach.add {L : List Nat} {v l : Nat} (h : Reach L v) (hl : l ∈ L) : Reach L (v + l) := by
  obtain ⟨rs, h1, h2⟩ := h
  refine ⟨l :: rs, fun r hr => ?_, by simp [h2]; omega⟩
  rcases List.mem_cons.mp hr with rfl | hr
  · exact hl
  · exact h1 r hr
structure Iv (L : List Nat) (m : Nat) (F : FT) : Prop where
  len : F.length = m
  zero : F[0]? = some (some 0)
  val : ∀ (r v : Nat), F[r]? = some (some v) → v % m = r ∧ Reach L v ∧ v ≤ 60 * sw wc F
def Cl (m : Nat) (F : FT) (s : Nat) : Prop := ∃ v, F[s % m]? = some (some v) ∧ v ≤ s
/-- one look at a greater total: it is put in its place, or nothing is to be done -/
def up (F : FT) (s m : Nat) : Prop := match F[s % m]? with
  | some (some v) => s < v
  | _ => True
theorem up_set {L : List Nat} {m : Nat} {F F0 : FT} {t l : Nat} (hm : 0 < m) (hm2 : m ≤ 60) (I : Iv L m F) (hl : l ∈ L) (hl2 : l ≤ 60) (ht : Reach L t) (ht2 : t ≤ 60 * sw wc F) (h : up F (t + l) m) :
    Iv L m (F.set ((t + l) % m) (some (t + l))) ∧ sw wm (F.set ((t + l) % m) (some (t + l))) < sw wm F ∧ sw wc F ≤ sw wc (F.set ((t + l) % m) (some (t + l))) := by
  have hr : (t + l) % m < F.length := by rw [I.len]; exact Nat.mod_lt _ hm
  have ha : F[(t + l) % m]? = some F[(t + l) % m] := List.getElem?_eq_getElem hr
  have s1 := sw_set wm (some (t + l)) F _ _ ha
  have s2 := sw_set wc (some (t + l)) F _ _ ha
  have c1 := wc_le F
  have c2 := wc_le (F.set ((t + l) % m) (some (t + l)))
  rw [List.length_set, I.len] at c2
  rw [I.len] at c1
  unfold up at h
  rw [ha] at h
  generalize hx : F[(t + l) % m] = x at *
  have hb : t + l ≤ 60 * sw wc (F.set ((t + l) % m) (some (t + l))) ∧ sw wc F ≤ sw wc (F.set ((t + l) % m) (some (t + l))) ∧ wm (some (t + l)) < wm x := by
    cases x with
    | none => simp [wm, wc] at s1 s2 ⊢; omega
    | some v =>
      simp at h
      have hv := (I.val _ v ha).2.2
      simp [wm, wc] at s1 s2 ⊢
      omega
  refine ⟨⟨by rw [List.length_set]; exact I.len, ?_, fun r v hv => ?_⟩, by omega, hb.2.1⟩
  · rw [List.getElem?_set]
    split
    · rename_i e
      rw [e] at ha
      rw [I.zero] at ha
      cases ha
      simp at h
    · exact I.zero
  · rw [List.getElem?_set] at hv
    split at hv
    · rename_i e
      cases hv
      exact ⟨e, ht.add hl, hb.1⟩
    · obtain ⟨v1, v2, v3⟩ := I.val r v hv
      exact ⟨v1, v2, Nat.le_trans v3 (Nat.mul_le_mul_left _ hb.2.1)⟩
theorem not_up {m s : Nat} {F : FT} (hm : 0 < m) (hl : F.length = m) (h : ¬ up F s m) : Cl m F s := by
  have hr : s % m < F.length := by rw [hl]; exact Nat.mod_lt _ hm
  unfold up at h
  rw [List.getElem?_eq_getElem hr] at h
  cases q : F[s % m] with
  | none => rw [q] at h; simp at h
  | some v =>
    rw [q] at h
    simp at h
    exact ⟨v, by rw [List.getElem?_eq_getElem hr, q], h⟩
/-- all totals are told -/
theorem told {L : List Nat} {m : Nat} {F : FT} (hm : 0 < m) (I : Iv L m F) (h : ∀ (r v l : Nat), F[r]? = some (some v) → l ∈ L → Cl m F (v + l)) : ∀ rows : List Nat, (∀ r ∈ rows, r ∈ L) → ∃ v, F[rows.sum % m]? = some (some v) ∧ v ≤ rows.sum
  | [], _ => ⟨0, by simpa using I.zero, by simp⟩
  | l :: rows, hr => by
    obtain ⟨v, h1, h2⟩ := told hm I h rows fun r q => hr r (List.mem_cons_of_mem _ q)
    obtain ⟨w, h3, h4⟩ := h _ v l h1 (hr l List.mem_cons_self)
    have hv := (I.val _ v h1).1
    have e : (v + l) % m = (l :: rows).sum % m := by
      rw [List.sum_cons, Nat.add_comm l, Nat.add_mod, hv, ← Nat.add_mod]
    rw [e] at h3
    exact ⟨w, h3, by simp; omega⟩
end Pk
end
section
set_option Elab.async false
set_option linter.all false
set_option maxRecDepth 100000
set_option maxHeartbeats 400000
namespace Pk
open PySem PySem.Spec PyProof.Rows L2 Dv
variable {T : Tab} {O : Orc}
/-! ### first_totals, walked -/
def oD : Option Nat → Dv.D
  | none => .non
  | some v => .int v
abbrev nD (l : Nat) : Dv.D := .int l
theorem while_inv {test : Dv.Env → Cells → Res Bool} {body : Dv.Env → Cells → Res Flw} (I : Nat → Dv.Env → Cells → Prop) (E : Dv.Env → Cells → Prop)
    (hs : ∀ m ρ cs, I m ρ cs → (test ρ cs = .ok false cs ∧ E ρ cs) ∨ (test ρ cs = .ok true cs ∧ ∃ ρ2 cs2 m', body ρ cs = .ok (.nx ρ2) cs2 ∧ m' < m ∧ I m' ρ2 cs2)) :
    ∀ (n m : Nat) (ρ : Dv.Env) (cs : Cells), I m ρ cs → m < n → ∃ ρ' cs', whileL test body n ρ cs = .ok (.nx ρ') cs' ∧ E ρ' cs'
  | 0, m, _, _, _, h => absurd h (Nat.not_lt_zero _)
  | n + 1, m, ρ, cs, h, hn => by
    rcases hs m ρ cs h with ⟨e, he⟩ | ⟨e, ρ2, cs2, m', e2, hm, h2⟩
    · refine ⟨ρ, cs, ?_, he⟩
      rw [whileL, e]
      rfl
    · obtain ⟨ρ', cs', e3, h3⟩ := while_inv I E hs n m' ρ2 cs2 h2 (by omega)
      refine ⟨ρ', cs', ?_, h3⟩
      rw [whileL, e]
      show (body ρ cs).bind _ = _
      rw [e2]
      exact e3
def ft1 : Sm := (.seq (.set 7 (.bin .add (.var 4) (.var 5))) (.seq (.set 8 (.bin .mod (.blt .int (.cons (.var 7) .nil)) (.var 1))) (.seq (.ite (.or (.isn (.sub (.var 2) (.var 8))) (.cmp .lt (.var 7) (.sub (.var 2) (.var 8)))) (.seq (.setI 2 (.var 8) (.var 7)) (.seq (.set 3 (.bl true)) .skip)) .skip) .skip)))
def ft2 : Sm := (.seq (.for_ [5] true (.var 0) ft1) .skip)
def ft3 : Sm := (.seq (.set 3 (.bl false)) (.seq (.for_ [4] true (.compO (.var 6) [6] true 2 (.notn (.var 6))) ft2) .skip))
theorem ft_body : f_first_totals.body = (.seq (.set 1 (.sub (.var 0) (.int 0))) (.seq (.own 2 (.cons (.int 0) (.star (.comp .non [8] true (.rng2 (.int 1) (.var 1)) .nil) .nil))) (.seq (.set 3 (.bl true)) (.seq (.while_ (.var 3) ft3) (.frz 2 (.seq (.ret (.var 2)) .skip)))))) := rfl
abbrev ftE (L : List Nat) (m : Nat) (F : FT) (g : Bool) (s4 s5 s6 s7 s8 : Slot) : Dv.Env := [.val (.tup (L.map nD)), .val (.int m), .own (.lst (F.map oD)), .val (.bl g), s4, s5, s6, s7, s8]
variable {L : List Nat} {m : Nat} {F : FT} {g : Bool} {s4 s5 s6 s7 s8 : Slot} {cs : Cells}
theorem at_nat {α : Type} {xs : List α} {i : Nat} {x : α} (h : xs[i]? = some x) : atI xs (i : Int) = some x := by
  have hi : i < xs.length := (List.getElem?_eq_some_iff.mp h).1
  unfold atI ixN
  rw [if_pos (by omega), if_pos (by omega)]
  simpa using h
theorem setIt_nat {ds : List Dv.D} {i : Nat} (hi : i < ds.length) (d : Dv.D) : setIt ds (i : Int) d = some (ds.set i d) := by
  unfold setIt ixN
  rw [if_pos (by omega), if_pos (by omega)]
  simp
theorem map_set (F : FT) (r v : Nat) : (F.map oD).set r (.int v) = (F.set r (some v)).map oD := by
  rw [List.map_set]
  rfl
theorem ft1_run {t l : Nat} (s7 s8 : Slot) (hm : 0 < m) (hl : F.length = m) : ∃ F' g', sm T O ft1 (ftE L m F g (.val (.int t)) (.val (.int l)) s6 s7 s8) cs = .ok (.nx (ftE L m F' g' (.val (.int t)) (.val (.int l)) s6 (.val (.int ((t + l : Nat) : Int))) (.val (.int (((t + l) % m : Nat) : Int))))) cs ∧
    ((up F (t + l) m ∧ F' = F.set ((t + l) % m) (some (t + l)) ∧ g' = true) ∨ (¬ up F (t + l) m ∧ F' = F ∧ g' = g)) := by
  have e1 : (t : Int) + (l : Int) = ((t + l : Nat) : Int) := by omega
  have e2 : ((t + l : Nat) : Int) % (m : Int) = (((t + l) % m : Nat) : Int) := rfl
  have hm' : (0 : Int) < m := by omega
  have hr : (t + l) % m < F.length := by rw [hl]; exact Nat.mod_lt _ hm
  have ha : F[(t + l) % m]? = some F[(t + l) % m] := List.getElem?_eq_getElem hr
  have hs : setIt (F.map oD) (((t + l) % m : Nat) : Int) (.int ((t + l : Nat) : Int)) = some ((F.set ((t + l) % m) (some (t + l))).map oD) := by
    rw [setIt_nat (by simpa using hr), map_set]
  cases q : F[(t + l) % m] with
  | none =>
    rw [q] at ha
    have hb : ∀ cs, subD T O (.lst (F.map oD)) (.int (((t + l) % m : Nat) : Int)) cs = .ok .non cs := fun cs => by
      show ofRes cs (atI _ _) = _
      rw [at_nat (x := Dv.D.non) (by rw [List.getElem?_map, ha]; rfl)]
      rfl
    refine ⟨F.set ((t + l) % m) (some (t + l)), true, ?_, .inl ⟨by unfold up; rw [ha]; trivial, rfl, rfl⟩⟩
    unfold ft1
    simp only [sm, thenF_nx, thenF_ret, thenF_brk, thenF_cnt, den, ofVT, ofVB, noDen, baseA, cmpD, bltD, bind_ok, ofRes_some, getV_0, getV_s, getB_0, getB_s, truth_bl, truth_int, cmp_lt, cmp_le, cmp_gt, cmp_ge, List.getElem?_cons_zero, List.getElem?_cons_succ, List.set_cons_zero, List.set_cons_succ, if_true, if_false, reduceIte, decide_true, decide_false, end_ret, end_nx, List.length_cons, List.length_nil, Nat.zero_add, Nat.reduceAdd, Nat.reduceLT, Nat.reduceLeDiff, Nat.zero_le, and_self, bin_add, e1, vi_int, bin_mod T O hm', e2, getB_0o, hb, hs]
  | some v =>
    rw [q] at ha
    have hb : ∀ cs, subD T O (.lst (F.map oD)) (.int (((t + l) % m : Nat) : Int)) cs = .ok (.int (v : Int)) cs := fun cs => by
      show ofRes cs (atI _ _) = _
      rw [at_nat (x := Dv.D.int (v : Int)) (by rw [List.getElem?_map, ha]; rfl)]
      rfl
    by_cases z : t + l < v
    · have z' : ((t + l : Nat) : Int) < (v : Int) := by omega
      refine ⟨F.set ((t + l) % m) (some (t + l)), true, ?_, .inl ⟨by unfold up; rw [ha]; exact z, rfl, rfl⟩⟩
      unfold ft1
      simp only [sm, thenF_nx, thenF_ret, thenF_brk, thenF_cnt, den, ofVT, ofVB, noDen, baseA, cmpD, bltD, bind_ok, ofRes_some, getV_0, getV_s, getB_0, getB_s, truth_bl, truth_int, cmp_lt, cmp_le, cmp_gt, cmp_ge, List.getElem?_cons_zero, List.getElem?_cons_succ, List.set_cons_zero, List.set_cons_succ, if_true, if_false, reduceIte, decide_true, decide_false, end_ret, end_nx, List.length_cons, List.length_nil, Nat.zero_add, Nat.reduceAdd, Nat.reduceLT, Nat.reduceLeDiff, Nat.zero_le, and_self, bin_add, e1, vi_int, bin_mod T O hm', e2, getB_0o, hb, hs, z', Bool.false_eq_true]
    · have z' : ¬ ((t + l : Nat) : Int) < (v : Int) := by omega
      refine ⟨F, g, ?_, .inr ⟨by unfold up; rw [ha]; exact z, rfl, rfl⟩⟩
      unfold ft1
      simp only [sm, thenF_nx, thenF_ret, thenF_brk, thenF_cnt, den, ofVT, ofVB, noDen, baseA, cmpD, bltD, bind_ok, ofRes_some, getV_0, getV_s, getB_0, getB_s, truth_bl, truth_int, cmp_lt, cmp_le, cmp_gt, cmp_ge, List.getElem?_cons_zero, List.getElem?_cons_succ, List.set_cons_zero, List.set_cons_succ, if_true, if_false, reduceIte, decide_true, decide_false, end_ret, end_nx, List.length_cons, List.length_nil, Nat.zero_add, Nat.reduceAdd, Nat.reduceLT, Nat.reduceLeDiff, Nat.zero_le, and_self, bin_add, e1, vi_int, bin_mod T O hm', e2, getB_0o, hb, hs, z', Bool.false_eq_true]
/-- where a pass stands: what it began with, and what is looked at already -/
structure Ps (L : List Nat) (m : Nat) (F0 F : FT) (g : Bool) (C : Nat → Prop) : Prop where
  iv : Iv L m F
  up : g = true → sw wm F < sw wm F0
  eq : g = false → F = F0 ∧ ∀ s, C s → Cl m F0 s
  cc : sw wc F0 ≤ sw wc F
theorem Ps.step {F0 F' : FT} {g' : Bool} {C : Nat → Prop} {t l : Nat} (hm : 0 < m) (hm2 : m ≤ 60) (P : Ps L m F0 F g C) (hl : l ∈ L) (hl2 : l ≤ 60) (ht : Reach L t) (ht2 : t ≤ 60 * sw wc F0)
    (h : (Pk.up F (t + l) m ∧ F' = F.set ((t + l) % m) (some (t + l)) ∧ g' = true) ∨ (¬ Pk.up F (t + l) m ∧ F' = F ∧ g' = g)) : Ps L m F0 F' g' (fun s => C s ∨ s = t + l) := by
  rcases h with ⟨h1, rfl, rfl⟩ | ⟨h1, rfl, rfl⟩
  · obtain ⟨u1, u2, u3⟩ := up_set (F0 := F0) hm hm2 P.iv hl hl2 ht (Nat.le_trans ht2 (Nat.mul_le_mul_left _ P.cc)) h1
    refine ⟨u1, fun _ => ?_, fun z => (nomatch z), Nat.le_trans P.cc u3⟩
    cases g with
    | true => exact Nat.lt_trans u2 (P.up rfl)
    | false => rw [← (P.eq rfl).1]; exact u2
  · refine ⟨P.iv, P.up, fun z => ⟨(P.eq z).1, fun s hs => ?_⟩, P.cc⟩
    rcases hs with hs | rfl
    · exact (P.eq z).2 s hs
    · rw [← (P.eq z).1]
      exact not_up hm P.iv.len h1
/-- the inner loop -/
theorem ft2_run {F0 : FT} {C : Nat → Prop} {t : Nat} (hm : 0 < m) (hm2 : m ≤ 60) (hL : ∀ l ∈ L, l ≤ 60) (P : Ps L m F0 F g C) (ht : Reach L t) (ht2 : t ≤ 60 * sw wc F0) (s5 s7 s8 : Slot) :
    ∃ F' g' s5' s7' s8', sm T O ft2 (ftE L m F g (.val (.int t)) s5 s6 s7 s8) cs = .ok (.nx (ftE L m F' g' (.val (.int t)) s5' s6 s7' s8')) cs ∧ Ps L m F0 F' g' (fun s => C s ∨ ∃ l ∈ L, s = t + l) := by
  have main : ∀ (ls dn : List Nat), dn ++ ls = L → ∀ (F : FT) (g : Bool) (s5 s7 s8 : Slot), Ps L m F0 F g (fun s => C s ∨ ∃ l ∈ dn, s = t + l) →
      ∃ F' g' s5' s7' s8', forL (fun ρ cs => sm T O ft1 ρ cs) [5] true (ls.map nD) (ftE L m F g (.val (.int t)) s5 s6 s7 s8) cs = .ok (.nx (ftE L m F' g' (.val (.int t)) s5' s6 s7' s8')) cs ∧ Ps L m F0 F' g' (fun s => C s ∨ ∃ l ∈ L, s = t + l) := by
    intro ls
    induction ls with
    | nil =>
      intro dn hd F g s5 s7 s8 P
      rw [List.append_nil] at hd
      subst hd
      exact ⟨F, g, s5, s7, s8, rfl, P⟩
    | cons l ls ih =>
      intro dn hd F g s5 s7 s8 P
      have hl : l ∈ L := by rw [← hd]; simp
      obtain ⟨F1, g1, e, h⟩ := ft1_run (T := T) (O := O) (L := L) (g := g) (s6 := s6) (cs := cs) (t := t) (l := l) s7 s8 hm P.iv.len
      have P1 := P.step hm hm2 hl (hL l hl) ht ht2 h
      have P2 : Ps L m F0 F1 g1 (fun s => C s ∨ ∃ x ∈ dn ++ [l], s = t + x) := ⟨P1.iv, P1.up, fun z => ⟨(P1.eq z).1, fun s hs => (P1.eq z).2 s (by
        rcases hs with hs | ⟨x, hx, rfl⟩
        · exact .inl (.inl hs)
        · rcases List.mem_append.mp hx with q | q
          · exact .inl (.inr ⟨x, q, rfl⟩)
          · rw [List.mem_singleton.mp q]; exact .inr rfl)⟩, P1.cc⟩
      obtain ⟨F2, g2, u5, u7, u8, e2, h2⟩ := ih (dn ++ [l]) (by simpa using hd) F1 g1 (.val (.int l)) _ _ P2
      refine ⟨F2, g2, u5, u7, u8, ?_, h2⟩
      rw [List.map_cons, forL]
      show (sm T O ft1 (ftE L m F g (.val (.int t)) (.val (.int l)) s6 s7 s8) cs).bind _ = _
      rw [e]
      exact e2
  obtain ⟨F', g', s5', s7', s8', e, h⟩ := main L [] rfl F g s5 s7 s8 ⟨P.iv, P.up, fun z => ⟨(P.eq z).1, fun s hs => (P.eq z).2 s (by
    rcases hs with hs | ⟨x, hx, _⟩
    · exact hs
    · cases hx)⟩, P.cc⟩
  refine ⟨F', g', s5', s7', s8', ?_, h⟩
  have e : forF (fun ρ cs => sm T O ft1 ρ cs) [5] true (L.map nD) (ftE L m F g (.val (.int t)) s5 s6 s7 s8) cs = _ := e
  unfold ft2
  simp only [sm, thenF_nx, thenF_ret, thenF_brk, thenF_cnt, den, ofVT, ofVB, noDen, baseA, cmpD, bltD, bind_ok, ofRes_some, getV_0, getV_s, getB_0, getB_s, truth_bl, truth_int, cmp_lt, cmp_le, cmp_gt, cmp_ge, List.getElem?_cons_zero, List.getElem?_cons_succ, List.set_cons_zero, List.set_cons_succ, if_true, if_false, reduceIte, decide_true, decide_false, end_ret, end_nx, List.length_cons, List.length_nil, Nat.zero_add, Nat.reduceAdd, Nat.reduceLT, Nat.reduceLeDiff, Nat.zero_le, and_self, itemsI_tup, e]
end Pk
end
section
set_option Elab.async false
set_option linter.all false
set_option maxRecDepth 100000
set_option maxHeartbeats 400000
namespace Pk
open PySem PySem.Spec PyProof.Rows L2 Dv
variable {T : Tab} {O : Orc} {L : List Nat} {m : Nat} {F : FT} {g : Bool} {s4 s5 s6 s7 s8 : Slot} {cs : Cells}
theorem compF_filt {turn : Dv.D → Cells → Res (Option Dv.D)} {c : Dv.D → Bool} {cs : Cells} : ∀ {xs acc : List Dv.D}, (∀ x ∈ xs, turn x cs = .ok (if c x then some x else none) cs) → acc.length + xs.length ≤ sizeLine → compL turn acc xs cs = .ok (acc ++ xs.filter c) cs
  | [], acc, _, _ => by simp [compL]
  | x :: xs, acc, h, hl => by
    simp only [List.length_cons] at hl
    rw [compL, h x List.mem_cons_self]
    cases q : c x with
    | true =>
      simp only [if_true]
      rw [if_pos (by omega), compF_filt (fun y hy => h y (List.mem_cons_of_mem _ hy)) (by simp; omega)]
      simp [q]
    | false =>
      simp only [Bool.false_eq_true, if_false]
      rw [compF_filt (fun y hy => h y (List.mem_cons_of_mem _ hy)) (by omega)]
      simp [q]
def isN : Dv.D → Bool
  | .non => false
  | _ => true
theorem snap (F : FT) : (F.map oD).filter isN = (F.filterMap id).map nD := by
  induction F with
  | nil => rfl
  | cons x F ih =>
    cases x with
    | none => simpa [oD, isN] using ih
    | some v => simpa [oD, isN, List.filter_cons] using ih
/-- one pass -/
theorem ft3_run (hm : 0 < m) (hm2 : m ≤ 60) (hL : ∀ l ∈ L, l ≤ 60) (I : Iv L m F) :
    ∃ F' g' s4' s5' s7' s8', sm T O ft3 (ftE L m F g s4 s5 s6 s7 s8) cs = .ok (.nx (ftE L m F' g' s4' s5' s6 s7' s8')) cs ∧ Ps L m F F' g' (fun s => ∃ t ∈ F.filterMap id, ∃ l ∈ L, s = t + l) := by
  have hin : ∀ t ∈ F.filterMap id, Reach L t ∧ t ≤ 60 * sw wc F := by
    intro t ht
    rw [List.mem_filterMap] at ht
    obtain ⟨a, ha, e⟩ := ht
    have e : a = some t := e
    subst e
    obtain ⟨r, hr⟩ := List.mem_iff_getElem?.mp ha
    have := I.val r t hr
    exact ⟨this.2.1, this.2.2⟩
  have main : ∀ (ts dn : List Nat), dn ++ ts = F.filterMap id → ∀ (G : FT) (g : Bool) (s4 s5 s7 s8 : Slot), Ps L m F G g (fun s => ∃ t ∈ dn, ∃ l ∈ L, s = t + l) →
      ∃ F' g' s4' s5' s7' s8', forL (fun ρ cs => sm T O ft2 ρ cs) [4] true (ts.map nD) (ftE L m G g s4 s5 s6 s7 s8) cs = .ok (.nx (ftE L m F' g' s4' s5' s6 s7' s8')) cs ∧ Ps L m F F' g' (fun s => ∃ t ∈ F.filterMap id, ∃ l ∈ L, s = t + l) := by
    intro ts
    induction ts with
    | nil =>
      intro dn hd G g s4 s5 s7 s8 P
      rw [List.append_nil] at hd
      subst hd
      exact ⟨G, g, s4, s5, s7, s8, rfl, P⟩
    | cons t ts ih =>
      intro dn hd G g s4 s5 s7 s8 P
      obtain ⟨t1, t2⟩ := hin t (by rw [← hd]; simp)
      obtain ⟨F1, g1, u5, u7, u8, e, P1⟩ := ft2_run (T := T) (O := O) (s6 := s6) (cs := cs) hm hm2 hL P t1 t2 s5 s7 s8
      have P2 : Ps L m F F1 g1 (fun s => ∃ x ∈ dn ++ [t], ∃ l ∈ L, s = x + l) := ⟨P1.iv, P1.up, fun z => ⟨(P1.eq z).1, fun s hs => (P1.eq z).2 s (by
        obtain ⟨x, hx, l, hl, rfl⟩ := hs
        rcases List.mem_append.mp hx with q | q
        · exact .inl ⟨x, q, l, hl, rfl⟩
        · rw [List.mem_singleton.mp q]; exact .inr ⟨l, hl, rfl⟩)⟩, P1.cc⟩
      obtain ⟨F2, g2, v4, v5, v7, v8, e2, h2⟩ := ih (dn ++ [t]) (by simpa using hd) F1 g1 (.val (.int t)) u5 u7 u8 P2
      refine ⟨F2, g2, v4, v5, v7, v8, ?_, h2⟩
      rw [List.map_cons, forL]
      show (sm T O ft2 (ftE L m G g (.val (.int t)) s5 s6 s7 s8) cs).bind _ = _
      rw [e]
      exact e2
  obtain ⟨F', g', s4', s5', s7', s8', e, h⟩ := main (F.filterMap id) [] rfl F false s4 s5 s7 s8 ⟨I, fun z => (nomatch z), fun _ => ⟨rfl, fun s hs => by obtain ⟨x, hx, _⟩ := hs; cases hx⟩, Nat.le_refl _⟩
  refine ⟨F', g', s4', s5', s7', s8', ?_, h⟩
  have e : forF (fun ρ cs => sm T O ft2 ρ cs) [4] true ((F.filterMap id).map nD) (ftE L m F false s4 s5 s6 s7 s8) cs = _ := e
  have hz : F.length ≤ sizeLine := by rw [I.len]; exact Nat.le_trans hm2 (by decide)
  have hc : ∀ turn : Dv.D → Cells → Res (Option Dv.D), (∀ x ∈ F.map oD, turn x cs = .ok (if isN x then some x else none) cs) → compF turn [] (F.map oD) cs = .ok ((F.filterMap id).map nD) cs := by
    intro turn ht
    rw [compF, compF_filt ht (by simpa using hz), snap]
    rfl
  unfold ft3
  simp only [sm, thenF_nx, thenF_ret, thenF_brk, thenF_cnt, den, ofVT, ofVB, noDen, baseA, cmpD, bltD, bind_ok, ofRes_some, getV_0, getV_s, getB_0, getB_s, truth_bl, truth_int, cmp_lt, cmp_le, cmp_gt, cmp_ge, List.getElem?_cons_zero, List.getElem?_cons_succ, List.set_cons_zero, List.set_cons_succ, if_true, if_false, reduceIte, decide_true, decide_false, end_ret, end_nx, List.length_cons, List.length_nil, Nat.zero_add, Nat.reduceAdd, Nat.reduceLT, Nat.reduceLeDiff, Nat.zero_le, and_self, ownD]
  simp only [Dv.bind_assoc]
  rw [hc _ fun x hx => by
    obtain ⟨a, _, rfl⟩ := List.mem_map.mp hx
    cases a <;> rfl]
  simp only [sm, thenF_nx, thenF_ret, thenF_brk, thenF_cnt, den, ofVT, ofVB, noDen, baseA, cmpD, bltD, bind_ok, ofRes_some, getV_0, getV_s, getB_0, getB_s, truth_bl, truth_int, cmp_lt, cmp_le, cmp_gt, cmp_ge, List.getElem?_cons_zero, List.getElem?_cons_succ, List.set_cons_zero, List.set_cons_succ, if_true, if_false, reduceIte, decide_true, decide_false, end_ret, end_nx, List.length_cons, List.length_nil, Nat.zero_add, Nat.reduceAdd, Nat.reduceLT, Nat.reduceLeDiff, Nat.zero_le, and_self, itemsI_lst, e]
def Closed (L : List Nat) (m : Nat) (F : FT) : Prop := ∀ (r v l : Nat), F[r]? = some (some v) → l ∈ L → Cl m F (v + l)
/-- all passes -/
theorem ft_while (hm : 0 < m) (hm2 : m ≤ 60) (hL : ∀ l ∈ L, l ≤ 60) (I : Iv L m F) (hw : sw wm F < 900000) : ∃ F' s4' s5' s7' s8', whileL (fun ρ cs => (den T O (.var 3)).t ρ cs) (fun ρ cs => sm T O ft3 ρ cs) turns (ftE L m F true s4 s5 s6 s7 s8) cs = .ok (.nx (ftE L m F' false s4' s5' s6 s7' s8')) cs ∧ Iv L m F' ∧ Closed L m F' := by
  obtain ⟨ρ', cs', e, F', u4, u5, u7, u8, rfl, rfl, I', C'⟩ := while_inv (test := fun ρ cs => (den T O (.var 3)).t ρ cs) (body := fun ρ cs => sm T O ft3 ρ cs)
    (fun k ρ cs' => ∃ F g s4 s5 s7 s8, ρ = ftE L m F g s4 s5 s6 s7 s8 ∧ cs' = cs ∧ Iv L m F ∧ ((g = true ∧ k = sw wm F + 1) ∨ (g = false ∧ k = 0 ∧ Closed L m F)))
    (fun ρ cs' => ∃ F s4 s5 s7 s8, ρ = ftE L m F false s4 s5 s6 s7 s8 ∧ cs' = cs ∧ Iv L m F ∧ Closed L m F) (by
      rintro k ρ cs' ⟨F, g, s4, s5, s7, s8, rfl, rfl, I, ⟨rfl, rfl⟩ | ⟨rfl, rfl, hc⟩⟩
      · refine .inr ⟨rfl, ?_⟩
        obtain ⟨F', g', u4, u5, u7, u8, e, P⟩ := ft3_run (T := T) (O := O) (g := true) (s4 := s4) (s5 := s5) (s6 := s6) (s7 := s7) (s8 := s8) (cs := cs') hm hm2 hL I
        cases g' with
        | true => exact ⟨_, _, sw wm F' + 1, e, by have := P.up rfl; omega, F', true, u4, u5, u7, u8, rfl, rfl, P.iv, .inl ⟨rfl, rfl⟩⟩
        | false =>
          refine ⟨_, _, 0, e, by omega, F', false, u4, u5, u7, u8, rfl, rfl, P.iv, .inr ⟨rfl, rfl, ?_⟩⟩
          intro r v l hr hl
          obtain ⟨q1, q2⟩ := P.eq rfl
          subst q1
          exact q2 _ ⟨v, by rw [List.mem_filterMap]; exact ⟨some v, List.mem_of_getElem? hr, rfl⟩, l, hl, rfl⟩
      · exact .inl ⟨rfl, F, s4, s5, s7, s8, rfl, rfl, I, hc⟩) turns (sw wm F + 1) _ cs ⟨F, true, s4, s5, s7, s8, rfl, rfl, I, .inl ⟨rfl, rfl⟩⟩ (by
        have : turns = 1000000 := rfl
        omega)
  exact ⟨F', u4, u5, u7, u8, e, I', C'⟩
end Pk
end
section
set_option Elab.async false
set_option linter.all false
set_option maxRecDepth 100000
set_option maxHeartbeats 400000
namespace Pk
open PySem PySem.Spec PyProof.Rows L2 Dv
variable {T : Tab} {O : Orc} {k : Nat} {cs : Cells}
def F0 (m : Nat) : FT := some 0 :: List.replicate (m - 1) none
theorem F0_at {m r v : Nat} (h : (F0 m)[r]? = some (some v)) : r = 0 ∧ v = 0 := by
  cases r with
  | zero =>
    simp [F0] at h
    exact ⟨rfl, h.symm⟩
  | succ r =>
    simp [F0, List.getElem?_replicate] at h
theorem F0_iv {L : List Nat} {m : Nat} (hm : 0 < m) : Iv L m (F0 m) := by
  refine ⟨by simp [F0]; omega, rfl, fun r v h => ?_⟩
  obtain ⟨rfl, rfl⟩ := F0_at h
  exact ⟨Nat.zero_mod _, ⟨[], by simp, rfl⟩, Nat.zero_le _⟩
theorem F0_sw {m : Nat} (hm : m ≤ 60) : sw wm (F0 m) < 900000 := by
  have : sw wm (F0 m) = (m - 1) * 3601 := by simp [sw, F0, wm]
  omega
theorem F0_map (m : Nat) : Dv.D.int 0 :: ((List.range (m - 1)).map fun (i : Nat) => Dv.D.int ((1 + i : Nat) : Int)).map (fun _ => Dv.D.non) = (F0 m).map oD := by
  simp [F0, oD, Function.comp_def, List.map_const']
theorem r_first (h5 : Has T 5 f_first_totals) (l0 : Nat) (L : List Nat) (hl : ∀ l ∈ l0 :: L, 1 ≤ l ∧ l ≤ 60) : ∃ F, run T (k + 1) false 5 [.tup ((l0 :: L).map nD)] cs = .ok (.lst (F.map oD)) cs ∧ Iv (l0 :: L) l0 F ∧ Closed (l0 :: L) l0 F := by
  obtain ⟨h1, h60⟩ := hl l0 List.mem_cons_self
  obtain ⟨F, u4, u5, u7, u8, e, I, C⟩ := ft_while (T := T) (O := run T k) (L := l0 :: L) (s4 := .emp) (s5 := .emp) (s6 := .emp) (s7 := .emp) (s8 := .emp) (cs := cs) h1 h60 (fun l h => (hl l h).2) (F0_iv h1) (F0_sw h60)
  refine ⟨F, ?_, I, C⟩
  rw [run_of (ρ := [.val (.tup ((l0 :: L).map nD)), .emp, .emp, .emp, .emp, .emp, .emp, .emp, .emp]) h5.at_ rfl rfl, ft_body]
  have e : whileF (fun ρ cs => (ofRes cs (getV ρ 3)).bind fun x cs => truth x cs) (fun ρ cs => sm T (run T k) ft3 ρ cs) turns (ftE (l0 :: L) l0 (F0 l0) true .emp .emp .emp .emp .emp) cs = _ := e
  have s0 : ∀ cs, subD T (run T k) (.tup ((l0 :: L).map nD)) (.int 0) cs = .ok (.int (l0 : Int)) cs := fun cs => by
    have q : atI ((l0 :: L).map nD) ((0 : Nat) : Int) = some (nD l0) := at_nat rfl
    show ofRes cs (atI ((l0 :: L).map nD) ((0 : Nat) : Int)) = _
    rw [q]
    rfl
  have r2 : rng2D (.int 1) (.int (l0 : Int)) cs = _ := rng2D_nat 1 l0 (by omega) (by decide) cs
  have hz : l0 - 1 ≤ sizeLine := Nat.le_trans (show l0 - 1 ≤ 60 by omega) (by decide)
  simp only [sm, thenF_nx, thenF_ret, thenF_brk, thenF_cnt, den, ofVT, ofVB, noDen, baseA, cmpD, bltD, bind_ok, ofRes_some, getV_0, getV_s, getB_0, getB_s, truth_bl, truth_int, cmp_lt, cmp_le, cmp_gt, cmp_ge, List.getElem?_cons_zero, List.getElem?_cons_succ, List.set_cons_zero, List.set_cons_succ, if_true, if_false, reduceIte, decide_true, decide_false, end_ret, end_nx, List.length_cons, List.length_nil, Nat.zero_add, Nat.reduceAdd, Nat.reduceLT, Nat.reduceLeDiff, Nat.zero_le, and_self, s0, r2]
  simp only [Dv.bind_assoc]
  rw [compF_pure (g := fun _ => Dv.D.non) (fun x hx => by rfl) (by simpa using hz)]
  have hq : (F0 l0).length ≤ sizeLine := by
    rw [(F0_iv (L := l0 :: L) h1).len]
    exact Nat.le_trans h60 (by decide)
  rw [List.nil_append]
  simp only [sm, thenF_nx, thenF_ret, thenF_brk, thenF_cnt, den, ofVT, ofVB, noDen, baseA, cmpD, bltD, bind_ok, ofRes_some, getV_0, getV_s, getB_0, getB_s, truth_bl, truth_int, cmp_lt, cmp_le, cmp_gt, cmp_ge, List.getElem?_cons_zero, List.getElem?_cons_succ, List.set_cons_zero, List.set_cons_succ, if_true, if_false, reduceIte, decide_true, decide_false, end_ret, end_nx, List.length_cons, List.length_nil, Nat.zero_add, Nat.reduceAdd, Nat.reduceLT, Nat.reduceLeDiff, Nat.zero_le, and_self, seq_lst, List.append_nil, F0_map, List.length_map, hq, e]
end Pk
end
section
set_option Elab.async false
set_option linter.all false
set_option maxRecDepth 100000
set_option maxHeartbeats 400000
namespace Pk
open PySem PySem.Spec PyProof.Rows L2 Dv
variable {T : Tab} {O : Orc} {k : Nat} {cs : Cells}
/-! ### ascending -/
theorem ddp_mem : ∀ (ns acc : List Int) (x : Int), x ∈ ddp acc ns ↔ x ∈ acc ∨ x ∈ ns
  | [], acc, x => by simp [ddp]
  | n :: ns, acc, x => by
    unfold ddp
    split
    · rename_i h
      rw [ddp_mem ns acc x]
      constructor
      · rintro (q | q)
        · exact .inl q
        · exact .inr (List.mem_cons_of_mem _ q)
      · rintro (q | q)
        · exact .inl q
        · rcases List.mem_cons.mp q with rfl | q
          · exact .inl h
          · exact .inr q
    · rw [ddp_mem ns (acc ++ [n]) x]
      simp
      constructor
      · rintro ((q | q) | q)
        · exact .inl q
        · exact .inr (.inl q)
        · exact .inr (.inr q)
      · rintro (q | q | q)
        · exact .inl (.inl q)
        · exact .inl (.inr q)
        · exact .inr q
theorem ddp_nodup : ∀ (ns acc : List Int), acc.Nodup → (ddp acc ns).Nodup
  | [], acc, h => h
  | n :: ns, acc, h => by
    unfold ddp
    split
    · exact ddp_nodup ns acc h
    · rename_i q
      refine ddp_nodup ns _ ?_
      rw [List.nodup_append]
      exact ⟨h, by simp, fun a ha b hb e => by rw [List.mem_singleton.mp hb] at e; exact q (e ▸ ha)⟩
def asc (ns : List Int) : List Int := (ddp [] ns).mergeSort fun a b => decide (a ≤ b)
theorem asc_mem (ns : List Int) (x : Int) : x ∈ asc ns ↔ x ∈ ns := by
  unfold asc
  rw [(List.mergeSort_perm _ _).mem_iff, ddp_mem]
  simp
theorem asc_lt (ns : List Int) : (asc ns).Pairwise (· < ·) := by
  have h1 : (asc ns).Pairwise (fun a b => decide (a ≤ b) = true) := List.pairwise_mergeSort (fun a b c h1 h2 => by simp at *; omega) (fun a b => by simp; omega) _
  have h2 : (asc ns).Nodup := (List.mergeSort_perm _ _).nodup_iff.mpr (ddp_nodup ns [] List.nodup_nil)
  refine (List.pairwise_and_iff.mpr ⟨h1, h2⟩).imp fun {a b} h => ?_
  have := of_decide_eq_true h.1
  have := h.2
  omega
/-- ints from 1 on are naturals -/
theorem nats_of : ∀ (xs : List Int), (∀ x ∈ xs, 1 ≤ x) → ∃ ns : List Nat, xs = ns.map fun (n : Nat) => (n : Int)
  | [], _ => ⟨[], rfl⟩
  | x :: xs, h => by
    obtain ⟨ns, e⟩ := nats_of xs fun y hy => h y (List.mem_cons_of_mem _ hy)
    have := h x List.mem_cons_self
    exact ⟨x.toNat :: ns, by rw [List.map_cons, ← e]; congr 1; omega⟩
theorem run_ini {i c : Nat} {F : Fn} {ρ : Dv.Env} {ds : List Dv.D} (hF : T.fns[i]? = some F) (hi : F.ini = some c) (hc : c ≠ kwM) (he : freshI F c ds = some ρ) : run T (k + 1) true i ds cs = (sm T (run T k) F.body ρ cs).bind (endI (mutOf T c)) := by
  rw [run_true hF hi hc, he]
theorem run_kwm {i : Nat} {F : Fn} {ρ : Dv.Env} {ds : List Dv.D} (hF : T.fns[i]? = some F) (hi : F.ini = some kwM) (he : freshE F ds = some ρ) : run T (k + 1) true i ds cs = (sm T (run T k) F.body ρ cs).bind endF := by
  rw [run_kw hF hi, he]
/-- a Lengths -/
def lenD (l0 : Nat) (L : List Nat) (F : FT) : Dv.D := .ins 0 [(0, .tup ((l0 :: L).map nD)), (1, nD l0), (2, nD ((l0 :: L).getLast (by simp))), (3, .lst (F.map oD))]
structure LenOk (l0 : Nat) (L : List Nat) (F : FT) : Prop where
  asc : (l0 :: L).Pairwise (· < ·)
  bd : ∀ l ∈ l0 :: L, 1 ≤ l ∧ l ≤ 60
  few : (l0 :: L).length ≤ 6
  iv : Iv (l0 :: L) l0 F
  cl : Closed (l0 :: L) l0 F
structure HasLen (T : Tab) : Prop where
  f0 : Has T 0 f_is_integer
  f1 : Has T 1 f_is_within
  f3 : Has T 3 f_ascending
  f5 : Has T 5 f_first_totals
  f20 : Has T 20 f_Lengths_init
  c : ∃ k, T.cls[0]? = some k ∧ k.mutb = false ∧ k.init = some 20
  at_ : ∀ j, j < 4 → okAt T 0 j = true
  c0 : T.consts[0]? = some (.int 6)
  c1 : T.consts[1]? = some (.int 60)
theorem HasLen.mut (h : HasLen T) : mutOf T 0 = false := by
  obtain ⟨c, h1, h2, _⟩ := h.c
  unfold mutOf
  rw [h1]
  exact h2
def le1 : Sm := (.seq (.ite (.not (.call 1 (.cons (.var 3) (.cons (.int 1) (.cons (.glob 1) .nil))))) (.seq .never .skip) .skip) .skip)
def le2 : Sm := (.seq (.ite (.cmp .eq (.blt .len (.cons (.var 1) .nil)) (.int 0)) (.seq .never .skip) .skip) (.seq (.setA 0 0 (.call 3 (.cons (.var 1) .nil))) (.seq (.ite (.cmp .gt (.blt .len (.cons (.attr (.var 0) 0) .nil)) (.glob 0)) (.seq .never .skip) .skip) (.seq (.setA 0 1 (.sub (.attr (.var 0) 0) (.int 0))) (.seq (.setA 0 2 (.sub (.attr (.var 0) 0) (.neg (.int 1)))) (.seq (.setA 0 3 (.call 5 (.cons (.attr (.var 0) 0) .nil))) .skip))))))
theorem len_body : f_Lengths_init.body = .seq (.for_ [2, 3] false (.enum (.var 1)) le1) le2 := rfl
end Pk
end
section
set_option Elab.async false
set_option linter.all false
set_option maxRecDepth 100000
set_option maxHeartbeats 400000
namespace Pk
open PySem PySem.Spec PyProof.Rows L2 Dv
variable {T : Tab} {O : Orc} {k : Nat} {cs : Cells}
theorem eq_int (O : Orc) (i j : Int) (cs : Cells) : eqD T O (.int i) (.int j) cs = .ok (decide (i = j)) cs := by
  simp [eqD, clsOf, eqP, toPy, SeqAt.shaped, PyData.canLay0, PyData.depth, PyData.eqv]
  by_cases h : i = j <;> simp [h]
/-- the lengths are looked at -/
theorem le1_run (H : HasLen T) {ns : List Int} (hn : ∀ n ∈ ns, 1 ≤ n ∧ n ≤ 60) : ∀ (xs : List Int) (i : Nat) (s t : Slot), (∀ n ∈ xs, n ∈ ns) →
    ∃ s' t', forL (fun ρ cs => sm T (run T (k + 2)) le1 ρ cs) [2, 3] false (enumD i (xs.map .int)) [.own (.ins 0 []), .val (.tup (ns.map .int)), s, t] cs = .ok (.nx [.own (.ins 0 []), .val (.tup (ns.map .int)), s', t']) cs
  | [], i, s, t, _ => ⟨s, t, rfl⟩
  | x :: xs, i, s, t, h => by
    obtain ⟨s', t', e⟩ := le1_run H hn xs (i + 1) (.val (.int i)) (.val (.int x)) fun n q => h n (List.mem_cons_of_mem _ q)
    refine ⟨s', t', ?_⟩
    obtain ⟨b1, b2⟩ := hn x (h x List.mem_cons_self)
    have hw := r_within (k := k) H.f0 H.f1 x 1 60 cs
    have e1 : sm T (run T (k + 2)) le1 [.own (.ins 0 []), .val (.tup (ns.map .int)), .val (.int i), .val (.int x)] cs = .ok (.nx [.own (.ins 0 []), .val (.tup (ns.map .int)), .val (.int i), .val (.int x)]) cs := by
      unfold le1
      simp only [sm, thenF_nx, thenF_ret, thenF_brk, thenF_cnt, den, ofVT, ofVB, noDen, baseA, cmpD, bltD, bind_ok, ofRes_some, getV_0, getV_s, getB_0, getB_s, truth_bl, truth_int, cmp_lt, cmp_le, cmp_gt, cmp_ge, List.getElem?_cons_zero, List.getElem?_cons_succ, List.set_cons_zero, List.set_cons_succ, if_true, if_false, reduceIte, decide_true, decide_false, end_ret, end_nx, List.length_cons, List.length_nil, Nat.zero_add, Nat.reduceAdd, Nat.reduceLT, Nat.reduceLeDiff, Nat.zero_le, and_self, H.c1, hw, b1, b2, Bool.and_self, Bool.not_true, Bool.false_eq_true]
    rw [List.map_cons, enumD, forL]
    show (sm T (run T (k + 2)) le1 [.own (.ins 0 []), .val (.tup (ns.map .int)), .val (.int i), .val (.int x)] cs).bind _ = _
    rw [e1]
    exact e
theorem at_last {xs : List Nat} (h : xs ≠ []) : atI (xs.map nD) (-1) = some (nD (xs.getLast h)) := by
  have hl : 0 < xs.length := List.length_pos_iff.mpr h
  unfold atI ixN
  rw [if_neg (by decide), if_pos (by simp; omega)]
  have e : ((-1 : Int) + ((xs.map nD).length : Int)).toNat = xs.length - 1 := by simp; omega
  simp only [Option.bind_some]
  rw [e, List.getElem?_map, List.getElem?_eq_getElem (by omega), List.getLast_eq_getElem]
  rfl
theorem put0 (a : Dv.D) : putA 0 a [] = [(0, a)] := rfl
theorem put1 (a b : Dv.D) : putA 1 b [(0, a)] = [(0, a), (1, b)] := rfl
theorem put2 (a b c : Dv.D) : putA 2 c [(0, a), (1, b)] = [(0, a), (1, b), (2, c)] := rfl
theorem put3 (a b c d : Dv.D) : putA 3 d [(0, a), (1, b), (2, c)] = [(0, a), (1, b), (2, c), (3, d)] := rfl
theorem look0 (a : Dv.D) (r : List (Nat × Dv.D)) : List.lookup 0 ((0, a) :: r) = some a := rfl
theorem r_lengths (H : HasLen T) (ns : List Int) (hn : ∀ n ∈ ns, 1 ≤ n ∧ n ≤ 60) (l0 : Nat) (L : List Nat) (ha : asc ns = (l0 :: L).map fun (n : Nat) => (n : Int)) (hf : (l0 :: L).length ≤ 6) (hz : ns.length < sizeLine) :
    ∃ F, run T (k + 4) true 20 (ns.map .int) cs = .ok (lenD l0 L F) cs ∧ LenOk l0 L F := by
  have hne : ns ≠ [] := by
    rintro rfl
    have : l0 ∈ l0 :: L := List.mem_cons_self
    have h2 : (l0 : Int) ∈ asc [] := by rw [ha]; exact List.mem_map.mpr ⟨l0, this, rfl⟩
    rw [asc_mem] at h2
    cases h2
  have hb : ∀ l ∈ l0 :: L, 1 ≤ l ∧ l ≤ 60 := fun l hl => by
    have h2 : (l : Int) ∈ asc ns := by rw [ha]; exact List.mem_map.mpr ⟨l, hl, rfl⟩
    rw [asc_mem] at h2
    have := hn _ h2
    omega
  have hp : (l0 :: L).Pairwise (· < ·) := by
    have := asc_lt ns
    rw [ha, List.pairwise_map] at this
    exact this.imp fun h => by omega
  obtain ⟨F, e5, I, C⟩ := r_first (k := k + 2) (cs := cs) H.f5 l0 L hb
  refine ⟨F, ?_, hp, hb, hf, I, C⟩
  have e3 := r_ascending (k := k + 2) H.f3 ns hz cs
  have em : ((ddp [] ns).mergeSort fun a b => decide (a ≤ b)).map Dv.D.int = (l0 :: L).map nD := by
    show (asc ns).map Dv.D.int = _
    rw [ha, List.map_map]
    rfl
  rw [em] at e3
  obtain ⟨s', t', e1⟩ := le1_run (k := k + 1) (cs := cs) H hn ns 0 .emp .emp fun n h => h
  have e1 : forF (fun ρ cs => sm T (run T (k + 3)) le1 ρ cs) [2, 3] false (enumD 0 (ns.map .int)) [.own (.ins 0 []), .val (.tup (ns.map .int)), .emp, .emp] cs = _ := e1
  have hfr : freshI f_Lengths_init 0 (ns.map .int) = some [.own (.ins 0 []), .val (.tup (ns.map .int)), .emp, .emp] := by
    simp [freshI, freshE, f_Lengths_init, Nat.le_of_lt hz]
  rw [run_ini H.f20.at_ rfl (by decide) hfr, len_body]
  have q0 : ¬ ((ns.length : Int) = 0) := by
    have := List.length_pos_iff.mpr hne
    omega
  have q6 : ¬ ((6 : Int) < ((L.length + 1 : Nat) : Int)) := by simp only [List.length_cons] at hf; omega
  have a0 := H.at_ 0 (by decide)
  have s0 : ∀ O cs, subD T O (.tup ((l0 :: L).map nD)) (.int 0) cs = .ok (.int (l0 : Int)) cs := fun O cs => by
    have q : atI ((l0 :: L).map nD) ((0 : Nat) : Int) = some (nD l0) := at_nat rfl
    show ofRes cs (atI ((l0 :: L).map nD) ((0 : Nat) : Int)) = _
    rw [q]
    rfl
  have s1 : ∀ O cs, subD T O (.tup ((l0 :: L).map nD)) (.int (-1)) cs = .ok (nD ((l0 :: L).getLast (by simp))) cs := fun O cs => by
    show ofRes cs (atI ((l0 :: L).map nD) (-1)) = _
    rw [at_last (by simp)]
    rfl
  have e3 : run T (k + 3) false 3 [.tup (ns.map .int)] cs = _ := e3
  have e5 : run T (k + 3) false 5 [.tup ((l0 :: L).map nD)] cs = _ := e5
  have a1 := H.at_ 1 (by decide)
  have a2 := H.at_ 2 (by decide)
  have a3 := H.at_ 3 (by decide)
  rw [sm_seq]
  simp only [sm, thenF_nx, thenF_ret, thenF_brk, thenF_cnt, den, ofVT, ofVB, noDen, baseA, cmpD, bltD, bind_ok, ofRes_some, getV_0, getV_s, getB_0, getB_s, truth_bl, truth_int, cmp_lt, cmp_le, cmp_gt, cmp_ge, List.getElem?_cons_zero, List.getElem?_cons_succ, List.set_cons_zero, List.set_cons_succ, if_true, if_false, reduceIte, decide_true, decide_false, end_ret, end_nx, List.length_cons, List.length_nil, Nat.zero_add, Nat.reduceAdd, Nat.reduceLT, Nat.reduceLeDiff, Nat.zero_le, and_self, Option.map_some, items_tup, e1]
  unfold le2
  simp only [sm, thenF_nx, thenF_ret, thenF_brk, thenF_cnt, den, ofVT, ofVB, noDen, baseA, cmpD, bltD, bind_ok, ofRes_some, getV_0, getV_s, getB_0, getB_s, truth_bl, truth_int, cmp_lt, cmp_le, cmp_gt, cmp_ge, List.getElem?_cons_zero, List.getElem?_cons_succ, List.set_cons_zero, List.set_cons_succ, if_true, if_false, reduceIte, decide_true, decide_false, end_ret, end_nx, List.length_cons, List.length_nil, Nat.zero_add, Nat.reduceAdd, Nat.reduceLT, Nat.reduceLeDiff, Nat.zero_le, and_self, len_t, List.length_map, eq_int, q0, Bool.false_eq_true, e3, a0, put0, put1, put2, put3, look0, getA_0i, deref_ins, deref_tup, H.c0, q6, s0, s1, a1, a2, a3, e5, endI, H.mut]
  rfl
end Pk
end
section
set_option Elab.async false
set_option linter.all false
set_option maxRecDepth 100000
set_option maxHeartbeats 400000
namespace Pk
open PySem PySem.Spec PyProof.Rows L2 Dv
variable {T : Tab} {O : Orc} {k : Nat} {cs : Cells} {l0 : Nat} {L : List Nat} {F : FT}
structure HasTot (T : Tab) : Prop extends HasLen T where
  f2 : Has T 2 f_need_count
  f28 : Has T 28 f_Lengths_has_total
  f29 : Has T 29 f_Lengths_totals
  c2 : T.consts[2]? = some (.int 60)
  c3 : T.consts[3]? = some (.int 1000000000000000000000000000000)
  m14 : methOf T 0 14 = some 28
  m15 : methOf T 0 15 = some 29
/-- whether a natural is a total, by the least ones -/
def hasB (F : FT) (l0 n : Nat) : Bool := match F[n % l0]? with
  | some (some v) => decide (v ≤ n)
  | _ => false
theorem reach_mul {L : List Nat} {l v : Nat} (hl : l ∈ L) (h : Reach L v) : ∀ j : Nat, Reach L (v + l * j)
  | 0 => by simpa using h
  | j + 1 => by
    have := (reach_mul hl h j).add hl
    rw [Nat.mul_succ, ← Nat.add_assoc]
    exact this
theorem hasB_iff (h : LenOk l0 L F) (n : Nat) : hasB F l0 n = true ↔ Reach (l0 :: L) n := by
  have hl : l0 ∈ l0 :: L := List.mem_cons_self
  have h0 : 0 < l0 := (h.bd l0 hl).1
  constructor
  · intro q
    unfold hasB at q
    split at q
    · rename_i v e
      have q := of_decide_eq_true q
      obtain ⟨v1, v2, _⟩ := h.iv.val _ v e
      have e2 : n = v + l0 * ((n - v) / l0) := by
        have hd : l0 ∣ n - v := Nat.dvd_of_mod_eq_zero (Nat.sub_mod_eq_zero_of_mod_eq v1.symm)
        rw [Nat.mul_div_cancel' hd]
        omega
      rw [e2]
      exact reach_mul hl v2 _
    · cases q
  · rintro ⟨rows, r1, rfl⟩
    obtain ⟨v, e, hv⟩ := told h0 h.iv h.cl rows r1
    unfold hasB
    rw [e]
    exact decide_eq_true hv
theorem attr3 (a b c d : Dv.D) : List.lookup 3 [((0 : Nat), a), (1, b), (2, c), (3, d)] = some d := rfl
theorem attr1 (a b c d : Dv.D) : List.lookup 1 [((0 : Nat), a), (1, b), (2, c), (3, d)] = some b := rfl
theorem attr2 (a b c d : Dv.D) : List.lookup 2 [((0 : Nat), a), (1, b), (2, c), (3, d)] = some c := rfl
theorem r_has (H : HasTot T) (h : LenOk l0 L F) (n : Int) : run T (k + 3) false 28 [lenD l0 L F, .int n] cs = .ok (.bl (decide (1 ≤ n) && decide (n ≤ 1000000000000000000000000000000) && hasB F l0 n.toNat)) cs := by
  have hl : l0 ∈ l0 :: L := List.mem_cons_self
  have h0 : 0 < l0 := (h.bd l0 hl).1
  have h0' : (0 : Int) < (l0 : Int) := by omega
  have hw := r_within (k := k) H.f0 H.f1 n 1 1000000000000000000000000000000 cs
  have a1 := H.at_ 1 (by decide)
  have a3 := H.at_ 3 (by decide)
  rw [run_of (ρ := [.val (lenD l0 L F), .val (.int n), .emp]) H.f28.at_ rfl rfl]
  unfold f_Lengths_has_total lenD
  by_cases q : 1 ≤ n ∧ n ≤ 1000000000000000000000000000000
  · obtain ⟨N, rfl⟩ : ∃ N : Nat, n = (N : Int) := ⟨n.toNat, by omega⟩
    have e2 : (N : Int) % (l0 : Int) = ((N % l0 : Nat) : Int) := rfl
    have hr : N % l0 < F.length := by rw [h.iv.len]; exact Nat.mod_lt _ h0
    have ha : F[N % l0]? = some F[N % l0] := List.getElem?_eq_getElem hr
    have hb : ∀ O cs, subD T O (.lst (F.map oD)) (.int ((N % l0 : Nat) : Int)) cs = .ok (oD F[N % l0]) cs := fun O cs => by
      show ofRes cs (atI _ _) = _
      rw [at_nat (x := oD F[N % l0]) (by rw [List.getElem?_map, ha]; rfl)]
      rfl
    have eB : hasB F l0 N = (match F[N % l0] with
      | some v => decide (v ≤ N)
      | none => false) := by
      unfold hasB
      rw [ha]
      cases F[N % l0] <;> rfl
    cases z : F[N % l0] with
    | none =>
      rw [z] at hb eB
      simp only [sm, thenF_nx, thenF_ret, thenF_brk, thenF_cnt, den, ofVT, ofVB, noDen, baseA, cmpD, bltD, bind_ok, ofRes_some, getV_0, getV_s, getB_0, getB_s, truth_bl, truth_int, cmp_lt, cmp_le, cmp_gt, cmp_ge, List.getElem?_cons_zero, List.getElem?_cons_succ, List.set_cons_zero, List.set_cons_succ, if_true, if_false, reduceIte, decide_true, decide_false, end_ret, end_nx, List.length_cons, List.length_nil, Nat.zero_add, Nat.reduceAdd, Nat.reduceLT, Nat.reduceLeDiff, Nat.zero_le, and_self, H.c3, hw, q.1, q.2, Bool.and_self, Bool.not_true, Bool.false_eq_true, getA_0, deref_ins, deref_lst, a3, attr3, a1, attr1, vi_int, bin_mod T _ h0', e2, hb, oD, Int.toNat_natCast, eB, Bool.and_false]
    | some v =>
      rw [z] at hb eB
      have ev : decide ((v : Int) ≤ (N : Int)) = decide (v ≤ N) := by
        rw [decide_eq_decide]
        omega
      simp only [sm, thenF_nx, thenF_ret, thenF_brk, thenF_cnt, den, ofVT, ofVB, noDen, baseA, cmpD, bltD, bind_ok, ofRes_some, getV_0, getV_s, getB_0, getB_s, truth_bl, truth_int, cmp_lt, cmp_le, cmp_gt, cmp_ge, List.getElem?_cons_zero, List.getElem?_cons_succ, List.set_cons_zero, List.set_cons_succ, if_true, if_false, reduceIte, decide_true, decide_false, end_ret, end_nx, List.length_cons, List.length_nil, Nat.zero_add, Nat.reduceAdd, Nat.reduceLT, Nat.reduceLeDiff, Nat.zero_le, and_self, H.c3, hw, q.1, q.2, Bool.and_self, Bool.not_true, Bool.false_eq_true, getA_0, deref_ins, deref_lst, a3, attr3, a1, attr1, vi_int, bin_mod T _ h0', e2, hb, oD, Int.toNat_natCast, eB, Bool.true_and, ev]
  · have eq : (decide (1 ≤ n) && decide (n ≤ 1000000000000000000000000000000)) = false := by
      rw [Bool.eq_false_iff]
      intro z
      rw [Bool.and_eq_true, decide_eq_true_eq, decide_eq_true_eq] at z
      exact q z
    simp only [sm, thenF_nx, thenF_ret, thenF_brk, thenF_cnt, den, ofVT, ofVB, noDen, baseA, cmpD, bltD, bind_ok, ofRes_some, getV_0, getV_s, getB_0, getB_s, truth_bl, truth_int, cmp_lt, cmp_le, cmp_gt, cmp_ge, List.getElem?_cons_zero, List.getElem?_cons_succ, List.set_cons_zero, List.set_cons_succ, if_true, if_false, reduceIte, decide_true, decide_false, end_ret, end_nx, List.length_cons, List.length_nil, Nat.zero_add, Nat.reduceAdd, Nat.reduceLT, Nat.reduceLeDiff, Nat.zero_le, and_self, H.c3, hw, eq, Bool.not_false, Bool.false_and]
end Pk
end
section
set_option Elab.async false
set_option linter.all false
set_option maxRecDepth 100000
set_option maxHeartbeats 400000
namespace Pk
open PySem PySem.Spec PyProof.Rows L2 Dv
variable {T : Tab} {O : Orc} {k : Nat} {cs : Cells} {l0 : Nat} {L : List Nat} {F : FT}
theorem r_need_count (H : HasTot T) {n m : Int} (h : 0 ≤ n ∧ n ≤ m) : run T (k + 3) false 2 [.int n, .int m] cs = .ok .non cs := by
  have hw := r_within (k := k) H.f0 H.f1 n 0 m cs
  rw [run_of (ρ := [.val (.int n), .val (.int m)]) H.f2.at_ rfl rfl]
  unfold f_need_count
  simp only [sm, thenF_nx, thenF_ret, thenF_brk, thenF_cnt, den, ofVT, ofVB, noDen, baseA, cmpD, bltD, bind_ok, ofRes_some, getV_0, getV_s, getB_0, getB_s, truth_bl, truth_int, cmp_lt, cmp_le, cmp_gt, cmp_ge, List.getElem?_cons_zero, List.getElem?_cons_succ, List.set_cons_zero, List.set_cons_succ, if_true, if_false, reduceIte, decide_true, decide_false, end_ret, end_nx, List.length_cons, List.length_nil, Nat.zero_add, Nat.reduceAdd, Nat.reduceLT, Nat.reduceLeDiff, Nat.zero_le, and_self, hw, h.1, h.2, Bool.and_self, Bool.not_true, Bool.false_eq_true]
/-- a comprehension with an if -/
theorem comp_filt {α : Type} {turn : Dv.D → Cells → Res (Option Dv.D)} (c : Dv.D → Bool) {cs : Cells} {xs : List Dv.D} {K : List Dv.D → Cells → Res α} {R : Res α} (h : ∀ x ∈ xs, turn x cs = .ok (if c x then some x else none) cs) (hl : xs.length ≤ sizeLine) (hk : K (xs.filter c) cs = R) : (compF turn [] xs cs).bind K = R := by
  rw [compF, compF_filt h (by simpa using hl)]
  simpa using hk
/-- the totals up to a room -/
def totL (F : FT) (l0 room : Nat) : List Nat := (List.range' 1 room).filter (hasB F l0)
theorem tot_mem (h : LenOk l0 L F) (room n : Nat) : n ∈ totL F l0 room ↔ 1 ≤ n ∧ n ≤ room ∧ Reach (l0 :: L) n := by
  unfold totL
  rw [List.mem_filter, hasB_iff h, List.mem_range'_1]
  constructor
  · rintro ⟨⟨a, b⟩, c⟩
    exact ⟨a, by omega, c⟩
  · rintro ⟨a, b, c⟩
    exact ⟨⟨a, by omega⟩, c⟩
theorem tot_lt (F : FT) (l0 room : Nat) : (totL F l0 room).Pairwise (· < ·) := List.Pairwise.filter _ (List.pairwise_lt_range' (s := 1) (n := room))
theorem r_totals (H : HasTot T) (h : LenOk l0 L F) {room : Nat} (hr : room ≤ 60) : run T (k + 4) false 29 [lenD l0 L F, .int room] cs = .ok (.tup ((totL F l0 room).map nD)) cs := by
  have hc := r_need_count (k := k) (cs := cs) H (n := room) (m := 60) (by omega)
  have r2 : rng2D (.int 1) (.int ((room : Int) + 1)) cs = _ := rng2D_nat 1 (room + 1) (by omega) (by decide) cs
  have hz : room ≤ sizeLine := Nat.le_trans hr (by decide)
  rw [run_of (ρ := [.val (lenD l0 L F), .val (.int room), .emp]) H.f29.at_ rfl rfl]
  unfold f_Lengths_totals
  simp only [sm, thenF_nx, thenF_ret, thenF_brk, thenF_cnt, den, ofVT, ofVB, noDen, baseA, cmpD, bltD, bind_ok, ofRes_some, getV_0, getV_s, getB_0, getB_s, truth_bl, truth_int, cmp_lt, cmp_le, cmp_gt, cmp_ge, List.getElem?_cons_zero, List.getElem?_cons_succ, List.set_cons_zero, List.set_cons_succ, if_true, if_false, reduceIte, decide_true, decide_false, end_ret, end_nx, List.length_cons, List.length_nil, Nat.zero_add, Nat.reduceAdd, Nat.reduceLT, Nat.reduceLeDiff, Nat.zero_le, and_self, H.c2, hc, bin_add, r2]
  simp only [Dv.bind_assoc]
  refine comp_filt (fun d => match d with | .int n => hasB F l0 n.toNat | _ => false) (fun x hx => ?_) (by simpa using hz) ?_
  · obtain ⟨i, hi, rfl⟩ := List.mem_map.mp hx
    have hi := List.mem_range.mp hi
    have hh := r_has (k := k) (cs := cs) H h ((1 + i : Nat) : Int)
    have b1 : decide ((1 : Int) ≤ ((1 + i : Nat) : Int)) = true := decide_eq_true (by omega)
    have b2 : decide (((1 + i : Nat) : Int) ≤ 1000000000000000000000000000000) = true := decide_eq_true (by omega)
    rw [b1, b2, Int.toNat_natCast] at hh
    have hm : methF T 14 (lenD l0 L F) cs = some 28 := H.m14
    simp only [sm, thenF_nx, thenF_ret, thenF_brk, thenF_cnt, den, ofVT, ofVB, noDen, baseA, cmpD, bltD, bind_ok, ofRes_some, getV_0, getV_s, getB_0, getB_s, truth_bl, truth_int, cmp_lt, cmp_le, cmp_gt, cmp_ge, List.getElem?_cons_zero, List.getElem?_cons_succ, List.set_cons_zero, List.set_cons_succ, if_true, if_false, reduceIte, decide_true, decide_false, end_ret, end_nx, List.length_cons, List.length_nil, Nat.zero_add, Nat.reduceAdd, Nat.reduceLT, Nat.reduceLeDiff, Nat.zero_le, and_self, turnD, setTg, setAll, wipeE, hm, hh, Bool.and_self, Bool.true_and, Int.toNat_natCast]
    by_cases q : hasB F l0 (1 + i) = true
    · rw [if_pos q, if_pos q]
    · rw [if_neg q, if_neg q]
  · have e : (((List.range (room + 1 - 1)).map fun (i : Nat) => Dv.D.int ((1 + i : Nat) : Int)).filter fun d => match d with | .int n => hasB F l0 n.toNat | _ => false) = (totL F l0 room).map nD := by
      unfold totL
      rw [List.range'_eq_map_range, List.filter_map, List.filter_map, List.map_map]
      rfl
    rw [e]
    simp only [sm, thenF_nx, thenF_ret, thenF_brk, thenF_cnt, den, ofVT, ofVB, noDen, baseA, cmpD, bltD, bind_ok, ofRes_some, getV_0, getV_s, getB_0, getB_s, truth_bl, truth_int, cmp_lt, cmp_le, cmp_gt, cmp_ge, List.getElem?_cons_zero, List.getElem?_cons_succ, List.set_cons_zero, List.set_cons_succ, if_true, if_false, reduceIte, decide_true, decide_false, end_ret, end_nx, List.length_cons, List.length_nil, Nat.zero_add, Nat.reduceAdd, Nat.reduceLT, Nat.reduceLeDiff, Nat.zero_le, and_self, bTuple, seq_lst, Option.map_some]
end Pk
end
section
set_option Elab.async false
set_option linter.all false
set_option maxRecDepth 100000
set_option maxHeartbeats 400000
namespace Pk
open PySem PySem.Spec PyProof.Rows L2 Dv
variable {T : Tab} {O : Orc} {k : Nat} {cs : Cells} {l0 : Nat} {L : List Nat} {F : FT}
structure HasLenC (T : Tab) : Prop extends HasLen T where
  f6 : Has T 6 f_need_lengths
  f7 : Has T 7 f_lengths_of
  f22 : Has T 22 f_Lengths_len
  f23 : Has T 23 f_Lengths_contains
  f24 : Has T 24 f_Lengths_or
  f34 : Has T 34 f_Lengths_eq
  anc : ∃ c, T.cls[0]? = some c ∧ c.anc.contains 0 = true
  mOr : methOf T 0 nOr = some 24
  mEq : methOf T 0 nEq = some 34
  mLen : methOf T 0 nLen = some 22
  mIn : methOf T 0 nCont = some 23
theorem isi_len (H : HasLenC T) : isiD T [.cls 0] (lenD l0 L F) cs = .ok (.bl true) cs := by
  obtain ⟨c, h1, h2⟩ := H.anc
  have e1 : tyOk T (lenD l0 L F) cs = true := by
    show (T.cls[0]?).isSome = true
    rw [h1]
    rfl
  have e2 : tyThere T (.cls 0) = true := by
    show (T.cls[0]?).isSome = true
    rw [h1]
    rfl
  have e3 : isTy T (lenD l0 L F) cs (.cls 0) = true := by
    show (match T.cls[0]? with
      | some cl => cl.anc.contains 0
      | none => false) = true
    rw [h1]
    exact h2
  unfold isiD
  rw [e1]
  simp only [List.all_cons, List.all_nil, e2, Bool.and_self, and_self, if_true, List.any_cons, e3, List.any_nil, Bool.or_false]
theorem r_need_lengths (H : HasLenC T) : run T (k + 1) false 6 [lenD l0 L F] cs = .ok .non cs := by
  rw [run_of (ρ := [.val (lenD l0 L F)]) H.f6.at_ rfl rfl]
  unfold f_need_lengths
  simp only [sm, thenF_nx, thenF_ret, thenF_brk, thenF_cnt, den, ofVT, ofVB, noDen, baseA, cmpD, bltD, bind_ok, ofRes_some, getV_0, getV_s, getB_0, getB_s, truth_bl, truth_int, cmp_lt, cmp_le, cmp_gt, cmp_ge, List.getElem?_cons_zero, List.getElem?_cons_succ, List.set_cons_zero, List.set_cons_succ, if_true, if_false, reduceIte, decide_true, decide_false, end_ret, end_nx, List.length_cons, List.length_nil, Nat.zero_add, Nat.reduceAdd, Nat.reduceLT, Nat.reduceLeDiff, Nat.zero_le, and_self, isi_len H, Bool.not_true, Bool.false_eq_true]
theorem attr0 (a b c d : Dv.D) : List.lookup 0 [((0 : Nat), a), (1, b), (2, c), (3, d)] = some a := rfl
theorem map_nI (L : List Nat) : L.map nD = (L.map fun (n : Nat) => (n : Int)).map Dv.D.int := by
  rw [List.map_map]
  rfl
/-- one set of lengths put to another one -/
theorem r_or (H : HasLenC T) {l0' : Nat} {L' : List Nat} {F' : FT} (h : LenOk l0 L F) (h' : LenOk l0' L' F') (m0 : Nat) (M : List Nat) (ha : asc (((l0 :: L) ++ (l0' :: L')).map fun (n : Nat) => (n : Int)) = (m0 :: M).map fun (n : Nat) => (n : Int)) (hf : (m0 :: M).length ≤ 6) :
    ∃ G, run T (k + 6) false 24 [lenD l0 L F, lenD l0' L' F'] cs = .ok (lenD m0 M G) cs ∧ LenOk m0 M G := by
  have hz : ((l0 :: L) ++ (l0' :: L')).length ≤ 12 := by
    have := h.few
    have := h'.few
    simp at *
    omega
  obtain ⟨G, e, hG⟩ := r_lengths (k := k) (cs := cs) H.toHasLen (((l0 :: L) ++ (l0' :: L')).map fun (n : Nat) => (n : Int)) (fun n hn => by
    obtain ⟨l, hl, rfl⟩ := List.mem_map.mp hn
    rcases List.mem_append.mp hl with q | q
    · have := h.bd l q; omega
    · have := h'.bd l q; omega) m0 M ha hf (by rw [List.length_map]; exact Nat.lt_of_le_of_lt hz (by decide))
  refine ⟨G, ?_, hG⟩
  rw [← map_nI] at e
  have a0 := H.at_ 0 (by decide)
  obtain ⟨c, c1, _, c3⟩ := H.c
  have hof : ∀ ds : List Dv.D, run T (k + 4) true 20 ds cs = .ok (lenD m0 M G) cs → run T (k + 5) false 7 [.lst ds] cs = .ok (lenD m0 M G) cs := fun ds hd => by
    rw [run_of (ρ := [.val (.lst ds)]) H.f7.at_ rfl rfl]
    unfold f_lengths_of
    simp only [sm, thenF_nx, thenF_ret, thenF_brk, thenF_cnt, den, ofVT, ofVB, noDen, baseA, cmpD, bltD, bind_ok, ofRes_some, getV_0, getV_s, getB_0, getB_s, truth_bl, truth_int, cmp_lt, cmp_le, cmp_gt, cmp_ge, List.getElem?_cons_zero, List.getElem?_cons_succ, List.set_cons_zero, List.set_cons_succ, if_true, if_false, reduceIte, decide_true, decide_false, end_ret, end_nx, List.length_cons, List.length_nil, Nat.zero_add, Nat.reduceAdd, Nat.reduceLT, Nat.reduceLeDiff, Nat.zero_le, and_self, seq_lst, List.append_nil, c1, c3, hd]
  rw [run_of (ρ := [.val (lenD l0 L F), .val (lenD l0' L' F')]) H.f24.at_ rfl rfl]
  have n1 := r_need_lengths (k := k + 4) (cs := cs) (l0 := l0') (L := L') (F := F') H
  have hz2 : ((l0 :: L).map nD ++ (l0' :: L').map nD).length ≤ sizeLine := by
    rw [← List.map_append, List.length_map]
    exact Nat.le_trans hz (by decide)
  have e : run T (k + 5) false 7 [.lst ((l0 :: L).map nD ++ (l0' :: L').map nD)] cs = _ := hof _ (by rw [← List.map_append]; exact e)
  unfold f_Lengths_or
  simp only [sm, thenF_nx, thenF_ret, thenF_brk, thenF_cnt, den, ofVT, ofVB, noDen, baseA, cmpD, bltD, bind_ok, ofRes_some, getV_0, getV_s, getB_0, getB_s, truth_bl, truth_int, cmp_lt, cmp_le, cmp_gt, cmp_ge, List.getElem?_cons_zero, List.getElem?_cons_succ, List.set_cons_zero, List.set_cons_succ, if_true, if_false, reduceIte, decide_true, decide_false, end_ret, end_nx, List.length_cons, List.length_nil, Nat.zero_add, Nat.reduceAdd, Nat.reduceLT, Nat.reduceLeDiff, Nat.zero_le, and_self, n1]
  unfold lenD at *
  simp only [sm, thenF_nx, thenF_ret, thenF_brk, thenF_cnt, den, ofVT, ofVB, noDen, baseA, cmpD, bltD, bind_ok, ofRes_some, getV_0, getV_s, getB_0, getB_s, truth_bl, truth_int, cmp_lt, cmp_le, cmp_gt, cmp_ge, List.getElem?_cons_zero, List.getElem?_cons_succ, List.set_cons_zero, List.set_cons_succ, if_true, if_false, reduceIte, decide_true, decide_false, end_ret, end_nx, List.length_cons, List.length_nil, Nat.zero_add, Nat.reduceAdd, Nat.reduceLT, Nat.reduceLeDiff, Nat.zero_le, and_self, getA_0, getA_s, deref_ins, a0, attr0, seq_tup, List.append_nil, hz2, e]
theorem tup_inj {xs ys : List Nat} : (Dv.D.tup (xs.map nD) = Dv.D.tup (ys.map nD)) ↔ xs = ys := by
  constructor
  · intro h
    injection h with h
    have : ∀ (xs ys : List Nat), xs.map nD = ys.map nD → xs = ys := by
      intro xs
      induction xs with
      | nil => intro ys h; cases ys with
        | nil => rfl
        | cons _ _ => cases h
      | cons x xs ih => intro ys h; cases ys with
        | nil => cases h
        | cons y ys =>
          simp only [List.map_cons, List.cons.injEq] at h
          have h1 : (x : Int) = (y : Int) := by injection h.1
          rw [ih ys h.2, show x = y by omega]
    exact this xs ys h
  · rintro rfl
    rfl
theorem r_eq (H : HasLenC T) {l0' : Nat} {L' : List Nat} {F' : FT} : run T (k + 1) false 34 [lenD l0 L F, lenD l0' L' F'] cs = .ok (.bl (decide (l0 :: L = l0' :: L'))) cs := by
  have a0 := H.at_ 0 (by decide)
  have hi := isi_len (cs := cs) (l0 := l0') (L := L') (F := F') H
  have he : ∀ O cs, eqD T O (.tup ((l0 :: L).map nD)) (.tup ((l0' :: L').map nD)) cs = .ok (decide (l0 :: L = l0' :: L')) cs := fun O cs => by
    classical
    rw [eqD_pl T O (n := 1) (m := 1) (by simp only [pl]; exact pls_map fun _ _ => by simp [pl]) (by simp only [pl]; exact pls_map fun _ _ => by simp [pl]) (by decide) (by decide)]
    congr 1
    rw [decide_eq_decide]
    exact tup_inj
  rw [run_of (ρ := [.val (lenD l0 L F), .val (lenD l0' L' F')]) H.f34.at_ rfl rfl]
  unfold f_Lengths_eq
  simp only [sm, thenF_nx, thenF_ret, thenF_brk, thenF_cnt, den, ofVT, ofVB, noDen, baseA, cmpD, bltD, bind_ok, ofRes_some, getV_0, getV_s, getB_0, getB_s, truth_bl, truth_int, cmp_lt, cmp_le, cmp_gt, cmp_ge, List.getElem?_cons_zero, List.getElem?_cons_succ, List.set_cons_zero, List.set_cons_succ, if_true, if_false, reduceIte, decide_true, decide_false, end_ret, end_nx, List.length_cons, List.length_nil, Nat.zero_add, Nat.reduceAdd, Nat.reduceLT, Nat.reduceLeDiff, Nat.zero_le, and_self, hi]
  unfold lenD
  simp only [sm, thenF_nx, thenF_ret, thenF_brk, thenF_cnt, den, ofVT, ofVB, noDen, baseA, cmpD, bltD, bind_ok, ofRes_some, getV_0, getV_s, getB_0, getB_s, truth_bl, truth_int, cmp_lt, cmp_le, cmp_gt, cmp_ge, List.getElem?_cons_zero, List.getElem?_cons_succ, List.set_cons_zero, List.set_cons_succ, if_true, if_false, reduceIte, decide_true, decide_false, end_ret, end_nx, List.length_cons, List.length_nil, Nat.zero_add, Nat.reduceAdd, Nat.reduceLT, Nat.reduceLeDiff, Nat.zero_le, and_self, getA_0, getA_s, deref_ins, a0, attr0, he]
theorem r_len (H : HasLenC T) : run T (k + 1) false 22 [lenD l0 L F] cs = .ok (.int ((l0 :: L).length : Nat)) cs := by
  have a0 := H.at_ 0 (by decide)
  rw [run_of (ρ := [.val (lenD l0 L F)]) H.f22.at_ rfl rfl]
  unfold f_Lengths_len lenD
  simp only [sm, thenF_nx, thenF_ret, thenF_brk, thenF_cnt, den, ofVT, ofVB, noDen, baseA, cmpD, bltD, bind_ok, ofRes_some, getV_0, getV_s, getB_0, getB_s, truth_bl, truth_int, cmp_lt, cmp_le, cmp_gt, cmp_ge, List.getElem?_cons_zero, List.getElem?_cons_succ, List.set_cons_zero, List.set_cons_succ, if_true, if_false, reduceIte, decide_true, decide_false, end_ret, end_nx, List.length_cons, List.length_nil, Nat.zero_add, Nat.reduceAdd, Nat.reduceLT, Nat.reduceLeDiff, Nat.zero_le, and_self, getA_0, deref_ins, a0, attr0, len_t, List.length_map]
theorem flats_n (L : List Nat) : flats (L.map nD) = some (L.map fun (n : Nat) => V.int (n : Int)) := by
  induction L with
  | nil => rfl
  | cons l L ih =>
    rw [List.map_cons, flats, ih]
    rfl
theorem in_n (n : Int) (L : List Nat) : isIn1 (.int n) (.tup (L.map nD)) = some (L.any fun l => (l : Int) == n) := by
  show (match flatD (.int n), flats (L.map nD) with
    | some x, some xs => some (inV x xs)
    | _, _ => none) = _
  rw [flats_n]
  show some (inV (V.int n) _) = _
  unfold inV
  rw [List.any_map]
  rfl
theorem r_in (H : HasLenC T) (n : Int) (hb : ∀ l ∈ l0 :: L, 1 ≤ l ∧ l ≤ 60) : run T (k + 3) false 23 [lenD l0 L F, .int n] cs = .ok (.bl ((l0 :: L).any fun l => (l : Int) == n)) cs := by
  have a0 := H.at_ 0 (by decide)
  have hw := r_within (k := k) H.f0 H.f1 n 1 60 cs
  rw [run_of (ρ := [.val (lenD l0 L F), .val (.int n)]) H.f23.at_ rfl rfl]
  have hc : clsOf (.tup ((l0 :: L).map nD)) cs = none := rfl
  unfold f_Lengths_contains
  cases q : (decide (1 ≤ n) && decide (n ≤ 60)) with
  | true =>
    rw [q] at hw
    simp only [sm, thenF_nx, thenF_ret, thenF_brk, thenF_cnt, den, ofVT, ofVB, noDen, baseA, cmpD, bltD, bind_ok, ofRes_some, getV_0, getV_s, getB_0, getB_s, truth_bl, truth_int, cmp_lt, cmp_le, cmp_gt, cmp_ge, List.getElem?_cons_zero, List.getElem?_cons_succ, List.set_cons_zero, List.set_cons_succ, if_true, if_false, reduceIte, decide_true, decide_false, end_ret, end_nx, List.length_cons, List.length_nil, Nat.zero_add, Nat.reduceAdd, Nat.reduceLT, Nat.reduceLeDiff, Nat.zero_le, and_self, H.c1, hw]
    unfold lenD
    simp only [sm, thenF_nx, thenF_ret, thenF_brk, thenF_cnt, den, ofVT, ofVB, noDen, baseA, cmpD, bltD, bind_ok, ofRes_some, getV_0, getV_s, getB_0, getB_s, truth_bl, truth_int, cmp_lt, cmp_le, cmp_gt, cmp_ge, List.getElem?_cons_zero, List.getElem?_cons_succ, List.set_cons_zero, List.set_cons_succ, if_true, if_false, reduceIte, decide_true, decide_false, end_ret, end_nx, List.length_cons, List.length_nil, Nat.zero_add, Nat.reduceAdd, Nat.reduceLT, Nat.reduceLeDiff, Nat.zero_le, and_self, getA_0, deref_ins, a0, attr0, hc, deref_tup, in_n, Option.map_some]
  | false =>
    rw [q] at hw
    have e : ((l0 :: L).any fun l => (l : Int) == n) = false := by
      rw [List.any_eq_false]
      intro l hl z
      have := hb l hl
      rw [beq_iff_eq] at z
      rw [Bool.and_eq_false_iff, decide_eq_false_iff_not, decide_eq_false_iff_not] at q
      omega
    simp only [sm, thenF_nx, thenF_ret, thenF_brk, thenF_cnt, den, ofVT, ofVB, noDen, baseA, cmpD, bltD, bind_ok, ofRes_some, getV_0, getV_s, getB_0, getB_s, truth_bl, truth_int, cmp_lt, cmp_le, cmp_gt, cmp_ge, List.getElem?_cons_zero, List.getElem?_cons_succ, List.set_cons_zero, List.set_cons_succ, if_true, if_false, reduceIte, decide_true, decide_false, end_ret, end_nx, List.length_cons, List.length_nil, Nat.zero_add, Nat.reduceAdd, Nat.reduceLT, Nat.reduceLeDiff, Nat.zero_le, and_self, H.c1, hw, Bool.false_eq_true, e]
end Pk
end
section
set_option Elab.async false
set_option linter.all false
set_option maxRecDepth 100000
set_option maxHeartbeats 400000
namespace Pk
open PySem PySem.Spec PyProof.Rows L2 Dv
variable {T : Tab} {O : Orc} {k : Nat} {cs : Cells} {l0 : Nat} {L : List Nat} {F : FT}
/-! ### words that write lengths -/
def wd (n : Nat) : Str := toString (n : Int)
def wdB (n : Nat) : Bool := (1 ≤ (wd n).length && (wd n).length ≤ 2) && (match (wd n).cps.toList with
  | c :: r => c != 48 && ((c :: r).all fun c => "0123456789".toList.any fun d => d.toNat == c) && ((c :: r).all fun c => decide (c ∈ ("0123456789" : Str).cps.toList)) && PyData.strOk ⟨#[c]⟩
  | [] => false) && decide (PySem.intText? (wd n) = some (n : Int))
theorem wd_all : ∀ m : Fin 61, 1 ≤ m.val → wdB m.val = true := by decide +kernel
theorem wd_ok {n : Nat} (h : 1 ≤ n ∧ n ≤ 60) : wdB n = true := wd_all ⟨n, by omega⟩ h.1
theorem r_length_in (h8 : Has T 8 f_length_in) (c1 : T.consts[1]? = some (.int 60)) {n : Nat} (hn : 1 ≤ n ∧ n ≤ 60) : run T (k + 1) false 8 [.str (wd n)] cs = .ok (.int (n : Int)) cs := by
  have h := wd_ok hn
  unfold wdB at h
  simp only [Bool.and_eq_true, decide_eq_true_eq] at h
  obtain ⟨⟨⟨a1, a2⟩, a3⟩, a4⟩ := h
  split at a3
  case h_2 => cases a3
  rename_i c r hc
  simp only [Bool.and_eq_true] at a3
  obtain ⟨⟨⟨b1, _⟩, b3⟩, b4⟩ := a3
  have b1 : c ≠ 48 := by simpa using b1
  have hz : (wd n).length ≤ sizeLine := Nat.le_trans a2 (by decide)
  have hz2 : (wd n).length ≤ 640 := Nat.le_trans a2 (by decide)
  have l1 : (1 : Int) ≤ ((wd n).length : Int) := by omega
  have l2 : ((wd n).length : Int) ≤ 2 := by omega
  have e0 : ∀ O cs, subD T O (.str (wd n)) (.int 0) cs = .ok (.str ⟨#[c]⟩) cs := fun O cs => by
    show (if (wd n).length ≤ sizeLine then ofRes cs ((atI (wd n).cps.toList ((0 : Nat) : Int)).map fun c => Dv.D.str ⟨#[c]⟩) else .bad) = _
    rw [if_pos hz, at_nat (x := c) (by rw [hc]; rfl)]
    rfl
  have e1 : ∀ O cs, eqD T O (.str ⟨#[c]⟩) (.str "0") cs = .ok false cs := fun O cs => by
    classical
    rw [eqD_pl T O (n := 0) (m := 0) (by simpa [pl] using b4) (by simp only [pl]; decide +kernel) (by decide) (by decide)]
    congr 1
    rw [decide_eq_false_iff_not]
    intro z
    injection z with z
    have z2 := congrArg (fun s : Str => s.cps.toList) z
    have : [c] = [48] := z2
    exact b1 (by injection this)
  have hlen : ∀ O cs, bLen T O [.str (wd n)] cs = .ok (.int (wd n).length) cs := fun O cs => by
    show (if (wd n).length ≤ sizeLine then _ else _) = _
    rw [if_pos hz]
  have hint : ∀ cs, bInt [.str (wd n)] cs = .ok (.int (n : Int)) cs := fun cs => by
    show (if (wd n).length ≤ 640 then ofRes cs ((PySem.intText? (wd n)).map Dv.D.int) else .bad) = _
    rw [if_pos hz2, a4]
    rfl
  have hcl : (chars (wd n)).length ≤ sizeLine := by
    rw [chars_len]
    exact hz
  have hn60 : (n : Int) ≤ 60 := by omega
  rw [run_of (ρ := [.val (.str (wd n)), .emp]) h8.at_ rfl rfl]
  unfold f_length_in
  simp only [sm, thenF_nx, thenF_ret, thenF_brk, thenF_cnt, den, ofVT, ofVB, noDen, baseA, cmpD, bltD, bind_ok, ofRes_some, getV_0, getV_s, getB_0, getB_s, truth_bl, truth_int, cmp_lt, cmp_le, cmp_gt, cmp_ge, List.getElem?_cons_zero, List.getElem?_cons_succ, List.set_cons_zero, List.set_cons_succ, if_true, if_false, reduceIte, decide_true, decide_false, end_ret, end_nx, List.length_cons, List.length_nil, Nat.zero_add, Nat.reduceAdd, Nat.reduceLT, Nat.reduceLeDiff, Nat.zero_le, and_self, hlen, l1, l2, Bool.not_true, Bool.false_eq_true, e0, e1, itemsI_str]
  simp only [Dv.bind_assoc]
  refine comp_bind (fun _ => .bl true) (fun x hx => ?_) hcl ?_
  · obtain ⟨d, hd, rfl⟩ := List.mem_map.mp hx
    rw [hc] at hd
    have hm := List.all_eq_true.mp b3 d hd
    have hi : isIn1 (.str ⟨#[d]⟩) (.str "0123456789") = some true := by
      show some (decide (d ∈ ("0123456789" : Str).cps.toList)) = _
      rw [hm]
    have hcn : clsOf (.str "0123456789") cs = none := rfl
    simp only [sm, thenF_nx, thenF_ret, thenF_brk, thenF_cnt, den, ofVT, ofVB, noDen, baseA, cmpD, bltD, bind_ok, ofRes_some, getV_0, getV_s, getB_0, getB_s, truth_bl, truth_int, cmp_lt, cmp_le, cmp_gt, cmp_ge, List.getElem?_cons_zero, List.getElem?_cons_succ, List.set_cons_zero, List.set_cons_succ, if_true, if_false, reduceIte, decide_true, decide_false, end_ret, end_nx, List.length_cons, List.length_nil, Nat.zero_add, Nat.reduceAdd, Nat.reduceLT, Nat.reduceLeDiff, Nat.zero_le, and_self, turnD, setTg, setAll, wipeE, hcn, deref_str, hi, Option.map_some]
  · have hall : bAll [.lst ((chars (wd n)).map fun _ => Dv.D.bl true)] cs = .ok (.bl true) cs := by
      show ofRes cs ((boolsD ((chars (wd n)).map fun _ => Dv.D.bl true)).map fun ns => Dv.D.bl (ns.all id)) = _
      have e : (chars (wd n)).map (fun _ => Dv.D.bl true) = ((chars (wd n)).map fun _ => true).map Dv.D.bl := by rw [List.map_map]; rfl
      rw [e, boolsD_map]
      simp
    simp only [sm, thenF_nx, thenF_ret, thenF_brk, thenF_cnt, den, ofVT, ofVB, noDen, baseA, cmpD, bltD, bind_ok, ofRes_some, getV_0, getV_s, getB_0, getB_s, truth_bl, truth_int, cmp_lt, cmp_le, cmp_gt, cmp_ge, List.getElem?_cons_zero, List.getElem?_cons_succ, List.set_cons_zero, List.set_cons_succ, if_true, if_false, reduceIte, decide_true, decide_false, end_ret, end_nx, List.length_cons, List.length_nil, Nat.zero_add, Nat.reduceAdd, Nat.reduceLT, Nat.reduceLeDiff, Nat.zero_le, and_self, hall, Bool.not_true, Bool.false_eq_true, hint, c1, hn60]
end Pk
end
section
set_option Elab.async false
set_option linter.all false
set_option maxRecDepth 100000
set_option maxHeartbeats 400000
namespace Pk
open PySem PySem.Spec PyProof.Rows L2 Dv
variable {T : Tab} {O : Orc} {k : Nat} {cs : Cells} {l0 : Nat} {L : List Nat} {F : FT}
/-! ### texts of lengths, read -/
def txtL (ns : List Nat) : Str := Txt.join " " (ns.map wd)
theorem wd_free : ∀ m : Fin 61, 1 ≤ m.val → (TL.tl (wd m.val)).contains 32 = false := by decide +kernel
theorem split_txt {ns : List Nat} (h : ∀ n ∈ ns, 1 ≤ n ∧ n ≤ 60) (hne : ns ≠ []) : Txt.split (txtL ns) " " = ns.map wd :=
  TL.split_join (s := 32) (S := []) rfl (by decide +kernel) (by simpa using hne) fun p hp z => by
    obtain ⟨n, hn, rfl⟩ := List.mem_map.mp hp
    have := h n hn
    have e := wd_free ⟨n, by omega⟩ this.1
    rw [← List.contains_iff_mem] at z
    rw [e] at z
    cases z
theorem wd_len {n : Nat} (h : 1 ≤ n ∧ n ≤ 60) : (wd n).length ≤ 2 := by
  have h := wd_ok h
  unfold wdB at h
  simp only [Bool.and_eq_true, decide_eq_true_eq] at h
  exact h.1.1.2
def li1 : Sm := (.seq (.set 4 (.call 8 (.cons (.var 3) .nil))) (.seq (.ite (.or (.isn (.var 4)) (.or (.cmp .eq (.blt .len (.cons (.var 1) .nil)) (.glob 0)) (.and (.cmp .gt (.blt .len (.cons (.var 1) .nil)) (.int 0)) (.cmp .le (.var 4) (.sub (.var 1) (.neg (.int 1))))))) (.seq .never .skip) .skip) (.seq (.app 1 (.var 4)) .skip)))
theorem li_body : f_lengths_in.body = (.seq (.ite (.not (.isi (.var 0) [.str])) (.seq .never .skip) .skip) (.seq (.own 1 .nil) (.seq (.for_ [2, 3] false (.enum (.split (.var 0) (.str " "))) li1) (.frz 1 (.seq (.ret (.var 1)) .skip))))) := rfl
theorem li1_nil {s : Dv.D} {n : Nat} {i : Int} {s4 : Slot} (h8r : run T (k + 1) false 8 [.str (wd n)] cs = .ok (.int (n : Int)) cs) (c0 : T.consts[0]? = some (.int 6)) : sm T (run T (k + 1)) li1 [.val s, .own (.lst []), .val (.int i), .val (.str (wd n)), s4] cs = .ok (.nx [.val s, .own (.lst [.int (n : Int)]), .val (.int i), .val (.str (wd n)), .val (.int n)]) cs := by
  have z0 : ¬ (((0 : Nat) : Int) = 6) := by decide
  have z1 : ¬ ((0 : Int) < ((0 : Nat) : Int)) := by decide
  have z2 : (0 : Nat) < sizeLine := by decide
  unfold li1
  simp only [sm, thenF_nx, thenF_ret, thenF_brk, thenF_cnt, den, ofVT, ofVB, noDen, baseA, cmpD, bltD, bind_ok, ofRes_some, getV_0, getV_s, getB_0, getB_s, truth_bl, truth_int, cmp_lt, cmp_le, cmp_gt, cmp_ge, List.getElem?_cons_zero, List.getElem?_cons_succ, List.set_cons_zero, List.set_cons_succ, if_true, if_false, reduceIte, decide_true, decide_false, end_ret, end_nx, List.length_cons, List.length_nil, Nat.zero_add, Nat.reduceAdd, Nat.reduceLT, Nat.reduceLeDiff, Nat.zero_le, and_self, h8r, getB_0o, len_l, c0, eq_int, Bool.false_eq_true, z0, z1, z2, List.nil_append]
theorem li1_cons {s : Dv.D} {n l : Nat} {i : Int} {s4 : Slot} {w : List Dv.D} (h8r : run T (k + 1) false 8 [.str (wd n)] cs = .ok (.int (n : Int)) cs) (c0 : T.consts[0]? = some (.int 6)) (ha : ∀ O cs, subD T O (.lst w) (.int (-1)) cs = .ok (nD l) cs) (hg : ¬ ((n : Int) ≤ (l : Int))) (hl : w.length < 6) (h0 : 0 < w.length) : sm T (run T (k + 1)) li1 [.val s, .own (.lst w), .val (.int i), .val (.str (wd n)), s4] cs = .ok (.nx [.val s, .own (.lst (w ++ [.int (n : Int)])), .val (.int i), .val (.str (wd n)), .val (.int n)]) cs := by
  have z0 : ¬ ((w.length : Int) = 6) := by omega
  have z1 : (0 : Int) < (w.length : Int) := by omega
  have z2 : w.length < sizeLine := Nat.lt_of_lt_of_le hl (by decide)
  unfold li1
  simp only [sm, thenF_nx, thenF_ret, thenF_brk, thenF_cnt, den, ofVT, ofVB, noDen, baseA, cmpD, bltD, bind_ok, ofRes_some, getV_0, getV_s, getB_0, getB_s, truth_bl, truth_int, cmp_lt, cmp_le, cmp_gt, cmp_ge, List.getElem?_cons_zero, List.getElem?_cons_succ, List.set_cons_zero, List.set_cons_succ, if_true, if_false, reduceIte, decide_true, decide_false, end_ret, end_nx, List.length_cons, List.length_nil, Nat.zero_add, Nat.reduceAdd, Nat.reduceLT, Nat.reduceLeDiff, Nat.zero_le, and_self, h8r, getB_0o, len_l, c0, eq_int, Bool.false_eq_true, z0, z1, z2, ha, hg]
theorem li1_run (h8 : Has T 8 f_length_in) (c0 : T.consts[0]? = some (.int 6)) (c1 : T.consts[1]? = some (.int 60)) {s : Dv.D} : ∀ (ns acc : List Nat) (i : Nat) (s2 s3 s4 : Slot), (acc ++ ns).Pairwise (· < ·) → (∀ n ∈ ns, 1 ≤ n ∧ n ≤ 60) → (acc ++ ns).length ≤ 6 →
    ∃ u2 u3 u4, forL (fun ρ cs => sm T (run T (k + 1)) li1 ρ cs) [2, 3] false (enumD i (ns.map fun n => .str (wd n))) [.val s, .own (.lst (acc.map nD)), s2, s3, s4] cs = .ok (.nx [.val s, .own (.lst ((acc ++ ns).map nD)), u2, u3, u4]) cs
  | [], acc, i, s2, s3, s4, _, _, _ => ⟨s2, s3, s4, by rw [List.append_nil]; rfl⟩
  | n :: ns, acc, i, s2, s3, s4, hp, hb, hl => by
    have e : acc ++ n :: ns = (acc ++ [n]) ++ ns := by simp
    obtain ⟨u2, u3, u4, e2⟩ := li1_run h8 c0 c1 ns (acc ++ [n]) (i + 1) (.val (.int i)) (.val (.str (wd n))) (.val (.int n)) (by rw [← e]; exact hp) (fun x hx => hb x (List.mem_cons_of_mem _ hx)) (by rw [← e]; exact hl)
    refine ⟨u2, u3, u4, ?_⟩
    have h8r := r_length_in (k := k) (cs := cs) h8 c1 (hb n List.mem_cons_self)
    have q6 : ¬ ((acc.length : Int) = 6) := by simp at hl; omega
    have hm : (acc ++ [n]).map nD = acc.map nD ++ [.int (n : Int)] := by simp
    have hz : acc.length + 1 ≤ sizeLine := Nat.le_trans (by simp at hl; omega) (show 6 ≤ sizeLine by decide)
    have e1 : sm T (run T (k + 1)) li1 [.val s, .own (.lst (acc.map nD)), .val (.int i), .val (.str (wd n)), s4] cs = .ok (.nx [.val s, .own (.lst ((acc ++ [n]).map nD)), .val (.int i), .val (.str (wd n)), .val (.int n)]) cs := by
      rw [hm]
      cases acc with
      | nil => exact li1_nil h8r c0
      | cons a acc =>
        have ha : ∀ O cs, subD T O (.lst ((a :: acc).map nD)) (.int (-1)) cs = .ok (nD ((a :: acc).getLast (by simp))) cs := fun O cs => by
          show ofRes cs (atI ((a :: acc).map nD) (-1)) = _
          rw [at_last (by simp)]
          rfl
        have hg : ¬ ((n : Int) ≤ (((a :: acc).getLast (by simp) : Nat) : Int)) := by
          have := (List.pairwise_append.mp hp).2.2 _ (List.getLast_mem (l := a :: acc) (by simp)) n List.mem_cons_self
          omega
        exact li1_cons h8r c0 ha hg (by simp at hl ⊢; omega) (by simp)
    rw [List.map_cons, enumD, forL]
    show (sm T (run T (k + 1)) li1 [.val s, .own (.lst (acc.map nD)), .val (.int i), .val (.str (wd n)), s4] cs).bind _ = _
    rw [e1, e]
    exact e2
theorem joinW {ns : List Nat} (h : ∀ n ∈ ns, 1 ≤ n ∧ n ≤ 60) : ((ns.map wd).map (·.length)).sum ≤ 2 * ns.length := by
  induction ns with
  | nil => exact Nat.le_refl _
  | cons n ns ih =>
    have h1 := wd_len (h n List.mem_cons_self)
    have h2 := ih fun x hx => h x (List.mem_cons_of_mem _ hx)
    simp only [List.map_cons, List.sum_cons, List.length_cons]
    omega
theorem txt_len {ns : List Nat} (h : ∀ n ∈ ns, 1 ≤ n ∧ n ≤ 60) : (txtL ns).length ≤ 3 * ns.length := by
  unfold txtL
  rw [TL.join_eq]
  induction ns with
  | nil => exact Nat.le_refl _
  | cons n ns ih =>
    have h1 := wd_len (h n List.mem_cons_self)
    have h2 := ih fun x hx => h x (List.mem_cons_of_mem _ hx)
    cases ns with
    | nil => 
      show (wd n).length ≤ 3
      omega
    | cons m ns =>
      show (wd n ++ (" " : Str) ++ Str.join " " ((m :: ns).map wd)).length ≤ _
      rw [Str.length_append, Str.length_append]
      show (wd n).length + 1 + _ ≤ _
      simp only [List.length_cons] at *
      omega
theorem r_lengths_in (h8 : Has T 8 f_length_in) (h9 : Has T 9 f_lengths_in) (c0 : T.consts[0]? = some (.int 6)) (c1 : T.consts[1]? = some (.int 60)) {ns : List Nat} (hp : ns.Pairwise (· < ·)) (hb : ∀ n ∈ ns, 1 ≤ n ∧ n ≤ 60) (hl : ns.length ≤ 6) (hne : ns ≠ []) : run T (k + 2) false 9 [.str (txtL ns)] cs = .ok (.lst (ns.map nD)) cs := by
  obtain ⟨u2, u3, u4, e⟩ := li1_run (k := k) (cs := cs) h8 c0 c1 (s := .str (txtL ns)) ns [] 0 .emp .emp .emp hp hb hl
  rw [run_of (ρ := [.val (.str (txtL ns)), .emp, .emp, .emp, .emp]) h9.at_ rfl rfl, li_body]
  have hs : splitD (txtL ns) (.str " ") cs = .ok (.lst (ns.map fun n => .str (wd n))) cs := by
    have hz : ¬ ((" " : Str).length = 0 ∨ sizeLine < (txtL ns).length + 2) := by
      have := txt_len hb
      have e : (" " : Str).length = 1 := by decide +kernel
      have : 20 ≤ sizeLine := by decide
      omega
    show (if (" " : Str).length = 0 ∨ sizeLine < (txtL ns).length + 2 then Res.bad else _) = _
    rw [if_neg hz, split_txt hb hne, List.map_map]
    rfl
  have e : forF (fun ρ cs => sm T (run T (k + 1)) li1 ρ cs) [2, 3] false (enumD 0 (ns.map fun n => .str (wd n))) [.val (.str (txtL ns)), .own (.lst []), .emp, .emp, .emp] cs = _ := e
  have hi : isiD T [.str] (.str (txtL ns)) cs = .ok (.bl true) cs := rfl
  simp only [sm, thenF_nx, thenF_ret, thenF_brk, thenF_cnt, den, ofVT, ofVB, noDen, baseA, cmpD, bltD, bind_ok, ofRes_some, getV_0, getV_s, getB_0, getB_s, truth_bl, truth_int, cmp_lt, cmp_le, cmp_gt, cmp_ge, List.getElem?_cons_zero, List.getElem?_cons_succ, List.set_cons_zero, List.set_cons_succ, if_true, if_false, reduceIte, decide_true, decide_false, end_ret, end_nx, List.length_cons, List.length_nil, Nat.zero_add, Nat.reduceAdd, Nat.reduceLT, Nat.reduceLeDiff, Nat.zero_le, and_self, hi, Bool.not_true, Bool.false_eq_true, hs, items_lst, Option.map_some, e]
  rfl
end Pk
end
section
set_option Elab.async false
set_option linter.all false
set_option maxRecDepth 100000
set_option maxHeartbeats 400000
namespace Pk
open PySem PySem.Spec PyProof.Rows L2 Dv
variable {T : Tab} {O : Orc} {k : Nat} {cs : Cells} {l0 : Nat} {L : List Nat} {F : FT}
theorem ddp_id : ∀ (ns acc : List Int), (acc ++ ns).Nodup → ddp acc ns = acc ++ ns
  | [], acc, _ => by rw [List.append_nil]; rfl
  | n :: ns, acc, h => by
    have hn : n ∉ acc := fun q => by
      rw [List.nodup_append] at h
      exact h.2.2 n q n List.mem_cons_self rfl
    unfold ddp
    rw [if_neg hn, ddp_id ns (acc ++ [n]) (by simpa using h)]
    simp
theorem asc_id {xs : List Int} (h : xs.Pairwise (· < ·)) : asc xs = xs := by
  unfold asc
  rw [ddp_id xs [] (by rw [List.nil_append]; exact h.imp fun h e => by omega), List.nil_append]
  exact List.mergeSort_of_pairwise (h.imp fun h => by simp; omega)
structure HasRd (T : Tab) : Prop extends HasLen T where
  f8 : Has T 8 f_length_in
  f9 : Has T 9 f_lengths_in
  f21 : Has T 21 f_Lengths_read
theorem r_read (H : HasRd T) (hp : (l0 :: L).Pairwise (· < ·)) (hb : ∀ n ∈ l0 :: L, 1 ≤ n ∧ n ≤ 60) (hl : (l0 :: L).length ≤ 6) : ∃ F, run T (k + 5) false 21 [.cls 0, .str (txtL (l0 :: L))] cs = .ok (lenD l0 L F) cs ∧ LenOk l0 L F := by
  have hpi : ((l0 :: L).map fun (n : Nat) => (n : Int)).Pairwise (· < ·) := by
    rw [List.pairwise_map]
    exact hp.imp fun h => by omega
  obtain ⟨F, e, hF⟩ := r_lengths (k := k) (cs := cs) H.toHasLen ((l0 :: L).map fun (n : Nat) => (n : Int)) (fun n hn => by
    obtain ⟨m, hm, rfl⟩ := List.mem_map.mp hn
    have := hb m hm
    omega) l0 L (asc_id hpi) hl (by rw [List.length_map]; exact Nat.lt_of_le_of_lt hl (by decide))
  refine ⟨F, ?_, hF⟩
  rw [← map_nI] at e
  have e9 := r_lengths_in (k := k + 2) (cs := cs) H.f8 H.f9 H.c0 H.c1 hp hb hl (by simp)
  obtain ⟨c, c1, c2, c3⟩ := H.c
  rw [run_of (ρ := [.val (.cls 0), .val (.str (txtL (l0 :: L))), .emp]) H.f21.at_ rfl rfl]
  have e9 : run T (k + 4) false 9 [.str (txtL (l0 :: L))] cs = _ := e9
  unfold f_Lengths_read
  simp only [sm, thenF_nx, thenF_ret, thenF_brk, thenF_cnt, den, ofVT, ofVB, noDen, baseA, cmpD, bltD, bind_ok, ofRes_some, getV_0, getV_s, getB_0, getB_s, truth_bl, truth_int, cmp_lt, cmp_le, cmp_gt, cmp_ge, List.getElem?_cons_zero, List.getElem?_cons_succ, List.set_cons_zero, List.set_cons_succ, if_true, if_false, reduceIte, decide_true, decide_false, end_ret, end_nx, List.length_cons, List.length_nil, Nat.zero_add, Nat.reduceAdd, Nat.reduceLT, Nat.reduceLeDiff, Nat.zero_le, and_self, e9, c1, c3, seq_lst, List.append_nil, e]
/-! ### books -/
def bookD (room low bound : Nat) (lk ct sd : Str) (l0 : Nat) (L : List Nat) (F : FT) : Dv.D := .ins 1 [(4, nD room), (5, lenD l0 L F), (6, nD low), (7, nD bound), (8, .str lk), (9, .str ct), (10, .str sd), (11, .tup ((totL F l0 room).map nD))]
def looksD : Dv.D := .tup [.str "own", .str "near"]
def cutsD : Dv.D := .tup [.str "even", .str "ahead", .str "put"]
def sidesD : Dv.D := .tup [.str "left", .str "right"]
structure HasBook (T : Tab) : Prop extends HasTot T where
  f11 : Has T 11 f_need_word
  f37 : Has T 37 f_Book_init
  f39 : Has T 39 f_Book_sums
  f34 : Has T 34 f_Lengths_eq
  f44 : Has T 44 f_Book_eq
  c4 : T.consts[4]? = some (.int 60)
  b : ∃ k, T.cls[1]? = some k ∧ k.mutb = false ∧ k.init = some 37 ∧ k.cvs.lookup 16 = some looksD ∧ k.cvs.lookup 17 = some cutsD ∧ k.cvs.lookup 18 = some sidesD ∧ k.anc.contains 1 = true ∧ k.props.lookup 21 = some 39
  atb : ∀ j, 4 ≤ j → j < 12 → okAt T 1 j = true
  mEqB : methOf T 1 nEq = some 44
  mEqL : methOf T 0 nEq = some 34
  ancL : ∃ c, T.cls[0]? = some c ∧ c.anc.contains 0 = true
theorem HasBook.mut (h : HasBook T) : mutOf T 1 = false := by
  obtain ⟨c, h1, h2, _⟩ := h.b
  unfold mutOf
  rw [h1]
  exact h2
theorem isi_lenB (H : HasBook T) : isiD T [.cls 0] (lenD l0 L F) cs = .ok (.bl true) cs := by
  obtain ⟨c, h1, h2⟩ := H.ancL
  have e1 : tyOk T (lenD l0 L F) cs = true := by
    show (T.cls[0]?).isSome = true
    rw [h1]
    rfl
  have e2 : tyThere T (.cls 0) = true := by
    show (T.cls[0]?).isSome = true
    rw [h1]
    rfl
  have e3 : isTy T (lenD l0 L F) cs (.cls 0) = true := by
    show (match T.cls[0]? with
      | some cl => cl.anc.contains 0
      | none => false) = true
    rw [h1]
    exact h2
  unfold isiD
  rw [e1]
  simp only [List.all_cons, List.all_nil, e2, Bool.and_self, and_self, if_true, List.any_cons, e3, List.any_nil, Bool.or_false]
theorem r_need_word (h11 : Has T 11 f_need_word) {w part : Str} {ds : List Dv.D} (hi : isIn1 (.str w) (.tup ds) = some true) : run T (k + 1) false 11 [.str w, .tup ds, .str part] cs = .ok .non cs := by
  have e : isiD T [.str] (.str w) cs = .ok (.bl true) cs := rfl
  have hc : clsOf (.tup ds) cs = none := rfl
  rw [run_of (ρ := [.val (.str w), .val (.tup ds), .val (.str part)]) h11.at_ rfl rfl]
  unfold f_need_word
  simp only [sm, thenF_nx, thenF_ret, thenF_brk, thenF_cnt, den, ofVT, ofVB, noDen, baseA, cmpD, bltD, bind_ok, ofRes_some, getV_0, getV_s, getB_0, getB_s, truth_bl, truth_int, cmp_lt, cmp_le, cmp_gt, cmp_ge, List.getElem?_cons_zero, List.getElem?_cons_succ, List.set_cons_zero, List.set_cons_succ, if_true, if_false, reduceIte, decide_true, decide_false, end_ret, end_nx, List.length_cons, List.length_nil, Nat.zero_add, Nat.reduceAdd, Nat.reduceLT, Nat.reduceLeDiff, Nat.zero_le, and_self, e, Bool.not_true, Bool.false_eq_true, hc, deref_tup, hi, Option.map_some]
def bi2 : Sm := (.seq (.setA 0 4 (.var 1)) (.seq (.setA 0 5 (.var 2)) (.seq (.setA 0 6 (.var 3)) (.seq (.setA 0 7 (.var 4)) (.seq (.setA 0 8 (.var 5)) (.seq (.setA 0 9 (.var 6)) (.seq (.setA 0 10 (.var 7)) (.seq (.setA 0 11 (.meth 15 (.var 2) (.cons (.var 1) .nil))) .skip))))))))
def bi1 (r : Sm) : Sm := (.seq (.ite (.not (.call 1 (.cons (.var 1) (.cons (.int 2) (.cons (.glob 4) .nil))))) (.seq .never .skip) .skip) (.seq (.ite (.or (.not (.isi (.var 2) [.cls 0])) (.cmp .gt (.bin .add (.attr (.var 2) 1) (.attr (.var 2) 2)) (.var 1))) (.seq .never .skip) .skip) (.seq (.ite (.not (.call 1 (.cons (.var 3) (.cons (.int 0) (.cons (.bin .add (.var 1) (.int 1)) .nil))))) (.seq .never .skip) .skip) (.seq (.ite (.not (.call 1 (.cons (.var 4) (.cons (.int 0) (.cons (.var 1) .nil))))) (.seq .never .skip) .skip) (.seq (.ex (.call 11 (.cons (.var 5) (.cons (.cval 1 16) (.cons (.str "looks") .nil))))) (.seq (.ex (.call 11 (.cons (.var 6) (.cons (.cval 1 17) (.cons (.str "cut") .nil))))) (.seq (.ex (.call 11 (.cons (.var 7) (.cons (.cval 1 18) (.cons (.str "side") .nil))))) r)))))))
theorem bi_body : f_Book_init.body = bi1 bi2 := rfl
abbrev biE (s : Slot) (room low bound : Nat) (lk ct sd : Str) (l0 : Nat) (L : List Nat) (F : FT) : Dv.Env := [s, .val (nD room), .val (lenD l0 L F), .val (nD low), .val (nD bound), .val (.str lk), .val (.str ct), .val (.str sd)]
variable {room low bound : Nat} {lk ct sd : Str}
theorem pb4 (a : Dv.D) : putA 4 a [] = [(4, a)] := rfl
theorem pb5 (a b : Dv.D) : putA 5 b [(4, a)] = [(4, a), (5, b)] := rfl
theorem pb6 (a b c : Dv.D) : putA 6 c [(4, a), (5, b)] = [(4, a), (5, b), (6, c)] := rfl
theorem pb7 (a b c d : Dv.D) : putA 7 d [(4, a), (5, b), (6, c)] = [(4, a), (5, b), (6, c), (7, d)] := rfl
theorem pb8 (a b c d e : Dv.D) : putA 8 e [(4, a), (5, b), (6, c), (7, d)] = [(4, a), (5, b), (6, c), (7, d), (8, e)] := rfl
theorem pb9 (a b c d e f : Dv.D) : putA 9 f [(4, a), (5, b), (6, c), (7, d), (8, e)] = [(4, a), (5, b), (6, c), (7, d), (8, e), (9, f)] := rfl
theorem pb10 (a b c d e f g : Dv.D) : putA 10 g [(4, a), (5, b), (6, c), (7, d), (8, e), (9, f)] = [(4, a), (5, b), (6, c), (7, d), (8, e), (9, f), (10, g)] := rfl
theorem pb11 (a b c d e f g h : Dv.D) : putA 11 h [(4, a), (5, b), (6, c), (7, d), (8, e), (9, f), (10, g)] = [(4, a), (5, b), (6, c), (7, d), (8, e), (9, f), (10, g), (11, h)] := rfl
theorem bi2_run (H : HasBook T) (h : LenOk l0 L F) (hr : room ≤ 60) : sm T (run T (k + 4)) bi2 (biE (.own (.ins 1 [])) room low bound lk ct sd l0 L F) cs = .ok (.nx (biE (.own (bookD room low bound lk ct sd l0 L F)) room low bound lk ct sd l0 L F)) cs := by
  have ht := r_totals (k := k) (cs := cs) H.toHasTot h hr
  have hm : methF T 15 (lenD l0 L F) cs = some 29 := H.m15
  have a4 := H.atb 4 (by decide) (by decide)
  have a5 := H.atb 5 (by decide) (by decide)
  have a6 := H.atb 6 (by decide) (by decide)
  have a7 := H.atb 7 (by decide) (by decide)
  have a8 := H.atb 8 (by decide) (by decide)
  have a9 := H.atb 9 (by decide) (by decide)
  have a10 := H.atb 10 (by decide) (by decide)
  have a11 := H.atb 11 (by decide) (by decide)
  unfold bi2
  simp only [sm, thenF_nx, thenF_ret, thenF_brk, thenF_cnt, den, ofVT, ofVB, noDen, baseA, cmpD, bltD, bind_ok, ofRes_some, getV_0, getV_s, getB_0, getB_s, truth_bl, truth_int, cmp_lt, cmp_le, cmp_gt, cmp_ge, List.getElem?_cons_zero, List.getElem?_cons_succ, List.set_cons_zero, List.set_cons_succ, if_true, if_false, reduceIte, decide_true, decide_false, end_ret, end_nx, List.length_cons, List.length_nil, Nat.zero_add, Nat.reduceAdd, Nat.reduceLT, Nat.reduceLeDiff, Nat.zero_le, and_self, a4, a5, a6, a7, a8, a9, a10, a11, pb4, pb5, pb6, pb7, pb8, pb9, pb10, pb11, hm, ht]
  rfl
theorem bi1_run (H : HasBook T) (h : LenOk l0 L F) (hr : 2 ≤ room ∧ room ≤ 60) (hl : l0 + (l0 :: L).getLast (by simp) ≤ room) (hlo : low ≤ room + 1) (hbo : bound ≤ room) (h5 : isIn1 (.str lk) looksD = some true) (h6 : isIn1 (.str ct) cutsD = some true) (h7 : isIn1 (.str sd) sidesD = some true) (r : Sm) (s : Slot) :
    sm T (run T (k + 4)) (bi1 r) (biE s room low bound lk ct sd l0 L F) cs = sm T (run T (k + 4)) r (biE s room low bound lk ct sd l0 L F) cs := by
  have w1 := r_within (k := k + 2) H.f0 H.f1 room 2 60 cs
  have w2 := r_within (k := k + 2) H.f0 H.f1 low 0 (room + 1) cs
  have w3 := r_within (k := k + 2) H.f0 H.f1 bound 0 room cs
  have n1 : (2 : Int) ≤ (room : Int) := by omega
  have n2 : (room : Int) ≤ 60 := by omega
  have n3 : (0 : Int) ≤ (low : Int) := by omega
  have n4 : (low : Int) ≤ (room : Int) + 1 := by omega
  have n5 : (0 : Int) ≤ (bound : Int) := by omega
  have n6 : (bound : Int) ≤ (room : Int) := by omega
  have n7 : ¬ ((room : Int) < (l0 : Int) + (((l0 :: L).getLast (by simp) : Nat) : Int)) := by omega
  have hi := isi_lenB (cs := cs) (l0 := l0) (L := L) (F := F) H
  have a1 := H.at_ 1 (by decide)
  have a2 := H.at_ 2 (by decide)
  obtain ⟨c, b1, _, _, v1, v2, v3, _⟩ := H.b
  have q5 := r_need_word (k := k + 3) (cs := cs) (part := "looks") H.f11 h5
  have q6 := r_need_word (k := k + 3) (cs := cs) (part := "cut") H.f11 h6
  have q7 := r_need_word (k := k + 3) (cs := cs) (part := "side") H.f11 h7
  have q5 : run T (k + 4) false 11 [.str lk, looksD, .str "looks"] cs = _ := q5
  have q6 : run T (k + 4) false 11 [.str ct, cutsD, .str "cut"] cs = _ := q6
  have q7 : run T (k + 4) false 11 [.str sd, sidesD, .str "side"] cs = _ := q7
  have dl : ∀ cs, deref (lenD l0 L F) cs = .ins 0 [(0, .tup ((l0 :: L).map nD)), (1, nD l0), (2, nD ((l0 :: L).getLast (by simp))), (3, .lst (F.map oD))] := fun _ => rfl
  unfold bi1
  simp only [sm, thenF_nx, thenF_ret, thenF_brk, thenF_cnt, den, ofVT, ofVB, noDen, baseA, cmpD, bltD, bind_ok, ofRes_some, getV_0, getV_s, getB_0, getB_s, truth_bl, truth_int, cmp_lt, cmp_le, cmp_gt, cmp_ge, List.getElem?_cons_zero, List.getElem?_cons_succ, List.set_cons_zero, List.set_cons_succ, if_true, if_false, reduceIte, decide_true, decide_false, end_ret, end_nx, List.length_cons, List.length_nil, Nat.zero_add, Nat.reduceAdd, Nat.reduceLT, Nat.reduceLeDiff, Nat.zero_le, and_self, H.c4, w1, n1, n2, Bool.and_self, Bool.not_true, Bool.false_eq_true, hi, bin_add, w2, n3, n4, w3, n5, n6, b1, v1, v2, v3, Option.bind_some, q5, q6, q7, getA_0, getA_s, dl, a1, a2, attr1, attr2, n7]
theorem r_book (H : HasBook T) (h : LenOk l0 L F) (hr : 2 ≤ room ∧ room ≤ 60) (hl : l0 + (l0 :: L).getLast (by simp) ≤ room) (hlo : low ≤ room + 1) (hbo : bound ≤ room) (h5 : isIn1 (.str lk) looksD = some true) (h6 : isIn1 (.str ct) cutsD = some true) (h7 : isIn1 (.str sd) sidesD = some true) :
    run T (k + 5) true 37 [nD room, lenD l0 L F, nD low, nD bound, .str lk, .str ct, .str sd] cs = .ok (bookD room low bound lk ct sd l0 L F) cs := by
  rw [run_ini (ρ := biE (.own (.ins 1 [])) room low bound lk ct sd l0 L F) H.f37.at_ rfl (by decide) rfl, bi_body, bi1_run H h hr hl hlo hbo h5 h6 h7, bi2_run H h hr.2]
  simp only [sm, thenF_nx, thenF_ret, thenF_brk, thenF_cnt, den, ofVT, ofVB, noDen, baseA, cmpD, bltD, bind_ok, ofRes_some, getV_0, getV_s, getB_0, getB_s, truth_bl, truth_int, cmp_lt, cmp_le, cmp_gt, cmp_ge, List.getElem?_cons_zero, List.getElem?_cons_succ, List.set_cons_zero, List.set_cons_succ, if_true, if_false, reduceIte, decide_true, decide_false, end_ret, end_nx, List.length_cons, List.length_nil, Nat.zero_add, Nat.reduceAdd, Nat.reduceLT, Nat.reduceLeDiff, Nat.zero_le, and_self, endI, H.mut]
  rfl
end Pk
end
section
set_option Elab.async false
set_option linter.all false
set_option maxRecDepth 100000
set_option maxHeartbeats 400000
namespace Pk
open PySem PySem.Spec PyProof.Rows L2 Dv
variable {T : Tab} {O : Orc} {k : Nat} {cs : Cells} {l0 : Nat} {L : List Nat} {F : FT} {room low bound : Nat} {lk ct sd : Str}
/-- what is no integer -/
def NoInt (d : Dv.D) : Prop := match d with
  | .non | .str _ | .bl _ | .tup _ | .lst _ | .dic [] => True
  | _ => False
theorem r_integer_no (h0 : Has T 0 f_is_integer) {d : Dv.D} (h : NoInt d) (cs : Cells) : run T (k + 1) false 0 [d] cs = .ok (.bl false) cs := by
  rw [run_of (ρ := [.val d]) h0.at_ rfl rfl]
  cases d <;> first | rfl | (exact False.elim h) | (rename_i kvs; cases kvs <;> first | rfl | (exact False.elim h))
theorem r_within_no (h0 : Has T 0 f_is_integer) (h1 : Has T 1 f_is_within) {d : Dv.D} (h : NoInt d) (a b : Int) (cs : Cells) : run T (k + 2) false 1 [d, .int a, .int b] cs = .ok (.bl false) cs := by
  have e := r_integer_no (k := k) h0 h cs
  rw [run_of (ρ := [.val d, .val (.int a), .val (.int b)]) h1.at_ rfl rfl]
  unfold f_is_within
  simp only [sm, thenF_nx, thenF_ret, thenF_brk, thenF_cnt, den, ofVT, ofVB, noDen, baseA, cmpD, bltD, bind_ok, ofRes_some, getV_0, getV_s, getB_0, getB_s, truth_bl, truth_int, cmp_lt, cmp_le, cmp_gt, cmp_ge, List.getElem?_cons_zero, List.getElem?_cons_succ, List.set_cons_zero, List.set_cons_succ, if_true, if_false, reduceIte, decide_true, decide_false, end_ret, end_nx, List.length_cons, List.length_nil, Nat.zero_add, Nat.reduceAdd, Nat.reduceLT, Nat.reduceLeDiff, Nat.zero_le, and_self, e, Bool.false_eq_true]
theorem bk4 (a b c d e f g h : Dv.D) : List.lookup 4 [((4 : Nat), a), (5, b), (6, c), (7, d), (8, e), (9, f), (10, g), (11, h)] = some a := rfl
theorem bk5 (a b c d e f g h : Dv.D) : List.lookup 5 [((4 : Nat), a), (5, b), (6, c), (7, d), (8, e), (9, f), (10, g), (11, h)] = some b := rfl
theorem bk6 (a b c d e f g h : Dv.D) : List.lookup 6 [((4 : Nat), a), (5, b), (6, c), (7, d), (8, e), (9, f), (10, g), (11, h)] = some c := rfl
theorem bk7 (a b c d e f g h : Dv.D) : List.lookup 7 [((4 : Nat), a), (5, b), (6, c), (7, d), (8, e), (9, f), (10, g), (11, h)] = some d := rfl
theorem bk8 (a b c d e f g h : Dv.D) : List.lookup 8 [((4 : Nat), a), (5, b), (6, c), (7, d), (8, e), (9, f), (10, g), (11, h)] = some e := rfl
theorem bk9 (a b c d e f g h : Dv.D) : List.lookup 9 [((4 : Nat), a), (5, b), (6, c), (7, d), (8, e), (9, f), (10, g), (11, h)] = some f := rfl
theorem bk10 (a b c d e f g h : Dv.D) : List.lookup 10 [((4 : Nat), a), (5, b), (6, c), (7, d), (8, e), (9, f), (10, g), (11, h)] = some g := rfl
theorem bk11 (a b c d e f g h : Dv.D) : List.lookup 11 [((4 : Nat), a), (5, b), (6, c), (7, d), (8, e), (9, f), (10, g), (11, h)] = some h := rfl
theorem dbk (room low bound : Nat) (lk ct sd : Str) (l0 : Nat) (L : List Nat) (F : FT) (cs : Cells) : deref (bookD room low bound lk ct sd l0 L F) cs = .ins 1 [(4, nD room), (5, lenD l0 L F), (6, nD low), (7, nD bound), (8, .str lk), (9, .str ct), (10, .str sd), (11, .tup ((totL F l0 room).map nD))] := rfl
structure HasLow (T : Tab) : Prop extends HasBook T where
  f40 : Has T 40 f_Book_is_low
  m19 : methOf T 1 19 = some 40
theorem r_low (H : HasLow T) (n : Int) : run T (k + 3) false 40 [bookD room low bound lk ct sd l0 L F, .int n] cs = .ok (.bl (decide (0 ≤ n) && decide (n ≤ room) && decide (n < low))) cs := by
  have w := r_within (k := k) H.f0 H.f1 n 0 room cs
  have a4 := H.atb 4 (by decide) (by decide)
  have a6 := H.atb 6 (by decide) (by decide)
  rw [run_of (ρ := [.val (bookD room low bound lk ct sd l0 L F), .val (.int n)]) H.f40.at_ rfl rfl]
  unfold f_Book_is_low
  cases q : (decide (0 ≤ n) && decide (n ≤ (room : Int))) with
  | true =>
    rw [q] at w
    simp only [sm, thenF_nx, thenF_ret, thenF_brk, thenF_cnt, den, ofVT, ofVB, noDen, baseA, cmpD, bltD, bind_ok, ofRes_some, getV_0, getV_s, getB_0, getB_s, truth_bl, truth_int, cmp_lt, cmp_le, cmp_gt, cmp_ge, List.getElem?_cons_zero, List.getElem?_cons_succ, List.set_cons_zero, List.set_cons_succ, if_true, if_false, reduceIte, decide_true, decide_false, end_ret, end_nx, List.length_cons, List.length_nil, Nat.zero_add, Nat.reduceAdd, Nat.reduceLT, Nat.reduceLeDiff, Nat.zero_le, and_self, Bool.not_true, Bool.not_false, Bool.false_eq_true, items_lst, items_tup, deref_lst, deref_tup, deref_str, deref_int, getA_0, getA_s, dbk, a4, bk4, w, a6, bk6, Bool.true_and]
  | false =>
    rw [q] at w
    simp only [sm, thenF_nx, thenF_ret, thenF_brk, thenF_cnt, den, ofVT, ofVB, noDen, baseA, cmpD, bltD, bind_ok, ofRes_some, getV_0, getV_s, getB_0, getB_s, truth_bl, truth_int, cmp_lt, cmp_le, cmp_gt, cmp_ge, List.getElem?_cons_zero, List.getElem?_cons_succ, List.set_cons_zero, List.set_cons_succ, if_true, if_false, reduceIte, decide_true, decide_false, end_ret, end_nx, List.length_cons, List.length_nil, Nat.zero_add, Nat.reduceAdd, Nat.reduceLT, Nat.reduceLeDiff, Nat.zero_le, and_self, Bool.not_true, Bool.not_false, Bool.false_eq_true, items_lst, items_tup, deref_lst, deref_tup, deref_str, deref_int, getA_0, getA_s, dbk, a4, bk4, w, a6, bk6, Bool.false_and]
theorem r_low_no (H : HasLow T) {d : Dv.D} (h : NoInt d) : run T (k + 3) false 40 [bookD room low bound lk ct sd l0 L F, d] cs = .ok (.bl false) cs := by
  have w := r_within_no (k := k) H.f0 H.f1 h 0 room cs
  have a4 := H.atb 4 (by decide) (by decide)
  rw [run_of (ρ := [.val (bookD room low bound lk ct sd l0 L F), .val d]) H.f40.at_ rfl rfl]
  unfold f_Book_is_low
  simp only [sm, thenF_nx, thenF_ret, thenF_brk, thenF_cnt, den, ofVT, ofVB, noDen, baseA, cmpD, bltD, bind_ok, ofRes_some, getV_0, getV_s, getB_0, getB_s, truth_bl, truth_int, cmp_lt, cmp_le, cmp_gt, cmp_ge, List.getElem?_cons_zero, List.getElem?_cons_succ, List.set_cons_zero, List.set_cons_succ, if_true, if_false, reduceIte, decide_true, decide_false, end_ret, end_nx, List.length_cons, List.length_nil, Nat.zero_add, Nat.reduceAdd, Nat.reduceLT, Nat.reduceLeDiff, Nat.zero_le, and_self, Bool.not_true, Bool.not_false, Bool.false_eq_true, items_lst, items_tup, deref_lst, deref_tup, deref_str, deref_int, getA_0, getA_s, dbk, a4, bk4, w]
theorem r_sums (H : HasBook T) : run T (k + 1) false 39 [bookD room low bound lk ct sd l0 L F] cs = .ok (.tup ((totL F l0 room).map nD)) cs := by
  have a11 := H.atb 11 (by decide) (by decide)
  rw [run_of (ρ := [.val (bookD room low bound lk ct sd l0 L F)]) H.f39.at_ rfl rfl]
  unfold f_Book_sums
  simp only [sm, thenF_nx, thenF_ret, thenF_brk, thenF_cnt, den, ofVT, ofVB, noDen, baseA, cmpD, bltD, bind_ok, ofRes_some, getV_0, getV_s, getB_0, getB_s, truth_bl, truth_int, cmp_lt, cmp_le, cmp_gt, cmp_ge, List.getElem?_cons_zero, List.getElem?_cons_succ, List.set_cons_zero, List.set_cons_succ, if_true, if_false, reduceIte, decide_true, decide_false, end_ret, end_nx, List.length_cons, List.length_nil, Nat.zero_add, Nat.reduceAdd, Nat.reduceLT, Nat.reduceLeDiff, Nat.zero_le, and_self, Bool.not_true, Bool.not_false, Bool.false_eq_true, items_lst, items_tup, deref_lst, deref_tup, deref_str, deref_int, getA_0, getA_s, dbk, a11, bk11]
theorem isi_book (H : HasBook T) : isiD T [.cls 1] (bookD room low bound lk ct sd l0 L F) cs = .ok (.bl true) cs := by
  obtain ⟨c, h1, _, _, _, _, _, h2, _⟩ := H.b
  have e1 : tyOk T (bookD room low bound lk ct sd l0 L F) cs = true := by
    show (T.cls[1]?).isSome = true
    rw [h1]
    rfl
  have e2 : tyThere T (.cls 1) = true := by
    show (T.cls[1]?).isSome = true
    rw [h1]
    rfl
  have e3 : isTy T (bookD room low bound lk ct sd l0 L F) cs (.cls 1) = true := by
    show (match T.cls[1]? with
      | some cl => cl.anc.contains 1
      | none => false) = true
    rw [h1]
    exact h2
  unfold isiD
  rw [e1]
  simp only [List.all_cons, List.all_nil, e2, Bool.and_self, and_self, if_true, List.any_cons, e3, List.any_nil, Bool.or_false]
theorem r_eqL (H : HasBook T) {l0' : Nat} {L' : List Nat} {F' : FT} : run T (k + 1) false 34 [lenD l0 L F, lenD l0' L' F'] cs = .ok (.bl (decide (l0 :: L = l0' :: L'))) cs := by
  have a0 := H.at_ 0 (by decide)
  have hi := isi_lenB (cs := cs) (l0 := l0') (L := L') (F := F') H
  have he : ∀ O cs, eqD T O (.tup ((l0 :: L).map nD)) (.tup ((l0' :: L').map nD)) cs = .ok (decide (l0 :: L = l0' :: L')) cs := fun O cs => by
    classical
    rw [eqD_pl T O (n := 1) (m := 1) (by simp only [pl]; exact pls_map fun _ _ => by simp [pl]) (by simp only [pl]; exact pls_map fun _ _ => by simp [pl]) (by decide) (by decide)]
    congr 1
    rw [decide_eq_decide]
    exact tup_inj
  rw [run_of (ρ := [.val (lenD l0 L F), .val (lenD l0' L' F')]) H.f34.at_ rfl rfl]
  unfold f_Lengths_eq
  simp only [sm, thenF_nx, thenF_ret, thenF_brk, thenF_cnt, den, ofVT, ofVB, noDen, baseA, cmpD, bltD, bind_ok, ofRes_some, getV_0, getV_s, getB_0, getB_s, truth_bl, truth_int, cmp_lt, cmp_le, cmp_gt, cmp_ge, List.getElem?_cons_zero, List.getElem?_cons_succ, List.set_cons_zero, List.set_cons_succ, if_true, if_false, reduceIte, decide_true, decide_false, end_ret, end_nx, List.length_cons, List.length_nil, Nat.zero_add, Nat.reduceAdd, Nat.reduceLT, Nat.reduceLeDiff, Nat.zero_le, and_self, hi]
  unfold lenD
  simp only [sm, thenF_nx, thenF_ret, thenF_brk, thenF_cnt, den, ofVT, ofVB, noDen, baseA, cmpD, bltD, bind_ok, ofRes_some, getV_0, getV_s, getB_0, getB_s, truth_bl, truth_int, cmp_lt, cmp_le, cmp_gt, cmp_ge, List.getElem?_cons_zero, List.getElem?_cons_succ, List.set_cons_zero, List.set_cons_succ, if_true, if_false, reduceIte, decide_true, decide_false, end_ret, end_nx, List.length_cons, List.length_nil, Nat.zero_add, Nat.reduceAdd, Nat.reduceLT, Nat.reduceLeDiff, Nat.zero_le, and_self, getA_0, getA_s, deref_ins, a0, attr0, he]
theorem eq_len (H : HasBook T) {l0' : Nat} {L' : List Nat} {F' : FT} : eqD T (run T (k + 1)) (lenD l0 L F) (lenD l0' L' F') cs = .ok (decide (l0 :: L = l0' :: L')) cs := by
  obtain ⟨c, h1, h2⟩ := H.ancL
  have e1 : tyOk T (lenD l0' L' F') cs = true := by
    show (T.cls[0]?).isSome = true
    rw [h1]
    rfl
  show eqO T (run T (k + 1)) (lenD l0 L F) (lenD l0' L' F') cs = _
  unfold eqO
  rw [e1]
  show (callM T (run T (k + 1)) nEq (lenD l0 L F) [lenD l0' L' F'] cs).bind isBl = _
  have e2 : callM T (run T (k + 1)) nEq (lenD l0 L F) [lenD l0' L' F'] cs = run T (k + 1) false 34 [lenD l0 L F, lenD l0' L' F'] cs := by
    show (match methOf T 0 nEq with
      | some f => run T (k + 1) false f _ cs
      | none => .bad) = _
    rw [H.mEqL]
  rw [e2, r_eqL H]
  rfl
theorem eq_str (O : Orc) {x y : Str} (hx : PyData.strOk x = true) (hy : PyData.strOk y = true) (cs : Cells) : eqD T O (.str x) (.str y) cs = .ok (decide (x = y)) cs := by
  classical
  rw [eqD_pl T O (n := 0) (m := 0) (by simpa [pl] using hx) (by simpa [pl] using hy) (by decide) (by decide)]
  congr 1
  rw [decide_eq_decide]
  exact ⟨fun h => by injection h, fun h => by rw [h]⟩
/-- what a plain book is -/
structure Pb where
  room : Nat
  l0 : Nat
  L : List Nat
  low : Nat
  bound : Nat
  lk : Str
  ct : Str
  sd : Str
deriving DecidableEq
def lks : List Str := ["own", "near"]
def cts : List Str := ["even", "ahead", "put"]
def sds : List Str := ["left", "right"]
structure PbOk (p : Pb) : Prop where
  r : 2 ≤ p.room ∧ p.room ≤ 60
  asc : (p.l0 :: p.L).Pairwise (· < ·)
  bd : ∀ l ∈ p.l0 :: p.L, 1 ≤ l ∧ l ≤ 60
  few : (p.l0 :: p.L).length ≤ 6
  fit : p.l0 + (p.l0 :: p.L).getLast (by simp) ≤ p.room
  lo : p.low ≤ p.room + 1
  bo : p.bound ≤ p.room
  k : p.lk ∈ lks
  c : p.ct ∈ cts
  s : p.sd ∈ sds
abbrev bkD (p : Pb) (F : FT) : Dv.D := bookD p.room p.low p.bound p.lk p.ct p.sd p.l0 p.L F
def plD (p : Pb) : Dv.D := .tup [nD p.room, .tup ((p.l0 :: p.L).map nD), nD p.low, nD p.bound, .str p.lk, .str p.ct, .str p.sd]
theorem ok_of {x : Str} {xs : List Str} (hs : (xs.all fun x => PyData.strOk x) = true) (h : x ∈ xs) : PyData.strOk x = true := List.all_eq_true.mp hs x h
theorem PbOk.k1 {p : Pb} (h : PbOk p) : PyData.strOk p.lk = true := ok_of (by decide +kernel) h.k
theorem PbOk.c1 {p : Pb} (h : PbOk p) : PyData.strOk p.ct = true := ok_of (by decide +kernel) h.c
theorem PbOk.s1 {p : Pb} (h : PbOk p) : PyData.strOk p.sd = true := ok_of (by decide +kernel) h.s
def eqB (p q : Pb) : Bool := if p.room = q.room ∧ (p.l0 :: p.L = q.l0 :: q.L) then (if p.low = q.low ∧ p.bound = q.bound then decide (p.lk = q.lk) && decide (p.ct = q.ct) && decide (p.sd = q.sd) else false) else false
theorem r_eqB (H : HasBook T) {p q : Pb} {F G : FT} (hp : PbOk p) (hq : PbOk q) : run T (k + 2) false 44 [bkD p F, bkD q G] cs = .ok (.bl (eqB p q)) cs := by
  have a4 := H.atb 4 (by decide) (by decide)
  have a5 := H.atb 5 (by decide) (by decide)
  have a6 := H.atb 6 (by decide) (by decide)
  have a7 := H.atb 7 (by decide) (by decide)
  have a8 := H.atb 8 (by decide) (by decide)
  have a9 := H.atb 9 (by decide) (by decide)
  have a10 := H.atb 10 (by decide) (by decide)
  have hi := isi_book (cs := cs) (room := q.room) (low := q.low) (bound := q.bound) (lk := q.lk) (ct := q.ct) (sd := q.sd) (l0 := q.l0) (L := q.L) (F := G) H
  have el := eq_len (k := k) (cs := cs) (l0 := p.l0) (L := p.L) (F := F) (l0' := q.l0) (L' := q.L) (F' := G) H
  have e1 := eq_str (T := T) (run T (k + 1)) hp.k1 hq.k1 cs
  have e2 := eq_str (T := T) (run T (k + 1)) hp.c1 hq.c1 cs
  have e3 := eq_str (T := T) (run T (k + 1)) hp.s1 hq.s1 cs
  have i : ∀ m n : Nat, ((m : Int) = (n : Int)) ↔ m = n := fun m n => by omega
  rw [run_of (ρ := [.val (bkD p F), .val (bkD q G)]) H.f44.at_ rfl rfl]
  unfold f_Book_eq bkD eqB
  by_cases q1 : p.room = q.room
  · by_cases q2 : p.l0 :: p.L = q.l0 :: q.L
    · by_cases q3 : p.low = q.low
      · by_cases q4 : p.bound = q.bound
        · simp only [sm, thenF_nx, thenF_ret, thenF_brk, thenF_cnt, den, ofVT, ofVB, noDen, baseA, cmpD, bltD, bind_ok, ofRes_some, getV_0, getV_s, getB_0, getB_s, truth_bl, truth_int, cmp_lt, cmp_le, cmp_gt, cmp_ge, List.getElem?_cons_zero, List.getElem?_cons_succ, List.set_cons_zero, List.set_cons_succ, if_true, if_false, reduceIte, decide_true, decide_false, end_ret, end_nx, List.length_cons, List.length_nil, Nat.zero_add, Nat.reduceAdd, Nat.reduceLT, Nat.reduceLeDiff, Nat.zero_le, and_self, Bool.not_true, Bool.not_false, Bool.false_eq_true, items_lst, items_tup, deref_lst, deref_tup, deref_str, deref_int, getA_0, getA_s, hi, dbk, a4, bk4, a5, bk5, a6, bk6, a7, bk7, a8, bk8, a9, bk9, a10, bk10, eq_int, i, and_false, false_and, true_and, q1, q2, q3, q4, el, e1, e2, e3]
          generalize decide (p.lk = q.lk) = b1
          generalize decide (p.ct = q.ct) = b2
          generalize decide (p.sd = q.sd) = b3
          cases b1 <;> cases b2 <;> cases b3 <;> rfl
        · simp only [sm, thenF_nx, thenF_ret, thenF_brk, thenF_cnt, den, ofVT, ofVB, noDen, baseA, cmpD, bltD, bind_ok, ofRes_some, getV_0, getV_s, getB_0, getB_s, truth_bl, truth_int, cmp_lt, cmp_le, cmp_gt, cmp_ge, List.getElem?_cons_zero, List.getElem?_cons_succ, List.set_cons_zero, List.set_cons_succ, if_true, if_false, reduceIte, decide_true, decide_false, end_ret, end_nx, List.length_cons, List.length_nil, Nat.zero_add, Nat.reduceAdd, Nat.reduceLT, Nat.reduceLeDiff, Nat.zero_le, and_self, Bool.not_true, Bool.not_false, Bool.false_eq_true, items_lst, items_tup, deref_lst, deref_tup, deref_str, deref_int, getA_0, getA_s, hi, dbk, a4, bk4, a5, bk5, a6, bk6, a7, bk7, a8, bk8, a9, bk9, a10, bk10, eq_int, i, and_false, false_and, true_and, q1, q2, q3, q4, el, e1, e2, e3]
      · simp only [sm, thenF_nx, thenF_ret, thenF_brk, thenF_cnt, den, ofVT, ofVB, noDen, baseA, cmpD, bltD, bind_ok, ofRes_some, getV_0, getV_s, getB_0, getB_s, truth_bl, truth_int, cmp_lt, cmp_le, cmp_gt, cmp_ge, List.getElem?_cons_zero, List.getElem?_cons_succ, List.set_cons_zero, List.set_cons_succ, if_true, if_false, reduceIte, decide_true, decide_false, end_ret, end_nx, List.length_cons, List.length_nil, Nat.zero_add, Nat.reduceAdd, Nat.reduceLT, Nat.reduceLeDiff, Nat.zero_le, and_self, Bool.not_true, Bool.not_false, Bool.false_eq_true, items_lst, items_tup, deref_lst, deref_tup, deref_str, deref_int, getA_0, getA_s, hi, dbk, a4, bk4, a5, bk5, a6, bk6, a7, bk7, a8, bk8, a9, bk9, a10, bk10, eq_int, i, and_false, false_and, true_and, q1, q2, q3, el, e1, e2, e3]
    · simp only [sm, thenF_nx, thenF_ret, thenF_brk, thenF_cnt, den, ofVT, ofVB, noDen, baseA, cmpD, bltD, bind_ok, ofRes_some, getV_0, getV_s, getB_0, getB_s, truth_bl, truth_int, cmp_lt, cmp_le, cmp_gt, cmp_ge, List.getElem?_cons_zero, List.getElem?_cons_succ, List.set_cons_zero, List.set_cons_succ, if_true, if_false, reduceIte, decide_true, decide_false, end_ret, end_nx, List.length_cons, List.length_nil, Nat.zero_add, Nat.reduceAdd, Nat.reduceLT, Nat.reduceLeDiff, Nat.zero_le, and_self, Bool.not_true, Bool.not_false, Bool.false_eq_true, items_lst, items_tup, deref_lst, deref_tup, deref_str, deref_int, getA_0, getA_s, hi, dbk, a4, bk4, a5, bk5, a6, bk6, a7, bk7, a8, bk8, a9, bk9, a10, bk10, eq_int, i, and_false, false_and, true_and, q1, q2, el, e1, e2, e3]
  · simp only [sm, thenF_nx, thenF_ret, thenF_brk, thenF_cnt, den, ofVT, ofVB, noDen, baseA, cmpD, bltD, bind_ok, ofRes_some, getV_0, getV_s, getB_0, getB_s, truth_bl, truth_int, cmp_lt, cmp_le, cmp_gt, cmp_ge, List.getElem?_cons_zero, List.getElem?_cons_succ, List.set_cons_zero, List.set_cons_succ, if_true, if_false, reduceIte, decide_true, decide_false, end_ret, end_nx, List.length_cons, List.length_nil, Nat.zero_add, Nat.reduceAdd, Nat.reduceLT, Nat.reduceLeDiff, Nat.zero_le, and_self, Bool.not_true, Bool.not_false, Bool.false_eq_true, items_lst, items_tup, deref_lst, deref_tup, deref_str, deref_int, getA_0, getA_s, hi, dbk, a4, bk4, a5, bk5, a6, bk6, a7, bk7, a8, bk8, a9, bk9, a10, bk10, eq_int, i, and_false, false_and, true_and, q1, el, e1, e2, e3]
theorem eqB_eq (p q : Pb) : eqB p q = decide (p = q) := by
  obtain ⟨a1, a2, a3, a4, a5, a6, a7, a8⟩ := p
  obtain ⟨b1, b2, b3, b4, b5, b6, b7, b8⟩ := q
  unfold eqB
  simp only [Pb.mk.injEq, List.cons.injEq]
  rw [Bool.eq_iff_iff, decide_eq_true_eq]
  split
  · rename_i h
    split
    · rename_i h2
      simp only [Bool.and_eq_true, decide_eq_true_eq]
      constructor
      · rintro ⟨⟨x, y⟩, z⟩; exact ⟨h.1, h.2.1, h.2.2, h2.1, h2.2, x, y, z⟩
      · rintro ⟨_, _, _, _, _, x, y, z⟩; exact ⟨⟨x, y⟩, z⟩
    · rename_i h2
      refine ⟨fun z => (nomatch z), ?_⟩
      rintro ⟨_, _, _, x, y, _⟩; exact (h2 ⟨x, y⟩).elim
  · rename_i h
    refine ⟨fun z => (nomatch z), ?_⟩
    rintro ⟨x, y, z, _⟩; exact (h ⟨x, y, z⟩).elim
theorem meth_eqB (H : HasBook T) {p : Pb} {F : FT} (d : Dv.D) : callM T (run T k) nEq (bkD p F) [d] cs = run T k false 44 [bkD p F, d] cs := by
  show (match methOf T 1 nEq with
    | some f => run T k false f _ cs
    | none => .bad) = _
  rw [H.mEqB]
theorem eq_book (H : HasBook T) {p q : Pb} {F G : FT} (hp : PbOk p) (hq : PbOk q) : eqD T (run T (k + 2)) (bkD p F) (bkD q G) cs = .ok (decide (p = q)) cs := by
  obtain ⟨c, h1, _⟩ := H.b
  have e1 : tyOk T (bkD q G) cs = true := by
    show (T.cls[1]?).isSome = true
    rw [h1]
    rfl
  show eqO T (run T (k + 2)) (bkD p F) (bkD q G) cs = _
  unfold eqO
  rw [e1]
  show (callM T (run T (k + 2)) nEq (bkD p F) [bkD q G] cs).bind isBl = _
  rw [meth_eqB H, r_eqB H hp hq, eqB_eq]
  rfl
theorem isi_tup (H : HasBook T) (ds : List Dv.D) : isiD T [.cls 1] (.tup ds) cs = .ok (.bl false) cs := by
  obtain ⟨c, h1, _⟩ := H.b
  have e2 : tyThere T (.cls 1) = true := by
    show (T.cls[1]?).isSome = true
    rw [h1]
    rfl
  have e1 : tyOk T (.tup ds) cs = true := rfl
  have e3 : isTy T (.tup ds) cs (.cls 1) = false := rfl
  unfold isiD
  rw [e1]
  simp only [List.all_cons, List.all_nil, e2, Bool.and_self, and_self, if_true, List.any_cons, e3, List.any_nil, Bool.or_false]
theorem eq_bookT (H : HasBook T) {p : Pb} {F : FT} (ds : List Dv.D) : eqD T (run T (k + 2)) (bkD p F) (.tup ds) cs = .ok false cs := by
  have hi := isi_tup (cs := cs) H ds
  show eqO T (run T (k + 2)) (bkD p F) (.tup ds) cs = _
  unfold eqO
  rw [show tyOk T (.tup ds) cs = true from rfl]
  show (callM T (run T (k + 2)) nEq (bkD p F) [.tup ds] cs).bind isBl = _
  rw [meth_eqB H, run_of (ρ := [.val (bkD p F), .val (.tup ds)]) H.f44.at_ rfl rfl]
  unfold f_Book_eq
  simp only [sm, thenF_nx, thenF_ret, thenF_brk, thenF_cnt, den, ofVT, ofVB, noDen, baseA, cmpD, bltD, bind_ok, ofRes_some, getV_0, getV_s, getB_0, getB_s, truth_bl, truth_int, cmp_lt, cmp_le, cmp_gt, cmp_ge, List.getElem?_cons_zero, List.getElem?_cons_succ, List.set_cons_zero, List.set_cons_succ, if_true, if_false, reduceIte, decide_true, decide_false, end_ret, end_nx, List.length_cons, List.length_nil, Nat.zero_add, Nat.reduceAdd, Nat.reduceLT, Nat.reduceLeDiff, Nat.zero_le, and_self, Bool.not_true, Bool.not_false, Bool.false_eq_true, items_lst, items_tup, deref_lst, deref_tup, deref_str, deref_int, getA_0, getA_s, hi]
  rfl
/-- a book of a plain one -/
theorem r_bk (H : HasBook T) {p : Pb} {F : FT} (h : PbOk p) (hF : LenOk p.l0 p.L F) : run T (k + 5) true 37 [nD p.room, lenD p.l0 p.L F, nD p.low, nD p.bound, .str p.lk, .str p.ct, .str p.sd] cs = .ok (bkD p F) cs := by
  refine r_book H hF h.r h.fit h.lo h.bo ?_ ?_ ?_
  · have := h.k
    simp only [lks, List.mem_cons, List.not_mem_nil, or_false] at this
    rcases this with e | e <;> rw [e] <;> decide +kernel
  · have := h.c
    simp only [cts, List.mem_cons, List.not_mem_nil, or_false] at this
    rcases this with e | e | e <;> rw [e] <;> decide +kernel
  · have := h.s
    simp only [sds, List.mem_cons, List.not_mem_nil, or_false] at this
    rcases this with e | e <;> rw [e] <;> decide +kernel
end Pk
end
section
set_option Elab.async false
set_option linter.all false
set_option maxRecDepth 100000
set_option maxHeartbeats 400000
namespace Pk
open PySem PySem.Spec PyProof.Rows L2 Dv
variable {T : Tab} {O : Orc} {k : Nat} {cs : Cells} {F G : FT} {p q : Pb}
/-! ### pairs that a book allows, its partners; a book otherwise; two books put together -/
structure HasAl (T : Tab) : Prop extends HasBook T where
  f41 : Has T 41 f_Book_call
  f42 : Has T 42 f_Book_partners
  f43 : Has T 43 f_Book_and
  f46 : Has T 46 f_Book_but
  c7 : T.consts[7]? = some (.tup [.str "room", .str "lengths", .str "low", .str "bound", .str "looks", .str "cut", .str "side"])
  mCall : methOf T 1 nCall = some 41
  mAnd : methOf T 1 nAnd = some 43
  m20 : methOf T 1 20 = some 42
  m28 : methOf T 1 28 = some 46
abbrev bsum (p : Pb) (F : FT) : List Nat := totL F p.l0 p.room
def alB (p : Pb) (x y : Nat) : Bool := decide (p.bound < x + y) || (if p.lk = "own" then decide (p.low ≤ x) || decide (p.low ≤ y) else decide (p.low ≤ x) && decide (p.low ≤ y))
theorem in_sum {x : Nat} {S : List Nat} (hx : x ∈ S) : isIn1 (nD x) (.tup (S.map nD)) = some true := by
  have := in_n (x : Int) S
  rw [this]
  congr 1
  rw [List.any_eq_true]
  exact ⟨x, hx, by simp⟩
theorem max2 (i j : Int) (cs : Cells) : bTwo (fun i j => if j > i then j else i) [.int i, .int j] cs = .ok (.int (if j > i then j else i)) cs := rfl
theorem min2 (i j : Int) (cs : Cells) : bTwo (fun i j => if j < i then j else i) [.int i, .int j] cs = .ok (.int (if j < i then j else i)) cs := rfl
theorem r_al (H : HasAl T) (hp : PbOk p) {x y : Nat} (hx : x ∈ bsum p F) (hy : y ∈ bsum p F) : run T (k + 2) false 41 [bkD p F, nD x, nD y] cs = .ok (.bl (alB p x y)) cs := by
  have i0 := r_integer (k := k) H.f0 x cs
  have i1 := r_integer (k := k) H.f0 y cs
  have a6 := H.atb 6 (by decide) (by decide)
  have a7 := H.atb 7 (by decide) (by decide)
  have a8 := H.atb 8 (by decide) (by decide)
  have a11 := H.atb 11 (by decide) (by decide)
  have s1 := in_sum hx
  have s2 := in_sum hy
  have hc : ∀ S : List Nat, clsOf (.tup (S.map nD)) cs = none := fun _ => rfl
  have es := eq_str (T := T) (run T (k + 1)) (x := p.lk) (y := "own") hp.k1 (by decide +kernel) cs
  have hnat : ∀ {a b : Bool}, a = b → (Res.ok (Dv.D.bl a) cs) = .ok (.bl b) cs := fun h => by rw [h]
  rw [run_of (ρ := [.val (bkD p F), .val (nD x), .val (nD y)]) H.f41.at_ rfl rfl]
  unfold f_Book_call bkD alB
  by_cases q1 : (p.bound : Int) < (x : Int) + (y : Int)
  · have q1' : p.bound < x + y := by omega
    simp only [sm, thenF_nx, thenF_ret, thenF_brk, thenF_cnt, den, ofVT, ofVB, noDen, baseA, cmpD, bltD, bind_ok, ofRes_some, getV_0, getV_s, getB_0, getB_s, truth_bl, truth_int, cmp_lt, cmp_le, cmp_gt, cmp_ge, List.getElem?_cons_zero, List.getElem?_cons_succ, List.set_cons_zero, List.set_cons_succ, if_true, if_false, reduceIte, decide_true, decide_false, end_ret, end_nx, List.length_cons, List.length_nil, Nat.zero_add, Nat.reduceAdd, Nat.reduceLT, Nat.reduceLeDiff, Nat.zero_le, and_self, Bool.not_true, Bool.not_false, Bool.false_eq_true, items_lst, items_tup, deref_lst, deref_tup, deref_str, deref_int, getA_0, getA_s, i0, i1, dbk, a11, bk11, hc, s1, s2, Option.map_some, bin_add, a7, bk7, q1, q1']
    rfl
  · have q1' : ¬ p.bound < x + y := by omega
    by_cases q2 : p.lk = "own"
    · rw [decide_eq_true q2] at es
      have e2 : (if p.lk = "own" then decide (p.low ≤ x) || decide (p.low ≤ y) else decide (p.low ≤ x) && decide (p.low ≤ y)) = (decide (p.low ≤ x) || decide (p.low ≤ y)) := if_pos q2
      rw [e2, decide_eq_false q1', Bool.false_or]
      simp only [sm, thenF_nx, thenF_ret, thenF_brk, thenF_cnt, den, ofVT, ofVB, noDen, baseA, cmpD, bltD, bind_ok, ofRes_some, getV_0, getV_s, getB_0, getB_s, truth_bl, truth_int, cmp_lt, cmp_le, cmp_gt, cmp_ge, List.getElem?_cons_zero, List.getElem?_cons_succ, List.set_cons_zero, List.set_cons_succ, if_true, if_false, reduceIte, decide_true, decide_false, end_ret, end_nx, List.length_cons, List.length_nil, Nat.zero_add, Nat.reduceAdd, Nat.reduceLT, Nat.reduceLeDiff, Nat.zero_le, and_self, Bool.not_true, Bool.not_false, Bool.false_eq_true, items_lst, items_tup, deref_lst, deref_tup, deref_str, deref_int, getA_0, getA_s, i0, i1, dbk, a11, bk11, hc, s1, s2, Option.map_some, bin_add, a7, bk7, q1, a8, bk8, es, max2, a6, bk6]
      refine hnat ?_
      rw [Bool.eq_iff_iff]
      simp only [Bool.or_eq_true, decide_eq_true_eq]
      split <;> omega
    · rw [decide_eq_false q2] at es
      have e2 : (if p.lk = "own" then decide (p.low ≤ x) || decide (p.low ≤ y) else decide (p.low ≤ x) && decide (p.low ≤ y)) = (decide (p.low ≤ x) && decide (p.low ≤ y)) := if_neg q2
      rw [e2, decide_eq_false q1', Bool.false_or]
      simp only [sm, thenF_nx, thenF_ret, thenF_brk, thenF_cnt, den, ofVT, ofVB, noDen, baseA, cmpD, bltD, bind_ok, ofRes_some, getV_0, getV_s, getB_0, getB_s, truth_bl, truth_int, cmp_lt, cmp_le, cmp_gt, cmp_ge, List.getElem?_cons_zero, List.getElem?_cons_succ, List.set_cons_zero, List.set_cons_succ, if_true, if_false, reduceIte, decide_true, decide_false, end_ret, end_nx, List.length_cons, List.length_nil, Nat.zero_add, Nat.reduceAdd, Nat.reduceLT, Nat.reduceLeDiff, Nat.zero_le, and_self, Bool.not_true, Bool.not_false, Bool.false_eq_true, items_lst, items_tup, deref_lst, deref_tup, deref_str, deref_int, getA_0, getA_s, i0, i1, dbk, a11, bk11, hc, s1, s2, Option.map_some, bin_add, a7, bk7, q1, a8, bk8, es, min2, a6, bk6]
      refine hnat ?_
      rw [Bool.eq_iff_iff]
      simp only [Bool.and_eq_true, decide_eq_true_eq]
      split <;> omega
theorem callv_b (H : HasAl T) (O : Orc) (p : Pb) (F : FT) (ds : List Dv.D) (cs : Cells) : callM T O nCall (bkD p F) ds cs = O false 41 (bkD p F :: ds) cs := by
  show (match methOf T 1 nCall with
    | some f => O false f _ cs
    | none => .bad) = _
  rw [H.mCall]
theorem r_partners (H : HasAl T) (hp : PbOk p) {x : Nat} (hx : x ∈ bsum p F) : run T (k + 3) false 42 [bkD p F, nD x] cs = .ok (.tup (((bsum p F).filter (alB p x)).map nD)) cs := by
  have i0 := r_integer (k := k + 1) H.f0 x cs
  have a11 := H.atb 11 (by decide) (by decide)
  have s1 := in_sum hx
  have hc : ∀ S : List Nat, clsOf (.tup (S.map nD)) cs = none := fun _ => rfl
  have hl : ((bsum p F).map nD).length ≤ sizeLine := by
    rw [List.length_map]
    refine Nat.le_trans (Nat.le_trans (List.length_filter_le _ _) ?_) (show 60 ≤ sizeLine by decide)
    rw [List.length_range']
    exact hp.r.2
  rw [run_of (ρ := [.val (bkD p F), .val (nD x), .emp]) H.f42.at_ rfl rfl]
  unfold f_Book_partners
  simp only [sm, thenF_nx, thenF_ret, thenF_brk, thenF_cnt, den, ofVT, ofVB, noDen, baseA, cmpD, bltD, bind_ok, ofRes_some, getV_0, getV_s, getB_0, getB_s, truth_bl, truth_int, cmp_lt, cmp_le, cmp_gt, cmp_ge, List.getElem?_cons_zero, List.getElem?_cons_succ, List.set_cons_zero, List.set_cons_succ, if_true, if_false, reduceIte, decide_true, decide_false, end_ret, end_nx, List.length_cons, List.length_nil, Nat.zero_add, Nat.reduceAdd, Nat.reduceLT, Nat.reduceLeDiff, Nat.zero_le, and_self, Bool.not_true, Bool.not_false, Bool.false_eq_true, items_lst, items_tup, deref_lst, deref_tup, deref_str, deref_int, getA_0, getA_s, i0, dbk, a11, bk11, hc, s1, Option.map_some, itemsI_tup]
  simp only [Dv.bind_assoc]
  refine comp_filt (fun d => match d with | .int n => alB p x n.toNat | _ => false) (fun d hd => ?_) hl ?_
  · obtain ⟨y, hy, rfl⟩ := List.mem_map.mp hd
    have e := r_al (k := k) (cs := cs) (F := F) H hp hx hy
    have e2 := callv_b H (run T (k + 2)) p F [nD x, nD y] cs
    simp only [sm, thenF_nx, thenF_ret, thenF_brk, thenF_cnt, den, ofVT, ofVB, noDen, baseA, cmpD, bltD, bind_ok, ofRes_some, getV_0, getV_s, getB_0, getB_s, truth_bl, truth_int, cmp_lt, cmp_le, cmp_gt, cmp_ge, List.getElem?_cons_zero, List.getElem?_cons_succ, List.set_cons_zero, List.set_cons_succ, if_true, if_false, reduceIte, decide_true, decide_false, end_ret, end_nx, List.length_cons, List.length_nil, Nat.zero_add, Nat.reduceAdd, Nat.reduceLT, Nat.reduceLeDiff, Nat.zero_le, and_self, Bool.not_true, Bool.not_false, Bool.false_eq_true, items_lst, items_tup, deref_lst, deref_tup, deref_str, deref_int, getA_0, getA_s, turnD, setTg, setAll, wipeE]
    show (((callM T (Dv.run T (k + 2)) nCall (bkD p F) [nD x, nD y] cs).bind fun x cs => truth x cs).bind fun t cs => if t = true then (Res.ok (nD y) cs).bind fun d cs => Res.ok (some d) cs else Res.ok none cs) = Res.ok (if alB p x y = true then some (nD y) else none) cs
    rw [e2, e]
    simp only [sm, thenF_nx, thenF_ret, thenF_brk, thenF_cnt, den, ofVT, ofVB, noDen, baseA, cmpD, bltD, bind_ok, ofRes_some, getV_0, getV_s, getB_0, getB_s, truth_bl, truth_int, cmp_lt, cmp_le, cmp_gt, cmp_ge, List.getElem?_cons_zero, List.getElem?_cons_succ, List.set_cons_zero, List.set_cons_succ, if_true, if_false, reduceIte, decide_true, decide_false, end_ret, end_nx, List.length_cons, List.length_nil, Nat.zero_add, Nat.reduceAdd, Nat.reduceLT, Nat.reduceLeDiff, Nat.zero_le, and_self, Bool.not_true, Bool.not_false, Bool.false_eq_true, items_lst, items_tup, deref_lst, deref_tup, deref_str, deref_int, getA_0, getA_s]
    split <;> rfl
  · rw [List.filter_map]
    simp only [sm, thenF_nx, thenF_ret, thenF_brk, thenF_cnt, den, ofVT, ofVB, noDen, baseA, cmpD, bltD, bind_ok, ofRes_some, getV_0, getV_s, getB_0, getB_s, truth_bl, truth_int, cmp_lt, cmp_le, cmp_gt, cmp_ge, List.getElem?_cons_zero, List.getElem?_cons_succ, List.set_cons_zero, List.set_cons_succ, if_true, if_false, reduceIte, decide_true, decide_false, end_ret, end_nx, List.length_cons, List.length_nil, Nat.zero_add, Nat.reduceAdd, Nat.reduceLT, Nat.reduceLeDiff, Nat.zero_le, and_self, Bool.not_true, Bool.not_false, Bool.false_eq_true, items_lst, items_tup, deref_lst, deref_tup, deref_str, deref_int, getA_0, getA_s, bTuple, seq_lst, Option.map_some]
    rfl
/-! #### but -/
def names : List Str := ["room", "lengths", "low", "bound", "looks", "cut", "side"]
def flds (p : Pb) (F : FT) : List Dv.D := [nD p.room, lenD p.l0 p.L F, nD p.low, nD p.bound, .str p.lk, .str p.ct, .str p.sd]
def bu1 : Sm := (.seq (.ite (.cmp .notin (.var 2) (.glob 7)) (.seq .never .skip) .skip) .skip)
theorem but_body : f_Book_but.body = (.seq (.for_ [2] true (.dks (.var 1)) bu1) (.seq (.set 3 (.dctA (.var 0) (.var 1) [("room", 4), ("lengths", 5), ("low", 6), ("bound", 7), ("looks", 8), ("cut", 9), ("side", 10)])) (.seq (.ret (.new 1 (.cons (.dsub (.var 3) "room") (.cons (.dsub (.var 3) "lengths") (.cons (.dsub (.var 3) "low") (.cons (.dsub (.var 3) "bound") (.cons (.dsub (.var 3) "looks") (.cons (.dsub (.var 3) "cut") (.cons (.dsub (.var 3) "side") .nil))))))))) .skip))) := rfl
theorem bu1_run (H : HasAl T) {x : Str} (hx : x ∈ names) {a1 a2 a3 : Slot} : sm T O bu1 [a1, a2, .val (.str x), a3] cs = .ok (.nx [a1, a2, .val (.str x), a3]) cs := by
  have c7 := H.c7
  have e : isIn1 (.str x) (.tup [.str "room", .str "lengths", .str "low", .str "bound", .str "looks", .str "cut", .str "side"]) = some true := by
    simp only [names, List.mem_cons, List.not_mem_nil, or_false] at hx
    rcases hx with e | e | e | e | e | e | e <;> rw [e] <;> rfl
  have hc : ∀ x cs, clsOf (.tup x) cs = none := fun _ _ => rfl
  unfold bu1
  simp only [sm, thenF_nx, thenF_ret, thenF_brk, thenF_cnt, den, ofVT, ofVB, noDen, baseA, cmpD, bltD, bind_ok, ofRes_some, getV_0, getV_s, getB_0, getB_s, truth_bl, truth_int, cmp_lt, cmp_le, cmp_gt, cmp_ge, List.getElem?_cons_zero, List.getElem?_cons_succ, List.set_cons_zero, List.set_cons_succ, if_true, if_false, reduceIte, decide_true, decide_false, end_ret, end_nx, List.length_cons, List.length_nil, Nat.zero_add, Nat.reduceAdd, Nat.reduceLT, Nat.reduceLeDiff, Nat.zero_le, and_self, Bool.not_true, Bool.not_false, Bool.false_eq_true, items_lst, items_tup, deref_lst, deref_tup, deref_str, deref_int, getA_0, getA_s, c7, hc, e, Option.map_some]
theorem bu_loop (H : HasAl T) {a1 a2 a3 : Slot} : ∀ (xs : List Str) (s2 : Slot), (∀ x ∈ xs, x ∈ names) → ∃ s2', forL (fun ρ cs => sm T O bu1 ρ cs) [2] true (xs.map .str) [a1, a2, s2, a3] cs = .ok (.nx [a1, a2, s2', a3]) cs
  | [], s2, _ => ⟨s2, rfl⟩
  | x :: xs, s2, h => by
    obtain ⟨s2', e⟩ := bu_loop H (a1 := a1) (a2 := a2) (a3 := a3) xs (.val (.str x)) fun y hy => h y (List.mem_cons_of_mem _ hy)
    refine ⟨s2', ?_⟩
    rw [List.map_cons, forL]
    show (sm T O bu1 [a1, a2, .val (.str x), a3] cs).bind _ = _
    rw [bu1_run H (h x List.mem_cons_self)]
    exact e
theorem val_fld (p : Pb) (F : FT) : kwD names (flds p F) = [(.inr "room", nD p.room), (.inr "lengths", lenD p.l0 p.L F), (.inr "low", nD p.low), (.inr "bound", nD p.bound), (.inr "looks", .str p.lk), (.inr "cut", .str p.ct), (.inr "side", .str p.sd)] := rfl
theorem r_but (H : HasAl T) {p p' : Pb} {F : FT} {x : Str} {d : Dv.D} {xs : List Str} {ds : List Dv.D} (hx : ∀ y ∈ x :: xs, y ∈ names) (hl : ds.length = xs.length) (hs : xs.length < 7) (hm : mergeD (mergeD [] (kwD names (flds p F))) (kwD (x :: xs) (d :: ds)) = kwD names (flds p' F)) (hp : PbOk p') (hF : LenOk p'.l0 p'.L F) :
    run T (k + 6) true 46 [bkD p F, .dic (kwD (x :: xs) (d :: ds))] cs = .ok (bkD p' F) cs := by
  obtain ⟨c, b1, b2, b3, _⟩ := H.b
  have hk : keysD (.dic (kwD (x :: xs) (d :: ds))) cs = .ok ((x :: xs).map .str) cs := by
    show Res.ok ((kwD (x :: xs) (d :: ds)).map fun q => kD q.1) cs = _
    congr 1
    unfold kwD
    rw [List.map_map]
    have : ((fun (q : Key × Dv.D) => kD q.1) ∘ fun (p : Str × Dv.D) => ((.inr p.1 : Key), p.2)) = fun (p : Str × Dv.D) => Dv.D.str p.1 := rfl
    rw [this]
    have e : ((x :: xs).zip (d :: ds)).map (fun (p : Str × Dv.D) => p.1) = x :: xs := List.map_fst_zip (by simp [hl])
    conv => rhs; rw [← e]
    rw [List.map_map]
    rfl
  obtain ⟨s2', e1⟩ := bu_loop (O := run T (k + 5)) (cs := cs) (a1 := .val (bkD p F)) (a2 := .val (.dic (kwD (x :: xs) (d :: ds)))) (a3 := .emp) H (x :: xs) .emp hx
  have e1 : forF (fun ρ cs => sm T (run T (k + 5)) bu1 ρ cs) [2] true ((x :: xs).map .str) [.val (bkD p F), .val (.dic (kwD (x :: xs) (d :: ds))), .emp, .emp] cs = _ := e1
  have e2 : dispD names (flds p F) (.dic (kwD (x :: xs) (d :: ds))) cs = .ok (.dic (kwD names (flds p' F))) cs := by
    show (if (kwD xs ds).length < 1000 then (match mergeD (mergeD [] (kwD names (flds p F))) (kwD (x :: xs) (d :: ds)) with
      | q :: t => Res.ok (Dv.D.dic (q :: t)) cs
      | [] => .bad) else .bad) = _
    rw [hm, if_pos]
    · rfl
    · unfold kwD
      rw [List.length_map, List.length_zip]
      omega
  rw [run_kwm (ρ := [.val (bkD p F), .val (.dic (kwD (x :: xs) (d :: ds))), .emp, .emp]) H.f46.at_ rfl rfl, but_body]
  have a4 := H.atb 4 (by decide) (by decide)
  have a5 := H.atb 5 (by decide) (by decide)
  have a6 := H.atb 6 (by decide) (by decide)
  have a7 := H.atb 7 (by decide) (by decide)
  have a8 := H.atb 8 (by decide) (by decide)
  have a9 := H.atb 9 (by decide) (by decide)
  have a10 := H.atb 10 (by decide) (by decide)
  have e3 := r_bk (k := k) (cs := cs) H.toHasBook hp hF
  have e4 : attrsD T (fun ρ cs => ofRes cs (getA ρ 0)) [4, 5, 6, 7, 8, 9, 10] [.val (bkD p F), .val (.dic (kwD (x :: xs) (d :: ds))), s2', .emp] cs = .ok (flds p F) cs := by
    simp only [attrsD, attrV, getA_0, ofRes_some, bind_ok, dbk, a4, a5, a6, a7, a8, a9, a10, bk4, bk5, bk6, bk7, bk8, bk9, bk10, if_true]
    rfl
  have e5 : ∀ cs, subK (.dic (kwD names (flds p' F))) "room" cs = .ok (nD p'.room) cs := fun _ => rfl
  have e6 : ∀ cs, subK (.dic (kwD names (flds p' F))) "lengths" cs = .ok (lenD p'.l0 p'.L F) cs := fun _ => rfl
  have e7 : ∀ cs, subK (.dic (kwD names (flds p' F))) "low" cs = .ok (nD p'.low) cs := fun _ => rfl
  have e8 : ∀ cs, subK (.dic (kwD names (flds p' F))) "bound" cs = .ok (nD p'.bound) cs := fun _ => rfl
  have e9 : ∀ cs, subK (.dic (kwD names (flds p' F))) "looks" cs = .ok (.str p'.lk) cs := fun _ => rfl
  have e10 : ∀ cs, subK (.dic (kwD names (flds p' F))) "cut" cs = .ok (.str p'.ct) cs := fun _ => rfl
  have e11 : ∀ cs, subK (.dic (kwD names (flds p' F))) "side" cs = .ok (.str p'.sd) cs := fun _ => rfl
  have m1 : List.map (fun (x : Str × Nat) => x.snd) [("room", 4), ("lengths", 5), ("low", 6), ("bound", 7), ("looks", 8), ("cut", 9), ("side", 10)] = [4, 5, 6, 7, 8, 9, 10] := rfl
  have m2 : List.map (fun (x : Str × Nat) => x.fst) [("room", 4), ("lengths", 5), ("low", 6), ("bound", 7), ("looks", 8), ("cut", 9), ("side", 10)] = names := rfl
  simp only [sm, thenF_nx, thenF_ret, thenF_brk, thenF_cnt, den, ofVT, ofVB, noDen, baseA, cmpD, bltD, bind_ok, ofRes_some, getV_0, getV_s, getB_0, getB_s, truth_bl, truth_int, cmp_lt, cmp_le, cmp_gt, cmp_ge, List.getElem?_cons_zero, List.getElem?_cons_succ, List.set_cons_zero, List.set_cons_succ, if_true, if_false, reduceIte, decide_true, decide_false, end_ret, end_nx, List.length_cons, List.length_nil, Nat.zero_add, Nat.reduceAdd, Nat.reduceLT, Nat.reduceLeDiff, Nat.zero_le, and_self, Bool.not_true, Bool.not_false, Bool.false_eq_true, items_lst, items_tup, deref_lst, deref_tup, deref_str, deref_int, getA_0, getA_s, hk, e1, ofV, m1, m2, e4, e2, e5, e6, e7, e8, e9, e10, e11, b1, b3, e3]
theorem r_but_low (H : HasAl T) {n : Nat} (hp : PbOk { p with low := n }) (hF : LenOk p.l0 p.L F) : run T (k + 6) true 46 [bkD p F, .dic (kwD ["low"] [nD n])] cs = .ok (bkD { p with low := n } F) cs :=
  r_but H (p' := { p with low := n }) (by decide +kernel) rfl (by decide) rfl hp hF
theorem r_but_bound (H : HasAl T) {n : Nat} (hp : PbOk { p with bound := n }) (hF : LenOk p.l0 p.L F) : run T (k + 6) true 46 [bkD p F, .dic (kwD ["bound"] [nD n])] cs = .ok (bkD { p with bound := n } F) cs :=
  r_but H (p' := { p with bound := n }) (by decide +kernel) rfl (by decide) rfl hp hF
theorem r_but_looks (H : HasAl T) {n : Str} (hp : PbOk { p with lk := n }) (hF : LenOk p.l0 p.L F) : run T (k + 6) true 46 [bkD p F, .dic (kwD ["looks"] [.str n])] cs = .ok (bkD { p with lk := n } F) cs :=
  r_but H (p' := { p with lk := n }) (by decide +kernel) rfl (by decide) rfl hp hF
theorem r_but_cs (H : HasAl T) {n m : Str} (hp : PbOk { p with ct := n, sd := m }) (hF : LenOk p.l0 p.L F) : run T (k + 6) true 46 [bkD p F, .dic (kwD ["cut", "side"] [.str n, .str m])] cs = .ok (bkD { p with ct := n, sd := m } F) cs :=
  r_but H (p' := { p with ct := n, sd := m }) (by decide +kernel) rfl (by decide) rfl hp hF
/-! #### and -/
def andP (p q : Pb) : Pb := { p with low := min p.low q.low, bound := min p.bound q.bound, lk := if p.lk = "own" ∨ q.lk = "own" then "own" else "near" }
theorem andP_ok (hp : PbOk p) (hq : PbOk q) : PbOk (andP p q) := by
  refine ⟨hp.r, hp.asc, hp.bd, hp.few, hp.fit, ?_, ?_, ?_, hp.c, hp.s⟩
  · exact Nat.le_trans (Nat.min_le_left _ _) hp.lo
  · exact Nat.le_trans (Nat.min_le_left _ _) hp.bo
  · show (if p.lk = "own" ∨ q.lk = "own" then ("own" : Str) else "near") ∈ lks
    split <;> simp [lks]
theorem own_in {a b : Str} (ha : a ∈ lks) (hb : b ∈ lks) : isIn1 (.str "own") (.tup [.str a, .str b]) = some (decide (a = "own" ∨ b = "own")) := by
  simp only [lks, List.mem_cons, List.not_mem_nil, or_false] at ha hb
  rcases ha with rfl | rfl <;> rcases hb with rfl | rfl <;> rfl
theorem minN (m n : Nat) (cs : Cells) : bTwo (fun i j => if j < i then j else i) [nD m, nD n] cs = .ok (nD (min m n)) cs := by
  rw [min2]
  congr 2
  split <;> omega
theorem r_and (H : HasAl T) (hp : PbOk p) (hq : PbOk q) (h1 : p.room = q.room) (h2 : p.l0 :: p.L = q.l0 :: q.L) (hF : LenOk p.l0 p.L F) : run T (k + 6) false 43 [bkD p F, bkD q G] cs = .ok (bkD (andP p q) F) cs := by
  obtain ⟨c, b1, b2, b3, _⟩ := H.b
  have a4 := H.atb 4 (by decide) (by decide)
  have a5 := H.atb 5 (by decide) (by decide)
  have a6 := H.atb 6 (by decide) (by decide)
  have a7 := H.atb 7 (by decide) (by decide)
  have a8 := H.atb 8 (by decide) (by decide)
  have a9 := H.atb 9 (by decide) (by decide)
  have a10 := H.atb 10 (by decide) (by decide)
  have hi := isi_book (cs := cs) (room := q.room) (low := q.low) (bound := q.bound) (lk := q.lk) (ct := q.ct) (sd := q.sd) (l0 := q.l0) (L := q.L) (F := G) H.toHasBook
  have el := eq_len (k := k + 4) (cs := cs) (l0 := p.l0) (L := p.L) (F := F) (l0' := q.l0) (L' := q.L) (F' := G) H.toHasBook
  rw [decide_eq_true h2] at el
  have er : eqD T (run T (k + 5)) (nD p.room) (nD q.room) cs = .ok true cs := by
    rw [eq_int, h1]
    simp
  have ei := own_in hp.k hq.k
  have hc : ∀ x cs, clsOf (.tup x) cs = none := fun _ _ => rfl
  have e3 := r_bk (k := k) (cs := cs) (p := andP p q) (F := F) H.toHasBook (andP_ok hp hq) hF
  have z2 : 2 ≤ sizeLine := by decide
  have vi : ∀ n cs, bInt [nD n] cs = .ok (nD n) cs := fun _ _ => rfl
  rw [run_of (ρ := [.val (bkD p F), .val (bkD q G), .emp, .emp, .emp]) H.f43.at_ rfl rfl]
  unfold f_Book_and bkD
  by_cases ho : p.lk = "own" ∨ q.lk = "own"
  · rw [decide_eq_true ho] at ei
    have e4 : (andP p q).lk = "own" := if_pos ho
    rw [e4] at e3
    have e3 : run T (k + 5) true 37 [nD p.room, lenD p.l0 p.L F, nD (min p.low q.low), nD (min p.bound q.bound), .str "own", .str p.ct, .str p.sd] cs = .ok (bkD (andP p q) F) cs := e3
    simp only [sm, thenF_nx, thenF_ret, thenF_brk, thenF_cnt, den, ofVT, ofVB, noDen, baseA, cmpD, bltD, bind_ok, ofRes_some, getV_0, getV_s, getB_0, getB_s, truth_bl, truth_int, cmp_lt, cmp_le, cmp_gt, cmp_ge, List.getElem?_cons_zero, List.getElem?_cons_succ, List.set_cons_zero, List.set_cons_succ, if_true, if_false, reduceIte, decide_true, decide_false, end_ret, end_nx, List.length_cons, List.length_nil, Nat.zero_add, Nat.reduceAdd, Nat.reduceLT, Nat.reduceLeDiff, Nat.zero_le, and_self, Bool.not_true, Bool.not_false, Bool.false_eq_true, items_lst, items_tup, deref_lst, deref_tup, deref_str, deref_int, getA_0, getA_s, e3, hi, dbk, a4, bk4, a5, bk5, a6, bk6, a7, bk7, a8, bk8, a9, bk9, a10, bk10, er, el, z2, hc, ei, Option.map_some, vi, minN, setAll, b1, b3]
  · rw [decide_eq_false ho] at ei
    have e4 : (andP p q).lk = "near" := if_neg ho
    rw [e4] at e3
    have e3 : run T (k + 5) true 37 [nD p.room, lenD p.l0 p.L F, nD (min p.low q.low), nD (min p.bound q.bound), .str "near", .str p.ct, .str p.sd] cs = .ok (bkD (andP p q) F) cs := e3
    simp only [sm, thenF_nx, thenF_ret, thenF_brk, thenF_cnt, den, ofVT, ofVB, noDen, baseA, cmpD, bltD, bind_ok, ofRes_some, getV_0, getV_s, getB_0, getB_s, truth_bl, truth_int, cmp_lt, cmp_le, cmp_gt, cmp_ge, List.getElem?_cons_zero, List.getElem?_cons_succ, List.set_cons_zero, List.set_cons_succ, if_true, if_false, reduceIte, decide_true, decide_false, end_ret, end_nx, List.length_cons, List.length_nil, Nat.zero_add, Nat.reduceAdd, Nat.reduceLT, Nat.reduceLeDiff, Nat.zero_le, and_self, Bool.not_true, Bool.not_false, Bool.false_eq_true, items_lst, items_tup, deref_lst, deref_tup, deref_str, deref_int, getA_0, getA_s, e3, hi, dbk, a4, bk4, a5, bk5, a6, bk6, a7, bk7, a8, bk8, a9, bk9, a10, bk10, er, el, z2, hc, ei, Option.map_some, vi, minN, setAll, b1, b3]
end Pk
end
section
set_option Elab.async false
set_option linter.all false
set_option maxRecDepth 100000
set_option maxHeartbeats 400000
namespace Pk
open PySem PySem.Spec PyProof.Rows L2 Dv
variable {T : Tab} {O : Orc} {k : Nat} {cs : Cells}
/-! ### the laws' own helpers, at any numbers -/
structure Draws (T : Tab) (i : Nat) : Prop where
  ex : ∃ c1 c2 p1 c3 c4 p2 c5 c6 c7 p3 : Int, Has T i ⟨2, false, 7, [], none, drawSm c1 c2 p1 c3 c4 p2 c5 c6 c7 p3⟩ ∧ ((0 < p1 ∧ p1 < 4294967296) ∧ (0 < p2 ∧ p2 < 4294967296) ∧ (0 < p3 ∧ p3 < 4294967296) ∧ (0 ≤ c1 ∧ c1 < 1048576) ∧ (0 ≤ c3 ∧ c3 < 1048576) ∧ (0 ≤ c4 ∧ c4 < 1048576) ∧ (0 ≤ c5 ∧ c5 < 1048576) ∧ (0 ≤ c6 ∧ c6 < 1048576) ∧ (0 ≤ c7 ∧ c7 < 1048576))
variable {i j : Nat} {tl : Cells} {b m : Nat}
theorem r_draw (H : Draws T i) (h : Pn tl b cs) (hm : 0 < m) (hm2 : m < 1000000000) (hb : b < 1000000) : Wp (run T (k + 1) false i [.cell 0, .int m] cs) fun d cs' => (∃ j : Nat, j < m ∧ d = .int j) ∧ Pn tl (b + 1) cs' := by
  obtain ⟨_, _, _, _, _, _, _, _, _, _, hF, hc⟩ := H.ex
  rw [run_of (ρ := [.val (.cell 0), .val (.int m), .emp, .emp, .emp, .emp, .emp]) hF.at_ rfl rfl]
  exact draw_wp T _ hc h hm hm2 hb
def fPick (i : Nat) : Fn := ⟨2, false, 2, [], none, (.seq (.ret (.sub (.var 1) (.call i (.cons (.var 0) (.cons (.blt .len (.cons (.var 1) .nil)) .nil))))) .skip)⟩
theorem r_pick (H : Draws T i) (hj : Has T j (fPick i)) (h : Pn tl b cs) (xs : List Dv.D) (h0 : xs ≠ []) (hl : xs.length < 1000000000) (hb : b < 1000000) : Wp (run T (k + 2) false j [.cell 0, .lst xs] cs) fun d cs' => d ∈ xs ∧ Pn tl (b + 1) cs' := by
  rw [run_of (ρ := [.val (.cell 0), .val (.lst xs)]) hj.at_ rfl rfl]
  unfold fPick
  simp only [sm, thenF_nx, thenF_ret, thenF_brk, thenF_cnt, den, ofVT, ofVB, noDen, baseA, cmpD, bltD, bind_ok, ofRes_some, getV_0, getV_s, getB_0, getB_s, truth_bl, truth_int, cmp_lt, cmp_le, cmp_gt, cmp_ge, List.getElem?_cons_zero, List.getElem?_cons_succ, List.set_cons_zero, List.set_cons_succ, if_true, if_false, reduceIte, decide_true, decide_false, end_ret, end_nx, List.length_cons, List.length_nil, Nat.zero_add, Nat.reduceAdd, Nat.reduceLT, Nat.reduceLeDiff, Nat.zero_le, and_self, len_l]
  obtain ⟨d, cs', e, ⟨n, hn, rfl⟩, hp⟩ := r_draw (k := k) H h (List.length_pos_iff.mpr h0) hl hb
  obtain ⟨x, hx, e2⟩ := at_in (xs := xs) (k := n) (by omega) (by omega)
  have e3 : subD T (run T (k + 1)) (.lst xs) (.int n) cs' = .ok x cs' := by
    show ofRes cs' (atI _ _) = _
    rw [e2]
    rfl
  simp only [sm, thenF_nx, thenF_ret, thenF_brk, thenF_cnt, den, ofVT, ofVB, noDen, baseA, cmpD, bltD, bind_ok, ofRes_some, getV_0, getV_s, getB_0, getB_s, truth_bl, truth_int, cmp_lt, cmp_le, cmp_gt, cmp_ge, List.getElem?_cons_zero, List.getElem?_cons_succ, List.set_cons_zero, List.set_cons_succ, if_true, if_false, reduceIte, decide_true, decide_false, end_ret, end_nx, List.length_cons, List.length_nil, Nat.zero_add, Nat.reduceAdd, Nat.reduceLT, Nat.reduceLeDiff, Nat.zero_le, and_self, e, e3]
  exact ⟨x, cs', rfl, hx, hp⟩
/-- a comprehension whose ifs draw -/
theorem compL_sub {turn : D → Cells → Res (Option D)} {c : Nat} : ∀ {xs acc : List D} {b : Nat} {cs : Cells}, (∀ x ∈ xs, ∀ b' cs, b ≤ b' → b' + c ≤ b + c * xs.length → Pn tl b' cs → Wp (turn x cs) fun o cs' => (o = some x ∨ o = none) ∧ Pn tl (b' + c) cs') →
    acc.length + xs.length ≤ sizeLine → Pn tl b cs → Wp (compL turn acc xs cs) fun ds cs' => (∃ ys, ys.Sublist xs ∧ ds = acc ++ ys) ∧ Pn tl (b + c * xs.length) cs'
  | [], acc, b, cs, _, _, hp => ⟨acc, cs, rfl, ⟨[], List.Sublist.refl _, by simp⟩, by simpa using hp⟩
  | x :: xs, acc, b, cs, h, hl, hp => by
    have hx := h x List.mem_cons_self b cs (Nat.le_refl _) (by simp [Nat.mul_add]) hp
    obtain ⟨o, cs2, e, ho, hp2⟩ := hx
    have hn : b + c + c * xs.length = b + c * (x :: xs).length := by simp [Nat.mul_add]; omega
    simp only [List.length_cons] at hl
    rw [compL, e]
    rcases ho with rfl | rfl
    · show Wp (if acc.length < sizeLine then compL turn (acc ++ [x]) xs cs2 else .bad) _
      rw [if_pos (by omega)]
      refine wp_mono (compL_sub (c := c) (b := b + c) (fun y hy b' cs' h1 h2 => h y (List.mem_cons_of_mem _ hy) b' cs' (by omega) (by rw [List.length_cons, Nat.mul_add, Nat.mul_one]; omega)) (by simp; omega) hp2) fun ds cs' q => ?_
      obtain ⟨⟨ys, hy, rfl⟩, q2⟩ := q
      exact ⟨⟨x :: ys, hy.cons₂ x, by simp⟩, by rw [← hn]; exact q2⟩
    · show Wp (compL turn acc xs cs2) _
      refine wp_mono (compL_sub (c := c) (b := b + c) (fun y hy b' cs' h1 h2 => h y (List.mem_cons_of_mem _ hy) b' cs' (by omega) (by rw [List.length_cons, Nat.mul_add, Nat.mul_one]; omega)) (by omega) hp2) fun ds cs' q => ?_
      obtain ⟨⟨ys, hy, rfl⟩, q2⟩ := q
      exact ⟨⟨ys, hy.cons x, rfl⟩, by rw [← hn]; exact q2⟩
theorem comp_sub {α : Type} {turn : D → Cells → Res (Option D)} {c n : Nat} {xs : List D} {K : List D → Cells → Res α} {Q : α → Cells → Prop} (h : ∀ x ∈ xs, ∀ b' cs, b ≤ b' → b' + c ≤ b + c * xs.length → Pn tl b' cs → Wp (turn x cs) fun o cs' => (o = some x ∨ o = none) ∧ Pn tl (b' + c) cs')
    (hl : xs.length ≤ n) (hn : n ≤ sizeLine) (hp : Pn tl b cs) (hk : ∀ ys cs', ys.Sublist xs → Pn tl (b + c * n) cs' → Wp (K ys cs') Q) : Wp ((compF turn [] xs cs).bind K) Q :=
  wp_at (compL_sub h (by simpa using Nat.le_trans hl hn) hp) fun ds cs' q => by
    obtain ⟨⟨ys, hy, e⟩, q2⟩ := q
    rw [List.nil_append] at e
    subst e
    exact hk _ cs' hy (q2.mono (Nat.add_le_add_left (Nat.mul_le_mul_left _ hl) _))
/-! a drawn plain book -/
def pl1 (i : Nat) : Sm := .par [5, 6] (.cons (.bin .add (.int 4) (.call i (.cons (.var 0) (.cons (.int 9) .nil)))) (.cons (.bin .add (.int 1) (.call i (.cons (.var 0) (.cons (.int 2) .nil)))) .nil))
def pl2 (i : Nat) : Sm := .set 1 (.bin .add (.lst (.cons (.var 6) .nil)) (.comp (.var 7) [7] true (.rng2 (.bin .add (.var 6) (.int 1)) (.bin .add (.bin .sub (.var 5) (.var 6)) (.int 1))) (.cmp .eq (.call i (.cons (.var 0) (.cons (.int 3) .nil))) (.int 0))))
def pl3 (i j : Nat) : Sm := .set 2 (.call j (.cons (.var 0) (.cons (.lst (.cons (.int 0) (.cons (.int 1) (.cons (.bin .fdiv (.var 5) (.int 2)) (.cons (.bin .add (.bin .fdiv (.var 5) (.int 2)) (.int 1)) (.cons (.bin .add (.var 5) (.int 1)) (.cons (.call i (.cons (.var 0) (.cons (.bin .add (.var 5) (.int 2)) .nil))) .nil))))))) .nil)))
def pl4 (i j : Nat) : Sm := .set 3 (.call j (.cons (.var 0) (.cons (.lst (.cons (.var 5) (.cons (.var 5) (.cons (.bin .sub (.var 5) (.int 1)) (.cons (.bin .fdiv (.var 5) (.int 2)) (.cons (.int 0) (.cons (.call i (.cons (.var 0) (.cons (.bin .add (.var 5) (.int 1)) .nil))) .nil))))))) .nil)))
def pl5 (j : Nat) : Sm := .set 4 (.tup (.cons (.call j (.cons (.var 0) (.cons (.lst (.cons (.str "own") (.cons (.str "near") .nil))) .nil))) (.cons (.call j (.cons (.var 0) (.cons (.lst (.cons (.str "even") (.cons (.str "ahead") (.cons (.str "put") .nil)))) .nil))) (.cons (.call j (.cons (.var 0) (.cons (.lst (.cons (.str "left") (.cons (.str "right") .nil))) .nil))) .nil))))
def pl6 : Sm := .ret (.bin .add (.tup (.cons (.var 5) (.cons (.blt .tuple (.cons (.slice (.var 1) .nil (.int 6)) .nil)) (.cons (.var 2) (.cons (.var 3) .nil))))) (.var 4))
def fPlain (i j : Nat) : Fn := ⟨1, false, 8, [], none, (.seq (pl1 i) (.seq (pl2 i) (.seq (pl3 i j) (.seq (pl4 i j) (.seq (pl5 j) (.seq pl6 .skip))))))⟩
theorem rng2D_int (m n : Nat) (i : Int) (hi : i = (n : Int)) (h : n < 1000000000) (hm : m < 1000000000) (cs : Cells) : rng2D (.int m) (.int i) cs = .ok ((List.range (n - m)).map fun (i : Nat) => .int ((m + i : Nat) : Int)) cs := by
  rw [hi, rng2D_nat m n h hm]
variable {s1 s2 s3 s4 s5 s6 s7 : Slot} {room l0 : Nat}
abbrev plE (s1 s2 s3 s4 : Slot) (room l0 : Nat) (s7 : Slot) : Dv.Env := [.val (.cell 0), s1, s2, s3, s4, .val (nD room), .val (nD l0), s7]
theorem pl1_wp (H : Draws T i) (h : Pn tl b cs) (hb : b < 900000) : Wp (sm T (run T (k + 1)) (pl1 i) [.val (.cell 0), s1, s2, s3, s4, s5, s6, s7] cs) fun f cs' => (∃ room l0, 4 ≤ room ∧ room ≤ 12 ∧ 1 ≤ l0 ∧ l0 ≤ 2 ∧ f = .nx (plE s1 s2 s3 s4 room l0 s7)) ∧ Pn tl (b + 2) cs' := by
  unfold pl1
  simp only [sm, thenF_nx, thenF_ret, thenF_brk, thenF_cnt, den, ofVT, ofVB, noDen, baseA, cmpD, bltD, bind_ok, ofRes_some, getV_0, getV_s, getB_0, getB_s, truth_bl, truth_int, cmp_lt, cmp_le, cmp_gt, cmp_ge, List.getElem?_cons_zero, List.getElem?_cons_succ, List.set_cons_zero, List.set_cons_succ, if_true, if_false, reduceIte, decide_true, decide_false, end_ret, end_nx, List.length_cons, List.length_nil, Nat.zero_add, Nat.reduceAdd, Nat.reduceLT, Nat.reduceLeDiff, Nat.zero_le, and_self, Bool.not_true, Bool.not_false, Bool.false_eq_true, items_lst, items_tup, deref_lst, deref_tup, deref_str, deref_int, getA_0, getA_s]
  try simp only [Dv.bind_assoc]
  refine wp_at (r_draw (k := k) (m := 9) H h (by omega) (by omega) (by omega)) ?_
  rintro _ cs1 ⟨⟨r, hr, rfl⟩, hp1⟩
  simp only [sm, thenF_nx, thenF_ret, thenF_brk, thenF_cnt, den, ofVT, ofVB, noDen, baseA, cmpD, bltD, bind_ok, ofRes_some, getV_0, getV_s, getB_0, getB_s, truth_bl, truth_int, cmp_lt, cmp_le, cmp_gt, cmp_ge, List.getElem?_cons_zero, List.getElem?_cons_succ, List.set_cons_zero, List.set_cons_succ, if_true, if_false, reduceIte, decide_true, decide_false, end_ret, end_nx, List.length_cons, List.length_nil, Nat.zero_add, Nat.reduceAdd, Nat.reduceLT, Nat.reduceLeDiff, Nat.zero_le, and_self, Bool.not_true, Bool.not_false, Bool.false_eq_true, items_lst, items_tup, deref_lst, deref_tup, deref_str, deref_int, getA_0, getA_s, bin_add]
  try simp only [Dv.bind_assoc]
  refine wp_at (r_draw (k := k) (m := 2) H hp1 (by omega) (by omega) (by omega)) ?_
  rintro _ cs2 ⟨⟨l, hl, rfl⟩, hp2⟩
  simp only [sm, thenF_nx, thenF_ret, thenF_brk, thenF_cnt, den, ofVT, ofVB, noDen, baseA, cmpD, bltD, bind_ok, ofRes_some, getV_0, getV_s, getB_0, getB_s, truth_bl, truth_int, cmp_lt, cmp_le, cmp_gt, cmp_ge, List.getElem?_cons_zero, List.getElem?_cons_succ, List.set_cons_zero, List.set_cons_succ, if_true, if_false, reduceIte, decide_true, decide_false, end_ret, end_nx, List.length_cons, List.length_nil, Nat.zero_add, Nat.reduceAdd, Nat.reduceLT, Nat.reduceLeDiff, Nat.zero_le, and_self, Bool.not_true, Bool.not_false, Bool.false_eq_true, items_lst, items_tup, deref_lst, deref_tup, deref_str, deref_int, getA_0, getA_s, bin_add, setAll]
  refine (wp_ok _ _ _).mpr ⟨⟨4 + r, 1 + l, by omega, by omega, by omega, by omega, ?_⟩, hp2⟩
  simp [plE]
theorem rng_nD (m n : Nat) : ((List.range n).map fun (i : Nat) => Dv.D.int ((m + i : Nat) : Int)) = (List.range' m n).map nD := by
  rw [List.range'_eq_map_range, List.map_map]
  rfl
theorem add_lstD (xs ys : List Dv.D) (h : xs.length + ys.length ≤ sizeLine) (cs : Cells) : binD T O .add (.lst xs) (.lst ys) cs = .ok (.lst (xs ++ ys)) cs := by
  show (if xs.length + ys.length ≤ sizeLine then _ else _) = _
  rw [if_pos h]
theorem cut_top {α : Type} (xs : List α) (j : Nat) : cutG xs none (some (j : Int)) = xs.take j := by
  have e1 : HT.sIx xs.length 0 none = 0 := rfl
  unfold cutG
  rw [e1, HT.sIx_nat, List.drop_zero, Nat.sub_zero]
  by_cases h : j ≤ xs.length
  · rw [Nat.min_eq_left h]
  · rw [Nat.min_eq_right (by omega), List.take_of_length_le (Nat.le_refl _), List.take_of_length_le (by omega)]
theorem cut_from {α : Type} (xs : List α) (j : Nat) (h2 : j ≤ xs.length) : cutG xs (some (j : Int)) none = xs.drop j := by
  unfold cutG
  have e1 : HT.sIx xs.length 0 (some (j : Int)) = j := by rw [HT.sIx_nat]; omega
  have e2 : HT.sIx xs.length xs.length none = xs.length := rfl
  rw [e1, e2]
  rw [List.take_of_length_le (by simp)]
theorem add_tupD (xs ys : List Dv.D) (h : xs.length + ys.length ≤ sizeLine) : binD T O .add (.tup xs) (.tup ys) cs = .ok (.tup (xs ++ ys)) cs := by
  show (if xs.length + ys.length ≤ sizeLine then _ else _) = _
  rw [if_pos h]
theorem pl2_wp (H : Draws T i) (h : Pn tl b cs) (hb : b < 900000) (hr : room ≤ 12) (hl : 1 ≤ l0) (hq : l0 ≤ room) : Wp (sm T (run T (k + 1)) (pl2 i) (plE s1 s2 s3 s4 room l0 s7) cs) fun f cs' => (∃ ys : List Nat, ys.Sublist (List.range' (l0 + 1) (room - l0 - l0)) ∧ f = .nx (plE (.val (.lst ((l0 :: ys).map nD))) s2 s3 s4 room l0 s7)) ∧ Pn tl (b + 12) cs' := by
  have el1 : (l0 : Int) + 1 = ((l0 + 1 : Nat) : Int) := by omega
  have z1 : 1 ≤ sizeLine := by decide
  have ez : room - l0 + 1 - (l0 + 1) = room - l0 - l0 := by omega
  have r2 : ∀ cs, rng2D (.int ((l0 + 1 : Nat) : Int)) (.int ((room : Int) - (l0 : Int) + 1)) cs = .ok ((List.range' (l0 + 1) (room - l0 - l0)).map nD) cs := fun cs => by
    rw [rng2D_int (l0 + 1) (room - l0 + 1) ((room : Int) - (l0 : Int) + 1) (by omega) (by omega) (by omega) cs, rng_nD, ez]
  unfold pl2
  simp only [sm, thenF_nx, thenF_ret, thenF_brk, thenF_cnt, den, ofVT, ofVB, noDen, baseA, cmpD, bltD, bind_ok, ofRes_some, getV_0, getV_s, getB_0, getB_s, truth_bl, truth_int, cmp_lt, cmp_le, cmp_gt, cmp_ge, List.getElem?_cons_zero, List.getElem?_cons_succ, List.set_cons_zero, List.set_cons_succ, if_true, if_false, reduceIte, decide_true, decide_false, end_ret, end_nx, List.length_cons, List.length_nil, Nat.zero_add, Nat.reduceAdd, Nat.reduceLT, Nat.reduceLeDiff, Nat.zero_le, and_self, Bool.not_true, Bool.not_false, Bool.false_eq_true, items_lst, items_tup, deref_lst, deref_tup, deref_str, deref_int, getA_0, getA_s, bin_add, bin_sub, el1, r2, z1]
  try simp only [Dv.bind_assoc]
  refine comp_sub (c := 1) (n := 12) (fun x hx b' cs2 h1 h2 hp => ?_) (by simp; omega) (by decide) h fun ys cs2 hy hp2 => ?_
  · obtain ⟨t, ht, rfl⟩ := List.mem_map.mp hx
    have hz : ((List.range' (l0 + 1) (room - l0 - l0)).map nD).length ≤ 12 := by simp; omega
    simp only [sm, thenF_nx, thenF_ret, thenF_brk, thenF_cnt, den, ofVT, ofVB, noDen, baseA, cmpD, bltD, bind_ok, ofRes_some, getV_0, getV_s, getB_0, getB_s, truth_bl, truth_int, cmp_lt, cmp_le, cmp_gt, cmp_ge, List.getElem?_cons_zero, List.getElem?_cons_succ, List.set_cons_zero, List.set_cons_succ, if_true, if_false, reduceIte, decide_true, decide_false, end_ret, end_nx, List.length_cons, List.length_nil, Nat.zero_add, Nat.reduceAdd, Nat.reduceLT, Nat.reduceLeDiff, Nat.zero_le, and_self, Bool.not_true, Bool.not_false, Bool.false_eq_true, items_lst, items_tup, deref_lst, deref_tup, deref_str, deref_int, getA_0, getA_s, turnD, setTg, setAll, wipeE]
    try simp only [Dv.bind_assoc]
    refine wp_at (r_draw (k := k) (m := 3) H hp (by omega) (by omega) (by omega)) ?_
    rintro _ cs3 ⟨⟨u, hu, rfl⟩, hp3⟩
    by_cases q : (u : Int) = 0
    · simp only [sm, thenF_nx, thenF_ret, thenF_brk, thenF_cnt, den, ofVT, ofVB, noDen, baseA, cmpD, bltD, bind_ok, ofRes_some, getV_0, getV_s, getB_0, getB_s, truth_bl, truth_int, cmp_lt, cmp_le, cmp_gt, cmp_ge, List.getElem?_cons_zero, List.getElem?_cons_succ, List.set_cons_zero, List.set_cons_succ, if_true, if_false, reduceIte, decide_true, decide_false, end_ret, end_nx, List.length_cons, List.length_nil, Nat.zero_add, Nat.reduceAdd, Nat.reduceLT, Nat.reduceLeDiff, Nat.zero_le, and_self, Bool.not_true, Bool.not_false, Bool.false_eq_true, items_lst, items_tup, deref_lst, deref_tup, deref_str, deref_int, getA_0, getA_s, eq_int, q]
      exact (wp_ok _ _ _).mpr ⟨.inl rfl, hp3⟩
    · simp only [sm, thenF_nx, thenF_ret, thenF_brk, thenF_cnt, den, ofVT, ofVB, noDen, baseA, cmpD, bltD, bind_ok, ofRes_some, getV_0, getV_s, getB_0, getB_s, truth_bl, truth_int, cmp_lt, cmp_le, cmp_gt, cmp_ge, List.getElem?_cons_zero, List.getElem?_cons_succ, List.set_cons_zero, List.set_cons_succ, if_true, if_false, reduceIte, decide_true, decide_false, end_ret, end_nx, List.length_cons, List.length_nil, Nat.zero_add, Nat.reduceAdd, Nat.reduceLT, Nat.reduceLeDiff, Nat.zero_le, and_self, Bool.not_true, Bool.not_false, Bool.false_eq_true, items_lst, items_tup, deref_lst, deref_tup, deref_str, deref_int, getA_0, getA_s, eq_int, q]
      exact (wp_ok _ _ _).mpr ⟨.inr rfl, hp3⟩
  · obtain ⟨zs, hz, rfl⟩ := List.sublist_map_iff.mp hy
    have hl2 := hz.length_le
    rw [List.length_range'] at hl2
    have hadd : binD T (run T (k + 1)) .add (.lst [nD l0]) (.lst (zs.map nD)) cs2 = .ok (.lst ([nD l0] ++ zs.map nD)) cs2 := add_lstD _ _ (by simp; exact Nat.le_trans (show _ ≤ 20 by omega) (by decide)) cs2
    simp only [sm, thenF_nx, thenF_ret, thenF_brk, thenF_cnt, den, ofVT, ofVB, noDen, baseA, cmpD, bltD, bind_ok, ofRes_some, getV_0, getV_s, getB_0, getB_s, truth_bl, truth_int, cmp_lt, cmp_le, cmp_gt, cmp_ge, List.getElem?_cons_zero, List.getElem?_cons_succ, List.set_cons_zero, List.set_cons_succ, if_true, if_false, reduceIte, decide_true, decide_false, end_ret, end_nx, List.length_cons, List.length_nil, Nat.zero_add, Nat.reduceAdd, Nat.reduceLT, Nat.reduceLeDiff, Nat.zero_le, and_self, Bool.not_true, Bool.not_false, Bool.false_eq_true, items_lst, items_tup, deref_lst, deref_tup, deref_str, deref_int, getA_0, getA_s, hadd]
    exact (wp_ok _ _ _).mpr ⟨⟨zs, hz, rfl⟩, hp2⟩
theorem pl3_wp (H : Draws T i) (hj : Has T j (fPick i)) (h : Pn tl b cs) (hb : b < 900000) (hr : room ≤ 12) : Wp (sm T (run T (k + 2)) (pl3 i j) (plE s1 s2 s3 s4 room l0 s7) cs) fun f cs' => (∃ low, low ≤ room + 1 ∧ f = .nx (plE s1 (.val (nD low)) s3 s4 room l0 s7)) ∧ Pn tl (b + 2) cs' := by
  have dv : okDiv 2 = true := rfl
  have z1 : 6 ≤ sizeLine := by decide
  unfold pl3
  simp only [sm, thenF_nx, thenF_ret, thenF_brk, thenF_cnt, den, ofVT, ofVB, noDen, baseA, cmpD, bltD, bind_ok, ofRes_some, getV_0, getV_s, getB_0, getB_s, truth_bl, truth_int, cmp_lt, cmp_le, cmp_gt, cmp_ge, List.getElem?_cons_zero, List.getElem?_cons_succ, List.set_cons_zero, List.set_cons_succ, if_true, if_false, reduceIte, decide_true, decide_false, end_ret, end_nx, List.length_cons, List.length_nil, Nat.zero_add, Nat.reduceAdd, Nat.reduceLT, Nat.reduceLeDiff, Nat.zero_le, and_self, Bool.not_true, Bool.not_false, Bool.false_eq_true, items_lst, items_tup, deref_lst, deref_tup, deref_str, deref_int, getA_0, getA_s, bin_add, bin_div T _ dv]
  try simp only [Dv.bind_assoc]
  refine wp_at (r_draw (k := k + 1) (m := room + 2) H h (by omega) (by omega) (by omega)) ?_
  rintro _ cs1 ⟨⟨r, hr2, rfl⟩, hp1⟩
  simp only [sm, thenF_nx, thenF_ret, thenF_brk, thenF_cnt, den, ofVT, ofVB, noDen, baseA, cmpD, bltD, bind_ok, ofRes_some, getV_0, getV_s, getB_0, getB_s, truth_bl, truth_int, cmp_lt, cmp_le, cmp_gt, cmp_ge, List.getElem?_cons_zero, List.getElem?_cons_succ, List.set_cons_zero, List.set_cons_succ, if_true, if_false, reduceIte, decide_true, decide_false, end_ret, end_nx, List.length_cons, List.length_nil, Nat.zero_add, Nat.reduceAdd, Nat.reduceLT, Nat.reduceLeDiff, Nat.zero_le, and_self, Bool.not_true, Bool.not_false, Bool.false_eq_true, items_lst, items_tup, deref_lst, deref_tup, deref_str, deref_int, getA_0, getA_s, z1]
  try simp only [Dv.bind_assoc]
  refine wp_at (r_pick (k := k) H hj hp1 _ (by simp) (by simp) (by omega)) ?_
  rintro d cs2 ⟨hd, hp2⟩
  have hd : ∃ low : Nat, low ≤ room + 1 ∧ d = nD low := by
    simp only [List.mem_cons, List.not_mem_nil, or_false] at hd
    rcases hd with rfl | rfl | rfl | rfl | rfl | rfl
    · exact ⟨0, by omega, rfl⟩
    · exact ⟨1, by omega, rfl⟩
    · exact ⟨room / 2, by omega, rfl⟩
    · exact ⟨room / 2 + 1, by omega, rfl⟩
    · exact ⟨room + 1, by omega, rfl⟩
    · exact ⟨r, by omega, rfl⟩
  obtain ⟨low, hlow, rfl⟩ := hd
  simp only [sm, thenF_nx, thenF_ret, thenF_brk, thenF_cnt, den, ofVT, ofVB, noDen, baseA, cmpD, bltD, bind_ok, ofRes_some, getV_0, getV_s, getB_0, getB_s, truth_bl, truth_int, cmp_lt, cmp_le, cmp_gt, cmp_ge, List.getElem?_cons_zero, List.getElem?_cons_succ, List.set_cons_zero, List.set_cons_succ, if_true, if_false, reduceIte, decide_true, decide_false, end_ret, end_nx, List.length_cons, List.length_nil, Nat.zero_add, Nat.reduceAdd, Nat.reduceLT, Nat.reduceLeDiff, Nat.zero_le, and_self, Bool.not_true, Bool.not_false, Bool.false_eq_true, items_lst, items_tup, deref_lst, deref_tup, deref_str, deref_int, getA_0, getA_s]
  exact (wp_ok _ _ _).mpr ⟨⟨low, hlow, rfl⟩, hp2⟩
theorem pl4_wp (H : Draws T i) (hj : Has T j (fPick i)) (h : Pn tl b cs) (hb : b < 900000) (hr : room ≤ 12) (hr1 : 1 ≤ room) : Wp (sm T (run T (k + 2)) (pl4 i j) (plE s1 s2 s3 s4 room l0 s7) cs) fun f cs' => (∃ low, low ≤ room ∧ f = .nx (plE s1 s2 (.val (nD low)) s4 room l0 s7)) ∧ Pn tl (b + 2) cs' := by
  have dv : okDiv 2 = true := rfl
  have z1 : 6 ≤ sizeLine := by decide
  unfold pl4
  simp only [sm, thenF_nx, thenF_ret, thenF_brk, thenF_cnt, den, ofVT, ofVB, noDen, baseA, cmpD, bltD, bind_ok, ofRes_some, getV_0, getV_s, getB_0, getB_s, truth_bl, truth_int, cmp_lt, cmp_le, cmp_gt, cmp_ge, List.getElem?_cons_zero, List.getElem?_cons_succ, List.set_cons_zero, List.set_cons_succ, if_true, if_false, reduceIte, decide_true, decide_false, end_ret, end_nx, List.length_cons, List.length_nil, Nat.zero_add, Nat.reduceAdd, Nat.reduceLT, Nat.reduceLeDiff, Nat.zero_le, and_self, Bool.not_true, Bool.not_false, Bool.false_eq_true, items_lst, items_tup, deref_lst, deref_tup, deref_str, deref_int, getA_0, getA_s, bin_add, bin_sub, bin_div T _ dv]
  try simp only [Dv.bind_assoc]
  refine wp_at (r_draw (k := k + 1) (m := room + 1) H h (by omega) (by omega) (by omega)) ?_
  rintro _ cs1 ⟨⟨r, hr2, rfl⟩, hp1⟩
  simp only [sm, thenF_nx, thenF_ret, thenF_brk, thenF_cnt, den, ofVT, ofVB, noDen, baseA, cmpD, bltD, bind_ok, ofRes_some, getV_0, getV_s, getB_0, getB_s, truth_bl, truth_int, cmp_lt, cmp_le, cmp_gt, cmp_ge, List.getElem?_cons_zero, List.getElem?_cons_succ, List.set_cons_zero, List.set_cons_succ, if_true, if_false, reduceIte, decide_true, decide_false, end_ret, end_nx, List.length_cons, List.length_nil, Nat.zero_add, Nat.reduceAdd, Nat.reduceLT, Nat.reduceLeDiff, Nat.zero_le, and_self, Bool.not_true, Bool.not_false, Bool.false_eq_true, items_lst, items_tup, deref_lst, deref_tup, deref_str, deref_int, getA_0, getA_s, z1]
  try simp only [Dv.bind_assoc]
  refine wp_at (r_pick (k := k) H hj hp1 _ (by simp) (by simp) (by omega)) ?_
  rintro d cs2 ⟨hd, hp2⟩
  have hd : ∃ low : Nat, low ≤ room ∧ d = nD low := by
    simp only [List.mem_cons, List.not_mem_nil, or_false] at hd
    rcases hd with rfl | rfl | rfl | rfl | rfl | rfl
    · exact ⟨room, by omega, rfl⟩
    · exact ⟨room, by omega, rfl⟩
    · exact ⟨room - 1, by omega, by simp only [nD]; congr 1; omega⟩
    · exact ⟨room / 2, by omega, rfl⟩
    · exact ⟨0, by omega, rfl⟩
    · exact ⟨r, by omega, rfl⟩
  obtain ⟨low, hlow, rfl⟩ := hd
  simp only [sm, thenF_nx, thenF_ret, thenF_brk, thenF_cnt, den, ofVT, ofVB, noDen, baseA, cmpD, bltD, bind_ok, ofRes_some, getV_0, getV_s, getB_0, getB_s, truth_bl, truth_int, cmp_lt, cmp_le, cmp_gt, cmp_ge, List.getElem?_cons_zero, List.getElem?_cons_succ, List.set_cons_zero, List.set_cons_succ, if_true, if_false, reduceIte, decide_true, decide_false, end_ret, end_nx, List.length_cons, List.length_nil, Nat.zero_add, Nat.reduceAdd, Nat.reduceLT, Nat.reduceLeDiff, Nat.zero_le, and_self, Bool.not_true, Bool.not_false, Bool.false_eq_true, items_lst, items_tup, deref_lst, deref_tup, deref_str, deref_int, getA_0, getA_s]
  exact (wp_ok _ _ _).mpr ⟨⟨low, hlow, rfl⟩, hp2⟩
theorem strs_mem {xs : List Str} {d : Dv.D} (h : d ∈ xs.map Dv.D.str) : ∃ x ∈ xs, d = .str x := by
  obtain ⟨x, hx, e⟩ := List.mem_map.mp h
  exact ⟨x, hx, e.symm⟩
theorem pl5_wp (H : Draws T i) (hj : Has T j (fPick i)) (h : Pn tl b cs) (hb : b < 900000) : Wp (sm T (run T (k + 2)) (pl5 j) (plE s1 s2 s3 s4 room l0 s7) cs) fun f cs' => (∃ lk ct sd, lk ∈ lks ∧ ct ∈ cts ∧ sd ∈ sds ∧ f = .nx (plE s1 s2 s3 (.val (.tup [.str lk, .str ct, .str sd])) room l0 s7)) ∧ Pn tl (b + 3) cs' := by
  have z2 : 2 ≤ sizeLine := by decide
  have z3 : 3 ≤ sizeLine := by decide
  unfold pl5
  simp only [sm, thenF_nx, thenF_ret, thenF_brk, thenF_cnt, den, ofVT, ofVB, noDen, baseA, cmpD, bltD, bind_ok, ofRes_some, getV_0, getV_s, getB_0, getB_s, truth_bl, truth_int, cmp_lt, cmp_le, cmp_gt, cmp_ge, List.getElem?_cons_zero, List.getElem?_cons_succ, List.set_cons_zero, List.set_cons_succ, if_true, if_false, reduceIte, decide_true, decide_false, end_ret, end_nx, List.length_cons, List.length_nil, Nat.zero_add, Nat.reduceAdd, Nat.reduceLT, Nat.reduceLeDiff, Nat.zero_le, and_self, Bool.not_true, Bool.not_false, Bool.false_eq_true, items_lst, items_tup, deref_lst, deref_tup, deref_str, deref_int, getA_0, getA_s, z2]
  try simp only [Dv.bind_assoc]
  refine wp_at (r_pick (k := k) H hj h (lks.map Dv.D.str) (by decide) (by decide) (by omega)) ?_
  rintro _ cs1 ⟨h1, hp1⟩
  obtain ⟨lk, k1, rfl⟩ := strs_mem h1
  simp only [sm, thenF_nx, thenF_ret, thenF_brk, thenF_cnt, den, ofVT, ofVB, noDen, baseA, cmpD, bltD, bind_ok, ofRes_some, getV_0, getV_s, getB_0, getB_s, truth_bl, truth_int, cmp_lt, cmp_le, cmp_gt, cmp_ge, List.getElem?_cons_zero, List.getElem?_cons_succ, List.set_cons_zero, List.set_cons_succ, if_true, if_false, reduceIte, decide_true, decide_false, end_ret, end_nx, List.length_cons, List.length_nil, Nat.zero_add, Nat.reduceAdd, Nat.reduceLT, Nat.reduceLeDiff, Nat.zero_le, and_self, Bool.not_true, Bool.not_false, Bool.false_eq_true, items_lst, items_tup, deref_lst, deref_tup, deref_str, deref_int, getA_0, getA_s, z3]
  try simp only [Dv.bind_assoc]
  refine wp_at (r_pick (k := k) H hj hp1 (cts.map Dv.D.str) (by decide) (by decide) (by omega)) ?_
  rintro _ cs2 ⟨h2, hp2⟩
  obtain ⟨ct, k2, rfl⟩ := strs_mem h2
  simp only [sm, thenF_nx, thenF_ret, thenF_brk, thenF_cnt, den, ofVT, ofVB, noDen, baseA, cmpD, bltD, bind_ok, ofRes_some, getV_0, getV_s, getB_0, getB_s, truth_bl, truth_int, cmp_lt, cmp_le, cmp_gt, cmp_ge, List.getElem?_cons_zero, List.getElem?_cons_succ, List.set_cons_zero, List.set_cons_succ, if_true, if_false, reduceIte, decide_true, decide_false, end_ret, end_nx, List.length_cons, List.length_nil, Nat.zero_add, Nat.reduceAdd, Nat.reduceLT, Nat.reduceLeDiff, Nat.zero_le, and_self, Bool.not_true, Bool.not_false, Bool.false_eq_true, items_lst, items_tup, deref_lst, deref_tup, deref_str, deref_int, getA_0, getA_s, z2]
  try simp only [Dv.bind_assoc]
  refine wp_at (r_pick (k := k) H hj hp2 (sds.map Dv.D.str) (by decide) (by decide) (by omega)) ?_
  rintro _ cs3 ⟨h3, hp3⟩
  obtain ⟨sd, k3, rfl⟩ := strs_mem h3
  simp only [sm, thenF_nx, thenF_ret, thenF_brk, thenF_cnt, den, ofVT, ofVB, noDen, baseA, cmpD, bltD, bind_ok, ofRes_some, getV_0, getV_s, getB_0, getB_s, truth_bl, truth_int, cmp_lt, cmp_le, cmp_gt, cmp_ge, List.getElem?_cons_zero, List.getElem?_cons_succ, List.set_cons_zero, List.set_cons_succ, if_true, if_false, reduceIte, decide_true, decide_false, end_ret, end_nx, List.length_cons, List.length_nil, Nat.zero_add, Nat.reduceAdd, Nat.reduceLT, Nat.reduceLeDiff, Nat.zero_le, and_self, Bool.not_true, Bool.not_false, Bool.false_eq_true, items_lst, items_tup, deref_lst, deref_tup, deref_str, deref_int, getA_0, getA_s, z3]
  exact (wp_ok _ _ _).mpr ⟨⟨lk, ct, sd, k1, k2, k3, rfl⟩, hp3⟩
theorem r_plain {p : Nat} (H : Draws T i) (hj : Has T j (fPick i)) (hp : Has T p (fPlain i j)) (h : Pn tl b cs) (hb : b < 800000) : Wp (run T (k + 3) false p [.cell 0] cs) fun d cs' => (∃ p : Pb, PbOk p ∧ p.room ≤ 12 ∧ d = plD p) ∧ Pn tl (b + 30) cs' := by
  rw [run_of (ρ := [.val (.cell 0), .emp, .emp, .emp, .emp, .emp, .emp, .emp]) hp.at_ rfl rfl]
  show Wp ((sm T (run T (k + 2)) (.seq (pl1 i) (.seq (pl2 i) (.seq (pl3 i j) (.seq (pl4 i j) (.seq (pl5 j) (.seq pl6 .skip)))))) _ cs).bind endF) _
  rw [sm_seq]
  try simp only [Dv.bind_assoc]
  refine wp_at (pl1_wp (k := k + 1) H h (by omega)) ?_
  rintro _ cs1 ⟨⟨room, l0, r1, r2, l1, l2, rfl⟩, hp1⟩
  rw [thenF_nx, sm_seq]
  try simp only [Dv.bind_assoc]
  refine wp_at (pl2_wp (k := k + 1) H hp1 (by omega) r2 l1 (by omega)) ?_
  rintro _ cs2 ⟨⟨ys, hy, rfl⟩, hp2⟩
  rw [thenF_nx, sm_seq]
  try simp only [Dv.bind_assoc]
  refine wp_at (pl3_wp (k := k) H hj hp2 (by omega) r2) ?_
  rintro _ cs3 ⟨⟨low, hlow, rfl⟩, hp3⟩
  rw [thenF_nx, sm_seq]
  try simp only [Dv.bind_assoc]
  refine wp_at (pl4_wp (k := k) H hj hp3 (by omega) r2 (by omega)) ?_
  rintro _ cs4 ⟨⟨bound, hbound, rfl⟩, hp4⟩
  rw [thenF_nx, sm_seq]
  try simp only [Dv.bind_assoc]
  refine wp_at (pl5_wp (k := k) H hj hp4 (by omega)) ?_
  rintro _ cs5 ⟨⟨lk, ct, sd, k1, k2, k3, rfl⟩, hp5⟩
  have hcut : cutD ((l0 :: ys).map nD) none (some 6) = (l0 :: ys.take 5).map nD := by
    show cutG ((l0 :: ys).map nD) none (some ((6 : Nat) : Int)) = _
    rw [cut_top, ← List.map_take]
    rfl
  have z4 : 4 ≤ sizeLine := by decide
  unfold pl6
  simp only [sm, thenF_nx, thenF_ret, thenF_brk, thenF_cnt, den, ofVT, ofVB, noDen, baseA, cmpD, bltD, bind_ok, ofRes_some, getV_0, getV_s, getB_0, getB_s, truth_bl, truth_int, cmp_lt, cmp_le, cmp_gt, cmp_ge, List.getElem?_cons_zero, List.getElem?_cons_succ, List.set_cons_zero, List.set_cons_succ, if_true, if_false, reduceIte, decide_true, decide_false, end_ret, end_nx, List.length_cons, List.length_nil, Nat.zero_add, Nat.reduceAdd, Nat.reduceLT, Nat.reduceLeDiff, Nat.zero_le, and_self, Bool.not_true, Bool.not_false, Bool.false_eq_true, items_lst, items_tup, deref_lst, deref_tup, deref_str, deref_int, getA_0, getA_s, hcut, bTuple, seq_lst, Option.map_some, z4]
  have ha := add_tupD (T := T) (O := run T (k + 2)) (cs := cs5) [nD room, .tup ((l0 :: ys.take 5).map nD), nD low, nD bound] [.str lk, .str ct, .str sd] (show 7 ≤ sizeLine by decide)
  simp only [sm, thenF_nx, thenF_ret, thenF_brk, thenF_cnt, den, ofVT, ofVB, noDen, baseA, cmpD, bltD, bind_ok, ofRes_some, getV_0, getV_s, getB_0, getB_s, truth_bl, truth_int, cmp_lt, cmp_le, cmp_gt, cmp_ge, List.getElem?_cons_zero, List.getElem?_cons_succ, List.set_cons_zero, List.set_cons_succ, if_true, if_false, reduceIte, decide_true, decide_false, end_ret, end_nx, List.length_cons, List.length_nil, Nat.zero_add, Nat.reduceAdd, Nat.reduceLT, Nat.reduceLeDiff, Nat.zero_le, and_self, Bool.not_true, Bool.not_false, Bool.false_eq_true, items_lst, items_tup, deref_lst, deref_tup, deref_str, deref_int, getA_0, getA_s, ha]
  have hy2 := (List.take_sublist 5 ys).trans hy
  have hy3 : (ys.take 5).length ≤ 5 := by simp; omega
  generalize ys.take 5 = zs at hy2 hy3
  have hb : ∀ l ∈ l0 :: zs, l0 ≤ l ∧ l ≤ room - l0 := fun l hl => by
    rcases List.mem_cons.mp hl with rfl | hl
    · omega
    · have := List.mem_range'_1.mp (hy2.subset hl)
      omega
  refine (wp_ok _ _ _).mpr ⟨⟨⟨room, l0, zs, low, bound, lk, ct, sd⟩, ⟨⟨show 2 ≤ room by omega, show room ≤ 60 by omega⟩, ?_, fun l hl => ⟨?_, ?_⟩, ?_, ?_, hlow, hbound, k1, k2, k3⟩, r2, rfl⟩, hp5.mono (by omega)⟩
  · refine List.pairwise_cons.mpr ⟨fun l hl => ?_, (List.pairwise_lt_range' (s := l0 + 1) (n := room - l0 - l0)).sublist hy2⟩
    have := List.mem_range'_1.mp (hy2.subset hl)
    show l0 < l
    omega
  · have := hb l hl; omega
  · have := hb l hl; omega
  · show zs.length + 1 ≤ 6
    omega
  · have := hb _ (List.getLast_mem (l := l0 :: zs) (by simp))
    show l0 + (l0 :: zs).getLast _ ≤ room
    omega
end Pk
end
section
set_option Elab.async false
set_option linter.all false
set_option maxRecDepth 100000
set_option maxHeartbeats 400000
namespace Pk
open PySem PySem.Spec PyProof.Rows L2 Dv
variable {T : Tab} {O : Orc} {k : Nat} {cs : Cells} {i j : Nat} {tl : Cells} {b m : Nat}
/-! ### a book made of a plain one -/
structure HasMade (T : Tab) : Prop extends HasBook T where
  f8 : Has T 8 f_length_in
  f9 : Has T 9 f_lengths_in
  f21 : Has T 21 f_Lengths_read
  cm : (T.cls[0]?).bind (fun k => k.cms.lookup 18) = some 21
  its : ∃ c, T.cls[0]? = some c ∧ c.its = some 0 ∧ (c.meths.lookup nIter).isSome = true
theorem HasMade.rd (H : HasMade T) : HasRd T := { H.toHasLen with f8 := H.f8, f9 := H.f9, f21 := H.f21 }
def mkText (v : Nat) (i : Nat) : Ex := .cmeth 0 18 (.cons (.join (.str " ") (.comp (.blt .str (.cons (.var v) .nil)) [v] true (.sub (.var i) (.int 1)) .nil)) .nil)
def ma2 : Sm := .ret (.new 1 (.cons (.sub (.var 0) (.int 0)) (.cons (.var 1) (.cons (.sub (.var 0) (.int 2)) (.cons (.sub (.var 0) (.int 3)) (.cons (.sub (.var 0) (.int 4)) (.cons (.sub (.var 0) (.int 5)) (.cons (.sub (.var 0) (.int 6)) .nil))))))))
def fMade : Fn := ⟨1, false, 3, [], none, (.seq (.set 1 (mkText 2 0)) (.seq ma2 .skip))⟩
section
variable (T O) (a b c d e f g : Dv.D)
theorem sb0 (cs : Cells) : subD T O (.tup [a, b, c, d, e, f, g]) (.int 0) cs = .ok a cs := rfl
theorem sb1 (cs : Cells) : subD T O (.tup [a, b, c, d, e, f, g]) (.int 1) cs = .ok b cs := rfl
theorem sb2 (cs : Cells) : subD T O (.tup [a, b, c, d, e, f, g]) (.int 2) cs = .ok c cs := rfl
theorem sb3 (cs : Cells) : subD T O (.tup [a, b, c, d, e, f, g]) (.int 3) cs = .ok d cs := rfl
theorem sb4 (cs : Cells) : subD T O (.tup [a, b, c, d, e, f, g]) (.int 4) cs = .ok e cs := rfl
theorem sb5 (cs : Cells) : subD T O (.tup [a, b, c, d, e, f, g]) (.int 5) cs = .ok f cs := rfl
theorem sb6 (cs : Cells) : subD T O (.tup [a, b, c, d, e, f, g]) (.int 6) cs = .ok g cs := rfl
end
theorem strs_map (xs : List Str) : strsD (xs.map Dv.D.str) = some xs := by
  induction xs with
  | nil => rfl
  | cons x xs ih => rw [List.map_cons, strsD, ih]; rfl
theorem join_txt {ns : List Nat} (h : ∀ n ∈ ns, 1 ≤ n ∧ n ≤ 60) (hl : ns.length ≤ 6) (cs : Cells) : joinD " " (.lst (ns.map fun n => .str (wd n))) cs = .ok (.str (txtL ns)) cs := by
  have e : (ns.map fun n => Dv.D.str (wd n)) = (ns.map wd).map Dv.D.str := by rw [List.map_map]; rfl
  have hz : ((ns.map wd).map (·.length)).sum + (ns.map wd).length * (" " : Str).length ≤ 16777216 := by
    have := joinW h
    have e : (" " : Str).length = 1 := by decide +kernel
    rw [e, List.length_map]
    omega
  unfold joinD
  rw [e, seq_lst]
  simp only [strs_map]
  rw [if_pos hz]
  rfl
theorem sub1 (p : Pb) (O : Orc) (cs : Cells) : subD T O (plD p) (.int 1) cs = .ok (.tup ((p.l0 :: p.L).map nD)) cs := rfl
theorem str_n {n : Nat} (h : n ≤ 60) (cs : Cells) : bStr T O [nD n] cs = .ok (.str (wd n)) cs := by
  show (if ((n : Nat) : Int).natAbs.log2 < 1920 then _ else _) = _
  rw [if_pos (by
    rw [Int.natAbs_natCast]
    exact Nat.lt_of_le_of_lt (Nat.log2_le_self n) (by omega))]
  rfl
theorem wipe1 (ρ : Dv.Env) (v : Nat) (hv : v < ρ.length) (d : Dv.D) : setTg [v] true d (wipeE ρ [v]) = some (ρ.set v (.val d)) := by
  show (if v < (ρ.set v .emp).length then some ((ρ.set v .emp).set v (.val d)) else none) = _
  rw [if_pos (by simpa using hv), List.set_set]
theorem getB_set (ρ : Dv.Env) (v : Nat) (hv : v < ρ.length) (d : Dv.D) : getB (ρ.set v (.val d)) v = some d := by
  unfold getB
  rw [List.getElem?_set_self hv]
theorem getV_set (ρ : Dv.Env) (v : Nat) (hv : v < ρ.length) (d : Dv.D) : getV (ρ.set v (.val d)) v = some d := by
  unfold getV
  rw [List.getElem?_set_self hv]
theorem r_text (H : HasMade T) {p : Pb} (h : PbOk p) {v i : Nat} {ρ : Dv.Env} (hg : getB ρ i = some (plD p)) (hv : v < ρ.length) : ∃ F, (den T (run T (k + 6)) (mkText v i)).v ρ cs = .ok (lenD p.l0 p.L F) cs ∧ LenOk p.l0 p.L F := by
  obtain ⟨F, e, hF⟩ := r_read (k := k + 1) (cs := cs) H.rd h.asc h.bd h.few
  refine ⟨F, ?_, hF⟩
  unfold mkText
  simp only [sm, thenF_nx, thenF_ret, thenF_brk, thenF_cnt, den, ofVT, ofVB, noDen, baseA, cmpD, bltD, bind_ok, ofRes_some, getV_0, getV_s, getB_0, getB_s, truth_bl, truth_int, cmp_lt, cmp_le, cmp_gt, cmp_ge, List.getElem?_cons_zero, List.getElem?_cons_succ, List.set_cons_zero, List.set_cons_succ, if_true, if_false, reduceIte, decide_true, decide_false, end_ret, end_nx, List.length_cons, List.length_nil, Nat.zero_add, Nat.reduceAdd, Nat.reduceLT, Nat.reduceLeDiff, Nat.zero_le, and_self, Bool.not_true, Bool.not_false, Bool.false_eq_true, items_lst, items_tup, deref_lst, deref_tup, deref_str, deref_int, getA_0, getA_s, hg, sub1, itemsI_tup]
  simp only [Dv.bind_assoc]
  refine comp_bind (fun d => match d with | .int n => .str (wd n.toNat) | d => d) (fun x hx => ?_) (by simpa using Nat.le_trans h.few (by decide)) ?_
  · obtain ⟨n, hn, rfl⟩ := List.mem_map.mp hx
    have hb := h.bd n hn
    unfold turnD
    rw [wipe1 _ _ hv]
    simp only [sm, thenF_nx, thenF_ret, thenF_brk, thenF_cnt, den, ofVT, ofVB, noDen, baseA, cmpD, bltD, bind_ok, ofRes_some, getV_0, getV_s, getB_0, getB_s, truth_bl, truth_int, cmp_lt, cmp_le, cmp_gt, cmp_ge, List.getElem?_cons_zero, List.getElem?_cons_succ, List.set_cons_zero, List.set_cons_succ, if_true, if_false, reduceIte, decide_true, decide_false, end_ret, end_nx, List.length_cons, List.length_nil, Nat.zero_add, Nat.reduceAdd, Nat.reduceLT, Nat.reduceLeDiff, Nat.zero_le, and_self, Bool.not_true, Bool.not_false, Bool.false_eq_true, items_lst, items_tup, deref_lst, deref_tup, deref_str, deref_int, getA_0, getA_s, getB_set _ _ hv, getV_set _ _ hv, str_n hb.2, Int.toNat_natCast]
  · have e2 : ((p.l0 :: p.L).map nD).map (fun d => match d with | .int n => Dv.D.str (wd n.toNat) | d => d) = (p.l0 :: p.L).map fun n => Dv.D.str (wd n) := by
      rw [List.map_map]
      rfl
    rw [e2]
    have ej := join_txt h.bd h.few cs
    simp only [sm, thenF_nx, thenF_ret, thenF_brk, thenF_cnt, den, ofVT, ofVB, noDen, baseA, cmpD, bltD, bind_ok, ofRes_some, getV_0, getV_s, getB_0, getB_s, truth_bl, truth_int, cmp_lt, cmp_le, cmp_gt, cmp_ge, List.getElem?_cons_zero, List.getElem?_cons_succ, List.set_cons_zero, List.set_cons_succ, if_true, if_false, reduceIte, decide_true, decide_false, end_ret, end_nx, List.length_cons, List.length_nil, Nat.zero_add, Nat.reduceAdd, Nat.reduceLT, Nat.reduceLeDiff, Nat.zero_le, and_self, Bool.not_true, Bool.not_false, Bool.false_eq_true, items_lst, items_tup, deref_lst, deref_tup, deref_str, deref_int, getA_0, getA_s, ej, H.cm, e]
theorem r_made {n : Nat} (H : HasMade T) (hn : Has T n fMade) {p : Pb} (h : PbOk p) : ∃ F, run T (k + 7) false n [plD p] cs = .ok (bkD p F) cs ∧ LenOk p.l0 p.L F := by
  obtain ⟨F, e, hF⟩ := r_text (k := k) (cs := cs) H h (v := 2) (i := 0) (ρ := [.val (plD p), .emp, .emp]) rfl (by simp)
  refine ⟨F, ?_, hF⟩
  have eb := r_bk (k := k + 1) (cs := cs) H.toHasBook h hF
  obtain ⟨c, b1, _, b3, _⟩ := H.b
  rw [run_of (ρ := [.val (plD p), .emp, .emp]) hn.at_ rfl rfl]
  show (sm T (run T (k + 6)) (.seq (.set 1 (mkText 2 0)) (.seq ma2 .skip)) _ cs).bind endF = _
  unfold ma2
  simp only [sm, thenF_nx, thenF_ret, thenF_brk, thenF_cnt, den, ofVT, ofVB, noDen, baseA, cmpD, bltD, bind_ok, ofRes_some, getV_0, getV_s, getB_0, getB_s, truth_bl, truth_int, cmp_lt, cmp_le, cmp_gt, cmp_ge, List.getElem?_cons_zero, List.getElem?_cons_succ, List.set_cons_zero, List.set_cons_succ, if_true, if_false, reduceIte, decide_true, decide_false, end_ret, end_nx, List.length_cons, List.length_nil, Nat.zero_add, Nat.reduceAdd, Nat.reduceLT, Nat.reduceLeDiff, Nat.zero_le, and_self, Bool.not_true, Bool.not_false, Bool.false_eq_true, items_lst, items_tup, deref_lst, deref_tup, deref_str, deref_int, getA_0, getA_s, e, b1, b3]
  unfold plD
  simp only [sm, thenF_nx, thenF_ret, thenF_brk, thenF_cnt, den, ofVT, ofVB, noDen, baseA, cmpD, bltD, bind_ok, ofRes_some, getV_0, getV_s, getB_0, getB_s, truth_bl, truth_int, cmp_lt, cmp_le, cmp_gt, cmp_ge, List.getElem?_cons_zero, List.getElem?_cons_succ, List.set_cons_zero, List.set_cons_succ, if_true, if_false, reduceIte, decide_true, decide_false, end_ret, end_nx, List.length_cons, List.length_nil, Nat.zero_add, Nat.reduceAdd, Nat.reduceLT, Nat.reduceLeDiff, Nat.zero_le, and_self, Bool.not_true, Bool.not_false, Bool.false_eq_true, items_lst, items_tup, deref_lst, deref_tup, deref_str, deref_int, getA_0, getA_s, sb0, sb1, sb2, sb3, sb4, sb5, sb6, b1, b3, eb]
end Pk
end
section
set_option Elab.async false
set_option linter.all false
set_option maxRecDepth 100000
set_option maxHeartbeats 400000
namespace Pk
open PySem PySem.Spec PyProof.Rows L2 Dv
variable {T : Tab} {O : Orc} {k : Nat} {cs : Cells} {i j : Nat} {tl : Cells} {b m : Nat} {p : Pb} {F : FT}
/-! ### the law's own sums -/
def suIn : Sm := (.seq (.ite (.cmp .ne (.comp (.var 3) [3] true (.sub (.var 0) (.int 1)) (.cmpB .isin (.bin .sub (.var 2) (.var 3)) (.var 1))) (.lst .nil)) (.seq (.app 1 (.var 2)) .skip) .skip) .skip)
def fSums : Fn := ⟨1, false, 4, [], none, (.seq (.own 1 (.cons (.int 0) .nil)) (.seq (.for_ [2] true (.rng2 (.int 1) (.bin .add (.sub (.var 0) (.int 0)) (.int 1))) suIn) (.frz 1 (.seq (.ret (.slice (.var 1) (.int 1) .nil)) .skip))))⟩
def sumS (F : FT) (l0 t : Nat) : List Nat := 0 :: totL F l0 t
theorem in_nl (n : Int) (L : List Nat) : isIn1 (.int n) (.lst (L.map nD)) = some (L.any fun l => (l : Int) == n) := by
  show (match flatD (.int n), flats (L.map nD) with
    | some x, some xs => some (inV x xs)
    | _, _ => none) = _
  rw [flats_n]
  show some (inV (V.int n) _) = _
  unfold inV
  rw [List.any_map]
  rfl
theorem eq_nil (O : Orc) (xs : List Nat) (cs : Cells) : eqD T O (.lst (xs.map nD)) (.lst []) cs = .ok xs.isEmpty cs := by
  rw [map_nI, seqE]
  simp
theorem reach_step {ls : List Nat} (hb : ∀ l ∈ ls, 1 ≤ l) (n : Nat) : Reach ls (n + 1) ↔ ∃ l ∈ ls, l ≤ n + 1 ∧ Reach ls (n + 1 - l) := by
  constructor
  · rintro ⟨rows, r1, r2⟩
    cases rows with
    | nil => simp at r2
    | cons r rows =>
      refine ⟨r, r1 r List.mem_cons_self, ?_, rows, fun x hx => r1 x (List.mem_cons_of_mem _ hx), ?_⟩
      · simp at r2; omega
      · simp at r2; omega
  · rintro ⟨l, hl, hn, h⟩
    have := h.add hl
    rw [show n + 1 - l + l = n + 1 from by omega] at this
    exact this
theorem tot_succ (F : FT) (l0 t : Nat) : totL F l0 (t + 1) = totL F l0 t ++ (if hasB F l0 (t + 1) then [t + 1] else []) := by
  unfold totL
  rw [List.range'_concat, List.filter_append]
  congr 1
  simp [Nat.add_comm, List.filter_cons]
theorem sum_any (hF : LenOk p.l0 p.L F) (t : Nat) : ((p.l0 :: p.L).any fun l => (sumS F p.l0 t).any fun s => (s : Int) == ((t + 1 : Nat) : Int) - (l : Int)) = hasB F p.l0 (t + 1) := by
  rw [Bool.eq_iff_iff, hasB_iff hF, reach_step (fun l hl => (hF.bd l hl).1)]
  simp only [List.any_eq_true, beq_iff_eq]
  constructor
  · rintro ⟨l, hl, s, hs, e⟩
    refine ⟨l, hl, by omega, ?_⟩
    rw [show t + 1 - l = s from by omega]
    unfold sumS at hs
    rcases List.mem_cons.mp hs with rfl | hs
    · exact ⟨[], by simp, rfl⟩
    · exact ((tot_mem hF t s).mp hs).2.2
  · rintro ⟨l, hl, hn, h⟩
    refine ⟨l, hl, t + 1 - l, ?_, by omega⟩
    have hb := (hF.bd l hl).1
    by_cases q : t + 1 - l = 0
    · rw [q]; exact List.mem_cons_self
    · exact List.mem_cons_of_mem _ ((tot_mem hF t _).mpr ⟨by omega, by omega, h⟩)
theorem filt_any {α : Type} (f : α → Bool) : ∀ xs : List α, (!(xs.filter f).isEmpty) = xs.any f
  | [] => rfl
  | x :: xs => by
    rw [List.filter_cons, List.any_cons]
    cases f x with
    | true => simp
    | false => simpa using filt_any f xs
theorem su_step (hF : LenOk p.l0 p.L F) (t : Nat) (ht : t ≤ 60) (s3 : Slot) : sm T O suIn [.val (plD p), .own (.lst ((sumS F p.l0 t).map nD)), .val (nD (t + 1)), s3] cs = .ok (.nx [.val (plD p), .own (.lst ((sumS F p.l0 (t + 1)).map nD)), .val (nD (t + 1)), s3]) cs := by
  unfold suIn
  simp only [sm, thenF_nx, thenF_ret, thenF_brk, thenF_cnt, den, ofVT, ofVB, noDen, baseA, cmpD, bltD, bind_ok, ofRes_some, getV_0, getV_s, getB_0, getB_s, truth_bl, truth_int, cmp_lt, cmp_le, cmp_gt, cmp_ge, List.getElem?_cons_zero, List.getElem?_cons_succ, List.set_cons_zero, List.set_cons_succ, if_true, if_false, reduceIte, decide_true, decide_false, end_ret, end_nx, List.length_cons, List.length_nil, Nat.zero_add, Nat.reduceAdd, Nat.reduceLT, Nat.reduceLeDiff, Nat.zero_le, and_self, Bool.not_true, Bool.not_false, Bool.false_eq_true, items_lst, items_tup, deref_lst, deref_tup, deref_str, deref_int, getA_0, getA_s, sub1, itemsI_tup]
  simp only [Dv.bind_assoc]
  refine comp_filt (fun d => match d with | .int n => (sumS F p.l0 t).any fun s => (s : Int) == ((t + 1 : Nat) : Int) - n | _ => false) (fun x hx => ?_) (by simpa using Nat.le_trans hF.few (by decide)) ?_
  · obtain ⟨n, hn, rfl⟩ := List.mem_map.mp hx
    simp only [sm, thenF_nx, thenF_ret, thenF_brk, thenF_cnt, den, ofVT, ofVB, noDen, baseA, cmpD, bltD, bind_ok, ofRes_some, getV_0, getV_s, getB_0, getB_s, truth_bl, truth_int, cmp_lt, cmp_le, cmp_gt, cmp_ge, List.getElem?_cons_zero, List.getElem?_cons_succ, List.set_cons_zero, List.set_cons_succ, if_true, if_false, reduceIte, decide_true, decide_false, end_ret, end_nx, List.length_cons, List.length_nil, Nat.zero_add, Nat.reduceAdd, Nat.reduceLT, Nat.reduceLeDiff, Nat.zero_le, and_self, Bool.not_true, Bool.not_false, Bool.false_eq_true, items_lst, items_tup, deref_lst, deref_tup, deref_str, deref_int, getA_0, getA_s, turnD, setTg, setAll, wipeE, bin_sub, getB_0o, cmpBD, in_nl, Option.map_some]
    split <;> rfl
  · rw [List.filter_map]
    have e1 : (!((p.l0 :: p.L).filter ((fun d => match d with | Dv.D.int n => (sumS F p.l0 t).any fun s => (s : Int) == ((t + 1 : Nat) : Int) - n | _ => false) ∘ nD)).isEmpty) = hasB F p.l0 (t + 1) := by
      rw [filt_any, ← sum_any hF t]
      rfl
    have hz : (sumS F p.l0 t).length < sizeLine := by
      have : (sumS F p.l0 t).length ≤ t + 1 := by
        show (totL F p.l0 t).length + 1 ≤ t + 1
        have := List.length_filter_le (hasB F p.l0) (List.range' 1 t)
        rw [List.length_range'] at this
        exact Nat.succ_le_succ this
      exact Nat.lt_of_le_of_lt (Nat.le_trans this (show t + 1 ≤ 61 by omega)) (by decide)
    have e2 : sumS F p.l0 (t + 1) = sumS F p.l0 t ++ (if hasB F p.l0 (t + 1) then [t + 1] else []) := by
      show 0 :: totL F p.l0 (t + 1) = 0 :: totL F p.l0 t ++ _
      rw [tot_succ]
      rfl
    rw [e2]
    cases q : hasB F p.l0 (t + 1) with
    | true =>
      rw [q] at e1
      simp only [sm, thenF_nx, thenF_ret, thenF_brk, thenF_cnt, den, ofVT, ofVB, noDen, baseA, cmpD, bltD, bind_ok, ofRes_some, getV_0, getV_s, getB_0, getB_s, truth_bl, truth_int, cmp_lt, cmp_le, cmp_gt, cmp_ge, List.getElem?_cons_zero, List.getElem?_cons_succ, List.set_cons_zero, List.set_cons_succ, if_true, if_false, reduceIte, decide_true, decide_false, end_ret, end_nx, List.length_cons, List.length_nil, Nat.zero_add, Nat.reduceAdd, Nat.reduceLT, Nat.reduceLeDiff, Nat.zero_le, and_self, Bool.not_true, Bool.not_false, Bool.false_eq_true, items_lst, items_tup, deref_lst, deref_tup, deref_str, deref_int, getA_0, getA_s, eq_nil, e1, List.length_map, hz]
      simp
    | false =>
      rw [q] at e1
      simp only [sm, thenF_nx, thenF_ret, thenF_brk, thenF_cnt, den, ofVT, ofVB, noDen, baseA, cmpD, bltD, bind_ok, ofRes_some, getV_0, getV_s, getB_0, getB_s, truth_bl, truth_int, cmp_lt, cmp_le, cmp_gt, cmp_ge, List.getElem?_cons_zero, List.getElem?_cons_succ, List.set_cons_zero, List.set_cons_succ, if_true, if_false, reduceIte, decide_true, decide_false, end_ret, end_nx, List.length_cons, List.length_nil, Nat.zero_add, Nat.reduceAdd, Nat.reduceLT, Nat.reduceLeDiff, Nat.zero_le, and_self, Bool.not_true, Bool.not_false, Bool.false_eq_true, items_lst, items_tup, deref_lst, deref_tup, deref_str, deref_int, getA_0, getA_s, eq_nil, e1]
      simp
theorem su_loop (hF : LenOk p.l0 p.L F) : ∀ (n t : Nat) (s2 s3 : Slot), t + n ≤ 60 → ∃ s2' s3', forL (fun ρ cs => sm T O suIn ρ cs) [2] true ((List.range' (t + 1) n).map nD) [.val (plD p), .own (.lst ((sumS F p.l0 t).map nD)), s2, s3] cs = .ok (.nx [.val (plD p), .own (.lst ((sumS F p.l0 (t + n)).map nD)), s2', s3']) cs
  | 0, t, s2, s3, _ => ⟨s2, s3, rfl⟩
  | n + 1, t, s2, s3, h => by
    obtain ⟨s2', s3', e⟩ := su_loop hF n (t + 1) (.val (nD (t + 1))) s3 (by omega)
    refine ⟨s2', s3', ?_⟩
    rw [List.range'_succ, List.map_cons, forL]
    show (sm T O suIn [.val (plD p), .own (.lst ((sumS F p.l0 t).map nD)), .val (nD (t + 1)), s3] cs).bind _ = _
    rw [su_step hF t (by omega), show t + (n + 1) = t + 1 + n from by omega]
    exact e
theorem r_lsums {n : Nat} (hn : Has T n fSums) (h : PbOk p) (hF : LenOk p.l0 p.L F) : run T (k + 1) false n [plD p] cs = .ok (.lst ((totL F p.l0 p.room).map nD)) cs := by
  obtain ⟨s2, s3, e⟩ := su_loop (T := T) (O := run T k) (cs := cs) hF p.room 0 .emp .emp (by have := h.r.2; omega)
  have hr := h.r.2
  have e : forF (fun ρ cs => sm T (run T k) suIn ρ cs) [2] true ((List.range' 1 p.room).map nD) [.val (plD p), .own (.lst [.int 0]), .emp, .emp] cs = .ok (.nx [.val (plD p), .own (.lst ((sumS F p.l0 p.room).map nD)), s2, s3]) cs := by
    rw [Nat.zero_add, Nat.zero_add] at e
    exact e
  have r2 : ∀ cs, rng2D (.int 1) (.int ((p.room : Int) + 1)) cs = .ok ((List.range' 1 p.room).map nD) cs := fun cs => by
    have := rng2D_nat 1 (p.room + 1) (by omega) (by omega) cs
    rw [rng_nD, show p.room + 1 - 1 = p.room from by omega] at this
    exact this
  have s0 : ∀ cs, subD T (run T k) (plD p) (.int 0) cs = .ok (nD p.room) cs := fun _ => rfl
  have z1 : 1 ≤ sizeLine := by decide
  have hc : cutD ((sumS F p.l0 p.room).map nD) (some 1) none = (totL F p.l0 p.room).map nD := by
    show cutG ((sumS F p.l0 p.room).map nD) (some ((1 : Nat) : Int)) none = _
    rw [cut_from _ 1 (by simp [sumS])]
    rfl
  rw [run_of (ρ := [.val (plD p), .emp, .emp, .emp]) hn.at_ rfl rfl]
  unfold fSums
  simp only [sm, thenF_nx, thenF_ret, thenF_brk, thenF_cnt, den, ofVT, ofVB, noDen, baseA, cmpD, bltD, bind_ok, ofRes_some, getV_0, getV_s, getB_0, getB_s, truth_bl, truth_int, cmp_lt, cmp_le, cmp_gt, cmp_ge, List.getElem?_cons_zero, List.getElem?_cons_succ, List.set_cons_zero, List.set_cons_succ, if_true, if_false, reduceIte, decide_true, decide_false, end_ret, end_nx, List.length_cons, List.length_nil, Nat.zero_add, Nat.reduceAdd, Nat.reduceLT, Nat.reduceLeDiff, Nat.zero_le, and_self, Bool.not_true, Bool.not_false, Bool.false_eq_true, items_lst, items_tup, deref_lst, deref_tup, deref_str, deref_int, getA_0, getA_s, z1, s0, bin_add, r2, e, hc]
end Pk
end
section
set_option Elab.async false
set_option linter.all false
set_option maxRecDepth 100000
set_option maxHeartbeats 400000
namespace Pk
open PySem PySem.Spec PyProof.Rows L2 Dv
variable {T : Tab} {O : Orc} {k : Nat} {cs : Cells} {i j : Nat} {tl : Cells} {b m : Nat} {p : Pb} {F : FT}
/-! ### the law's own look at a book -/
def is1 : Sm := (.ite (.or (.not (.isi (.var 0) [.cls 1])) (.cmp .ne (.lst (.cons (.attr (.var 0) 4) (.cons (.attr (.var 0) 6) (.cons (.attr (.var 0) 7) .nil)))) (.lst (.cons (.sub (.var 1) (.int 0)) (.cons (.sub (.var 1) (.int 2)) (.cons (.sub (.var 1) (.int 3)) .nil)))))) (.seq (.ret (.bl false)) .skip) .skip)
def is2 : Sm := (.ite (.or (.cmp .ne (.tup (.cons (.attr (.var 0) 8) (.cons (.attr (.var 0) 9) (.cons (.attr (.var 0) 10) .nil)))) (.slice (.var 1) (.int 4) .nil)) (.cmp .ne (.comp (.var 3) [3] true (.walk (.attr (.var 0) 5)) .nil) (.blt .list (.cons (.sub (.var 1) (.int 1)) .nil)))) (.seq (.ret (.bl false)) .skip) .skip)
def is3 (s : Nat) : Sm := (.ite (.or (.cmp .ne (.prop (.var 0) 21) (.blt .tuple (.cons (.call s (.cons (.var 1) .nil)) .nil))) (.not (.isi (.attr (.var 0) 5) [.cls 0]))) (.seq (.ret (.bl false)) .skip) .skip)
def is4 : Sm := (.ret (.cmp .eq (.comp (.meth 19 (.var 0) (.cons (.var 2) .nil)) [2] true (.rng2 (.neg (.int 1)) (.bin .add (.sub (.var 1) (.int 0)) (.int 2))) .nil) (.comp (.and (.chain .le .le (.int 0) (.var 2) (.sub (.var 1) (.int 0))) (.cmp .lt (.var 2) (.sub (.var 1) (.int 2)))) [2] true (.rng2 (.neg (.int 1)) (.bin .add (.sub (.var 1) (.int 0)) (.int 2))) .nil)))
def fIs (s : Nat) : Fn := ⟨2, false, 4, [], none, (.seq is1 (.seq is2 (.seq (is3 s) (.seq is4 .skip))))⟩
abbrev isE (p : Pb) (F : FT) : Dv.Env := [.val (bkD p F), .val (plD p), .emp, .emp]
theorem eq_self (O : Orc) {n : Nat} {d : Dv.D} (h : pl n d = true) (hn : n ≤ 64) (cs : Cells) : eqD T O d d cs = .ok true cs := by
  classical
  rw [eqD_pl T O h h hn hn]
  simp
theorem pl_nD (n m : Nat) : pl n (nD m) = true := by cases n <;> simp [pl]
theorem is1_run (H : HasMade T) : sm T (run T k) is1 (isE p F) cs = .ok (.nx (isE p F)) cs := by
  have hi := isi_book (cs := cs) (room := p.room) (low := p.low) (bound := p.bound) (lk := p.lk) (ct := p.ct) (sd := p.sd) (l0 := p.l0) (L := p.L) (F := F) H.toHasBook
  have a4 := H.atb 4 (by decide) (by decide)
  have a6 := H.atb 6 (by decide) (by decide)
  have a7 := H.atb 7 (by decide) (by decide)
  have s0 : ∀ O cs, subD T O (plD p) (.int 0) cs = .ok (nD p.room) cs := fun _ _ => rfl
  have s2 : ∀ O cs, subD T O (plD p) (.int 2) cs = .ok (nD p.low) cs := fun _ _ => rfl
  have s3 : ∀ O cs, subD T O (plD p) (.int 3) cs = .ok (nD p.bound) cs := fun _ _ => rfl
  have z : 3 ≤ sizeLine := by decide
  have e : eqD T (run T k) (.lst [nD p.room, nD p.low, nD p.bound]) (.lst [nD p.room, nD p.low, nD p.bound]) cs = .ok true cs := eq_self _ (n := 1) (by simp [pl, pls]) (by decide) cs
  unfold is1
  simp only [sm, thenF_nx, thenF_ret, thenF_brk, thenF_cnt, den, ofVT, ofVB, noDen, baseA, cmpD, bltD, bind_ok, ofRes_some, getV_0, getV_s, getB_0, getB_s, truth_bl, truth_int, cmp_lt, cmp_le, cmp_gt, cmp_ge, List.getElem?_cons_zero, List.getElem?_cons_succ, List.set_cons_zero, List.set_cons_succ, if_true, if_false, reduceIte, decide_true, decide_false, end_ret, end_nx, List.length_cons, List.length_nil, Nat.zero_add, Nat.reduceAdd, Nat.reduceLT, Nat.reduceLeDiff, Nat.zero_le, and_self, Bool.not_true, Bool.not_false, Bool.false_eq_true, items_lst, items_tup, deref_lst, deref_tup, deref_str, deref_int, getA_0, getA_s, hi, dbk, a4, bk4, a6, bk6, a7, bk7, s0, s2, s3, z, e]
theorem is2_run (H : HasMade T) (h : PbOk p) : sm T (run T k) is2 (isE p F) cs = .ok (.nx (isE p F)) cs := by
  have a5 := H.atb 5 (by decide) (by decide)
  have a8 := H.atb 8 (by decide) (by decide)
  have a9 := H.atb 9 (by decide) (by decide)
  have a10 := H.atb 10 (by decide) (by decide)
  have z : 3 ≤ sizeLine := by decide
  have e : eqD T (run T k) (.tup [.str p.lk, .str p.ct, .str p.sd]) (.tup [.str p.lk, .str p.ct, .str p.sd]) cs = .ok true cs := eq_self _ (n := 1) (by simp [pl, pls, h.k1, h.c1, h.s1]) (by decide) cs
  have dp : deref (plD p) cs = .tup [nD p.room, .tup ((p.l0 :: p.L).map nD), nD p.low, nD p.bound, .str p.lk, .str p.ct, .str p.sd] := rfl
  have hcut : cutD [nD p.room, .tup ((p.l0 :: p.L).map nD), nD p.low, nD p.bound, .str p.lk, .str p.ct, .str p.sd] (some 4) none = [.str p.lk, .str p.ct, .str p.sd] := rfl
  have hit : itemsT T (lenD p.l0 p.L F) = some ((p.l0 :: p.L).map nD) := by
    obtain ⟨c, c1, c2, c3⟩ := H.its
    have a0 := H.at_ 0 (by decide)
    unfold itemsT lenD
    simp [c1, c2, c3, a0]
  have e2 : eqD T (run T k) (.lst ((p.l0 :: p.L).map nD)) (.lst ((p.l0 :: p.L).map nD)) cs = .ok true cs := eq_self _ (n := 1) (by simp only [pl]; exact pls_map fun _ _ => by simp [pl]) (by decide) cs
  unfold is2
  simp only [sm, thenF_nx, thenF_ret, thenF_brk, thenF_cnt, den, ofVT, ofVB, noDen, baseA, cmpD, bltD, bind_ok, ofRes_some, getV_0, getV_s, getB_0, getB_s, truth_bl, truth_int, cmp_lt, cmp_le, cmp_gt, cmp_ge, List.getElem?_cons_zero, List.getElem?_cons_succ, List.set_cons_zero, List.set_cons_succ, if_true, if_false, reduceIte, decide_true, decide_false, end_ret, end_nx, List.length_cons, List.length_nil, Nat.zero_add, Nat.reduceAdd, Nat.reduceLT, Nat.reduceLeDiff, Nat.zero_le, and_self, Bool.not_true, Bool.not_false, Bool.false_eq_true, items_lst, items_tup, deref_lst, deref_tup, deref_str, deref_int, getA_0, getA_s, dbk, a8, bk8, a9, bk9, a10, bk10, z, dp, hcut, e, a5, bk5, hit]
  simp only [Dv.bind_assoc]
  refine comp_bind (fun d => d) (fun x hx => ?_) (by simpa using Nat.le_trans h.few (by decide)) ?_
  · simp only [sm, thenF_nx, thenF_ret, thenF_brk, thenF_cnt, den, ofVT, ofVB, noDen, baseA, cmpD, bltD, bind_ok, ofRes_some, getV_0, getV_s, getB_0, getB_s, truth_bl, truth_int, cmp_lt, cmp_le, cmp_gt, cmp_ge, List.getElem?_cons_zero, List.getElem?_cons_succ, List.set_cons_zero, List.set_cons_succ, if_true, if_false, reduceIte, decide_true, decide_false, end_ret, end_nx, List.length_cons, List.length_nil, Nat.zero_add, Nat.reduceAdd, Nat.reduceLT, Nat.reduceLeDiff, Nat.zero_le, and_self, Bool.not_true, Bool.not_false, Bool.false_eq_true, items_lst, items_tup, deref_lst, deref_tup, deref_str, deref_int, getA_0, getA_s, turnD, setTg, setAll, wipeE]
  · rw [List.map_id']
    simp only [sm, thenF_nx, thenF_ret, thenF_brk, thenF_cnt, den, ofVT, ofVB, noDen, baseA, cmpD, bltD, bind_ok, ofRes_some, getV_0, getV_s, getB_0, getB_s, truth_bl, truth_int, cmp_lt, cmp_le, cmp_gt, cmp_ge, List.getElem?_cons_zero, List.getElem?_cons_succ, List.set_cons_zero, List.set_cons_succ, if_true, if_false, reduceIte, decide_true, decide_false, end_ret, end_nx, List.length_cons, List.length_nil, Nat.zero_add, Nat.reduceAdd, Nat.reduceLT, Nat.reduceLeDiff, Nat.zero_le, and_self, Bool.not_true, Bool.not_false, Bool.false_eq_true, items_lst, items_tup, deref_lst, deref_tup, deref_str, deref_int, getA_0, getA_s, sub1, bList, seq_tup, Option.map_some, e2]
theorem is3_run {s : Nat} (H : HasMade T) (hs : Has T s fSums) (h : PbOk p) (hF : LenOk p.l0 p.L F) : sm T (run T (k + 1)) (is3 s) (isE p F) cs = .ok (.nx (isE p F)) cs := by
  have hi := isi_lenB (cs := cs) (l0 := p.l0) (L := p.L) (F := F) H.toHasBook
  have a5 := H.atb 5 (by decide) (by decide)
  have e1 := r_lsums (k := k) (cs := cs) hs h hF
  have e2 := r_sums (k := k) (cs := cs) (room := p.room) (low := p.low) (bound := p.bound) (lk := p.lk) (ct := p.ct) (sd := p.sd) (l0 := p.l0) (L := p.L) (F := F) H.toHasBook
  obtain ⟨c, b1, _, _, _, _, _, _, b8⟩ := H.b
  have e3 : eqD T (run T (k + 1)) (.tup ((totL F p.l0 p.room).map nD)) (.tup ((totL F p.l0 p.room).map nD)) cs = .ok true cs := eq_self _ (n := 1) (by simp only [pl]; exact pls_map fun _ _ => by simp [pl]) (by decide) cs
  have hc : clsOf (bkD p F) cs = some 1 := rfl
  unfold is3
  simp only [sm, thenF_nx, thenF_ret, thenF_brk, thenF_cnt, den, ofVT, ofVB, noDen, baseA, cmpD, bltD, bind_ok, ofRes_some, getV_0, getV_s, getB_0, getB_s, truth_bl, truth_int, cmp_lt, cmp_le, cmp_gt, cmp_ge, List.getElem?_cons_zero, List.getElem?_cons_succ, List.set_cons_zero, List.set_cons_succ, if_true, if_false, reduceIte, decide_true, decide_false, end_ret, end_nx, List.length_cons, List.length_nil, Nat.zero_add, Nat.reduceAdd, Nat.reduceLT, Nat.reduceLeDiff, Nat.zero_le, and_self, Bool.not_true, Bool.not_false, Bool.false_eq_true, items_lst, items_tup, deref_lst, deref_tup, deref_str, deref_int, getA_0, getA_s, hc, b1, b8, Option.bind_some, e2, e1, bTuple, seq_lst, Option.map_some, e3, dbk, a5, bk5, hi]
theorem py_bools : ∀ bs : List Bool, toPys (bs.map Dv.D.bl) = some (bs.map PyData.bool)
  | [] => by simp [toPys]
  | b :: bs => by simp [toPys, toPy, py_bools bs]
theorem lay_bools : ∀ bs : List Bool, PyData.canLayAll0 (bs.map PyData.bool) = true ∧ PyData.depthAll (bs.map PyData.bool) = 0
  | [] => by simp [PyData.canLayAll0, PyData.depthAll]
  | b :: bs => by simp [PyData.canLayAll0, PyData.canLay0, PyData.depthAll, PyData.depth, lay_bools bs]
theorem eqv_bools : ∀ bs : List Bool, PyData.eqvAll (bs.map PyData.bool) (bs.map PyData.bool) = true
  | [] => by simp [PyData.eqvAll]
  | b :: bs => by
    have := eqv_bools bs
    cases b <;> simp [PyData.eqvAll, PyData.eqv, this]
theorem eq_bools (O : Orc) (bs : List Bool) (cs : Cells) : eqD T O (.lst (bs.map .bl)) (.lst (bs.map .bl)) cs = .ok true cs := by
  have e : toPy (.lst (bs.map .bl)) = some (.list (bs.map PyData.bool)) := by simp [toPy, py_bools]
  have h := lay_bools bs
  have hs : SeqAt.shaped (.list (bs.map PyData.bool)) = true := by
    simp [SeqAt.shaped, PyData.canLay0, PyData.depth, h.1, h.2]
  show eqP _ _ cs = _
  unfold eqP
  rw [e]
  simp [hs, PyData.eqv, eqv_bools]
def lowB (room low : Nat) (d : Dv.D) : Dv.D := match d with
  | .int n => .bl (decide (0 ≤ n) && decide (n ≤ room) && decide (n < low))
  | d => d
theorem is4_run (H : HasLow T) (h : PbOk p) : sm T (run T (k + 3)) is4 (isE p F) cs = .ok (.ret (.bl true)) cs := by
  have hr := h.r.2
  have s0 : ∀ O cs, subD T O (plD p) (.int 0) cs = .ok (nD p.room) cs := fun _ _ => rfl
  have s2 : ∀ O cs, subD T O (plD p) (.int 2) cs = .ok (nD p.low) cs := fun _ _ => rfl
  have hm : ∀ cs, methF T 19 (bkD p F) cs = some 40 := fun cs => H.m19
  have r2 : ∀ cs, rng2D (.int (-1)) (.int ((p.room : Int) + 2)) cs = .ok ((List.range (p.room + 3)).map fun (i : Nat) => Dv.D.int (-1 + (i : Int))) cs := fun cs => by
    show (if ok62 (-1) = true ∧ ok62 ((p.room : Int) + 2) = true then Res.ok ((List.range ((p.room : Int) + 2 - (-1)).toNat).map fun (i : Nat) => Dv.D.int (-1 + (i : Int))) cs else .bad) = _
    rw [if_pos ⟨ok62_iff.mpr (by omega), ok62_iff.mpr (by omega)⟩, show ((p.room : Int) + 2 - (-1)).toNat = p.room + 3 from by omega]
  have hz : ((List.range (p.room + 3)).map fun (i : Nat) => Dv.D.int (-1 + (i : Int))).length ≤ sizeLine := by
    simp
    exact Nat.le_trans (show _ ≤ 63 by omega) (by decide)
  unfold is4
  simp only [sm, thenF_nx, thenF_ret, thenF_brk, thenF_cnt, den, ofVT, ofVB, noDen, baseA, cmpD, bltD, bind_ok, ofRes_some, getV_0, getV_s, getB_0, getB_s, truth_bl, truth_int, cmp_lt, cmp_le, cmp_gt, cmp_ge, List.getElem?_cons_zero, List.getElem?_cons_succ, List.set_cons_zero, List.set_cons_succ, if_true, if_false, reduceIte, decide_true, decide_false, end_ret, end_nx, List.length_cons, List.length_nil, Nat.zero_add, Nat.reduceAdd, Nat.reduceLT, Nat.reduceLeDiff, Nat.zero_le, and_self, Bool.not_true, Bool.not_false, Bool.false_eq_true, items_lst, items_tup, deref_lst, deref_tup, deref_str, deref_int, getA_0, getA_s, s0, bin_add, r2]
  simp only [Dv.bind_assoc]
  refine comp_bind (lowB p.room p.low) (fun x hx => ?_) hz ?_
  · obtain ⟨n, hn, rfl⟩ := List.mem_map.mp hx
    have e := r_low (k := k) (cs := cs) (room := p.room) (low := p.low) (bound := p.bound) (lk := p.lk) (ct := p.ct) (sd := p.sd) (l0 := p.l0) (L := p.L) (F := F) H (-1 + (n : Int))
    simp only [sm, thenF_nx, thenF_ret, thenF_brk, thenF_cnt, den, ofVT, ofVB, noDen, baseA, cmpD, bltD, bind_ok, ofRes_some, getV_0, getV_s, getB_0, getB_s, truth_bl, truth_int, cmp_lt, cmp_le, cmp_gt, cmp_ge, List.getElem?_cons_zero, List.getElem?_cons_succ, List.set_cons_zero, List.set_cons_succ, if_true, if_false, reduceIte, decide_true, decide_false, end_ret, end_nx, List.length_cons, List.length_nil, Nat.zero_add, Nat.reduceAdd, Nat.reduceLT, Nat.reduceLeDiff, Nat.zero_le, and_self, Bool.not_true, Bool.not_false, Bool.false_eq_true, items_lst, items_tup, deref_lst, deref_tup, deref_str, deref_int, getA_0, getA_s, turnD, setTg, setAll, wipeE, hm, e]
    rfl
  · simp only [sm, thenF_nx, thenF_ret, thenF_brk, thenF_cnt, den, ofVT, ofVB, noDen, baseA, cmpD, bltD, bind_ok, ofRes_some, getV_0, getV_s, getB_0, getB_s, truth_bl, truth_int, cmp_lt, cmp_le, cmp_gt, cmp_ge, List.getElem?_cons_zero, List.getElem?_cons_succ, List.set_cons_zero, List.set_cons_succ, if_true, if_false, reduceIte, decide_true, decide_false, end_ret, end_nx, List.length_cons, List.length_nil, Nat.zero_add, Nat.reduceAdd, Nat.reduceLT, Nat.reduceLeDiff, Nat.zero_le, and_self, Bool.not_true, Bool.not_false, Bool.false_eq_true, items_lst, items_tup, deref_lst, deref_tup, deref_str, deref_int, getA_0, getA_s, s0, bin_add, r2]
    simp only [Dv.bind_assoc]
    refine comp_bind (lowB p.room p.low) (fun x hx => ?_) hz ?_
    · obtain ⟨n, hn, rfl⟩ := List.mem_map.mp hx
      by_cases q1 : (0 : Int) ≤ -1 + (n : Int)
      · by_cases q2 : -1 + (n : Int) ≤ (p.room : Int)
        · simp only [sm, thenF_nx, thenF_ret, thenF_brk, thenF_cnt, den, ofVT, ofVB, noDen, baseA, cmpD, bltD, bind_ok, ofRes_some, getV_0, getV_s, getB_0, getB_s, truth_bl, truth_int, cmp_lt, cmp_le, cmp_gt, cmp_ge, List.getElem?_cons_zero, List.getElem?_cons_succ, List.set_cons_zero, List.set_cons_succ, if_true, if_false, reduceIte, decide_true, decide_false, end_ret, end_nx, List.length_cons, List.length_nil, Nat.zero_add, Nat.reduceAdd, Nat.reduceLT, Nat.reduceLeDiff, Nat.zero_le, and_self, Bool.not_true, Bool.not_false, Bool.false_eq_true, items_lst, items_tup, deref_lst, deref_tup, deref_str, deref_int, getA_0, getA_s, turnD, setTg, setAll, wipeE, s0, s2, q1, q2, lowB, Bool.true_and]
        · simp only [sm, thenF_nx, thenF_ret, thenF_brk, thenF_cnt, den, ofVT, ofVB, noDen, baseA, cmpD, bltD, bind_ok, ofRes_some, getV_0, getV_s, getB_0, getB_s, truth_bl, truth_int, cmp_lt, cmp_le, cmp_gt, cmp_ge, List.getElem?_cons_zero, List.getElem?_cons_succ, List.set_cons_zero, List.set_cons_succ, if_true, if_false, reduceIte, decide_true, decide_false, end_ret, end_nx, List.length_cons, List.length_nil, Nat.zero_add, Nat.reduceAdd, Nat.reduceLT, Nat.reduceLeDiff, Nat.zero_le, and_self, Bool.not_true, Bool.not_false, Bool.false_eq_true, items_lst, items_tup, deref_lst, deref_tup, deref_str, deref_int, getA_0, getA_s, turnD, setTg, setAll, wipeE, s0, s2, q1, q2, lowB, Bool.true_and, Bool.false_and]
      · simp only [sm, thenF_nx, thenF_ret, thenF_brk, thenF_cnt, den, ofVT, ofVB, noDen, baseA, cmpD, bltD, bind_ok, ofRes_some, getV_0, getV_s, getB_0, getB_s, truth_bl, truth_int, cmp_lt, cmp_le, cmp_gt, cmp_ge, List.getElem?_cons_zero, List.getElem?_cons_succ, List.set_cons_zero, List.set_cons_succ, if_true, if_false, reduceIte, decide_true, decide_false, end_ret, end_nx, List.length_cons, List.length_nil, Nat.zero_add, Nat.reduceAdd, Nat.reduceLT, Nat.reduceLeDiff, Nat.zero_le, and_self, Bool.not_true, Bool.not_false, Bool.false_eq_true, items_lst, items_tup, deref_lst, deref_tup, deref_str, deref_int, getA_0, getA_s, turnD, setTg, setAll, wipeE, s0, s2, q1, lowB, Bool.false_and]
    · have e : ((List.range (p.room + 3)).map fun (i : Nat) => Dv.D.int (-1 + (i : Int))).map (lowB p.room p.low) = ((List.range (p.room + 3)).map fun (i : Nat) => (decide (0 ≤ -1 + (i : Int)) && decide (-1 + (i : Int) ≤ p.room) && decide (-1 + (i : Int) < p.low))).map Dv.D.bl := by
        rw [List.map_map, List.map_map]
        rfl
      rw [e]
      simp only [sm, thenF_nx, thenF_ret, thenF_brk, thenF_cnt, den, ofVT, ofVB, noDen, baseA, cmpD, bltD, bind_ok, ofRes_some, getV_0, getV_s, getB_0, getB_s, truth_bl, truth_int, cmp_lt, cmp_le, cmp_gt, cmp_ge, List.getElem?_cons_zero, List.getElem?_cons_succ, List.set_cons_zero, List.set_cons_succ, if_true, if_false, reduceIte, decide_true, decide_false, end_ret, end_nx, List.length_cons, List.length_nil, Nat.zero_add, Nat.reduceAdd, Nat.reduceLT, Nat.reduceLeDiff, Nat.zero_le, and_self, Bool.not_true, Bool.not_false, Bool.false_eq_true, items_lst, items_tup, deref_lst, deref_tup, deref_str, deref_int, getA_0, getA_s, eq_bools]
theorem r_is {n s : Nat} (H : HasMade T) (HL : HasLow T) (hn : Has T n (fIs s)) (hs : Has T s fSums) (h : PbOk p) (hF : LenOk p.l0 p.L F) : run T (k + 4) false n [bkD p F, plD p] cs = .ok (.bl true) cs := by
  rw [run_of (ρ := isE p F) hn.at_ rfl rfl]
  show (sm T (run T (k + 3)) (.seq is1 (.seq is2 (.seq (is3 s) (.seq is4 .skip)))) _ cs).bind endF = _
  rw [sm_seq, is1_run H, bind_ok, thenF_nx, sm_seq, is2_run H h, bind_ok, thenF_nx, sm_seq, is3_run (k := k + 2) H hs h hF, bind_ok, thenF_nx, sm_seq, is4_run HL h]
  rfl
end Pk
end
section
set_option Elab.async false
set_option linter.all false
set_option maxRecDepth 100000
set_option maxHeartbeats 400000
namespace Pk
open PySem PySem.Spec PyProof.Rows L2 Dv
variable {T : Tab} {O : Orc} {k : Nat} {cs : Cells} {i j : Nat} {tl : Cells} {b m : Nat}
/-! ### the pen made, the turns of a law -/
def fPen : Fn := ⟨1, false, 1, [], none, (.seq (.retC (.cons (.blt .list (.cons (.slice (.var 0) .nil (.int 63)) .nil)) (.cons (.int 0) (.cons (.int 0) .nil)))) .skip)⟩
theorem r_pen (hi : Has T i fPen) (ns : List Int) (h : ns.length ≤ 63) : ∃ cs', run T (k + 1) false i [.scr (ns.map .int)] [] = .ok (.cell 0) cs' ∧ Pn [] 0 cs' := by
  rw [run_of (ρ := [.val (.scr (ns.map .int))]) hi.at_ rfl rfl]
  have e : Dv.cutD (ns.map D.int) none (some 63) = ns.map D.int := by
    show cutG (ns.map D.int) none (some ((63 : Nat) : Int)) = _
    rw [cut_top]
    exact List.take_of_length_le (by simpa using h)
  have b3 : 3 ≤ sizeLine := by decide
  unfold fPen
  simp only [sm, thenF_nx, thenF_ret, thenF_brk, thenF_cnt, den, ofVT, ofVB, noDen, baseA, cmpD, bltD, bind_ok, ofRes_some, getV_0, getV_s, getB_0, getB_s, truth_bl, truth_int, cmp_lt, cmp_le, cmp_gt, cmp_ge, List.getElem?_cons_zero, List.getElem?_cons_succ, List.set_cons_zero, List.set_cons_succ, if_true, if_false, reduceIte, decide_true, decide_false, end_ret, end_nx, List.length_cons, List.length_nil, Nat.zero_add, Nat.reduceAdd, Nat.reduceLT, Nat.reduceLeDiff, Nat.zero_le, and_self, Bool.not_true, Bool.not_false, Bool.false_eq_true, items_lst, items_tup, deref_lst, deref_tup, deref_str, deref_int, getA_0, getA_s, show ∀ cs, deref (.scr (ns.map D.int)) cs = .scr (ns.map D.int) from fun _ => rfl, e, bList, seqOf, b3, Option.map]
  exact ⟨_, rfl, ns, 0, 0, rfl, by decide, by decide⟩
def laIn (t : Nat) : Sm := (.seq (.ite (.not (.call t (.cons (.var 1) .nil))) (.seq (.ret (.bl false)) .skip) .skip) .skip)
theorem la_in {t c : Nat} {a0 s2 : Slot} {rest : Dv.Env} (H : Wp (run T k false t [.cell 0] cs) fun d cs' => d = .bl true ∧ Pn [] (b + c) cs') : Wp (sm T (run T k) (laIn t) (a0 :: .val (.cell 0) :: s2 :: rest) cs) fun f cs' => f = .nx (a0 :: .val (.cell 0) :: s2 :: rest) ∧ Pn [] (b + c) cs' := by
  unfold laIn
  simp only [sm, thenF_nx, thenF_ret, thenF_brk, thenF_cnt, den, ofVT, ofVB, noDen, baseA, cmpD, bltD, bind_ok, ofRes_some, getV_0, getV_s, getB_0, getB_s, truth_bl, truth_int, cmp_lt, cmp_le, cmp_gt, cmp_ge, List.getElem?_cons_zero, List.getElem?_cons_succ, List.set_cons_zero, List.set_cons_succ, if_true, if_false, reduceIte, decide_true, decide_false, end_ret, end_nx, List.length_cons, List.length_nil, Nat.zero_add, Nat.reduceAdd, Nat.reduceLT, Nat.reduceLeDiff, Nat.zero_le, and_self, Bool.not_true, Bool.not_false, Bool.false_eq_true, items_lst, items_tup, deref_lst, deref_tup, deref_str, deref_int, getA_0, getA_s]
  simp only [Dv.bind_assoc]
  refine wp_at H ?_
  rintro _ cs1 ⟨rfl, hp1⟩
  simp only [sm, thenF_nx, thenF_ret, thenF_brk, thenF_cnt, den, ofVT, ofVB, noDen, baseA, cmpD, bltD, bind_ok, ofRes_some, getV_0, getV_s, getB_0, getB_s, truth_bl, truth_int, cmp_lt, cmp_le, cmp_gt, cmp_ge, List.getElem?_cons_zero, List.getElem?_cons_succ, List.set_cons_zero, List.set_cons_succ, if_true, if_false, reduceIte, decide_true, decide_false, end_ret, end_nx, List.length_cons, List.length_nil, Nat.zero_add, Nat.reduceAdd, Nat.reduceLT, Nat.reduceLeDiff, Nat.zero_le, and_self, Bool.not_true, Bool.not_false, Bool.false_eq_true, items_lst, items_tup, deref_lst, deref_tup, deref_str, deref_int, getA_0, getA_s]
  exact (wp_ok _ _ _).mpr ⟨rfl, hp1⟩
theorem la_loop {α : Type} {t c n : Nat} {a0 s2 : Slot} {rest : Dv.Env} {K : Flw → Cells → Res α} {Q : α → Cells → Prop} (H : ∀ b cs, b + c ≤ n * c → Pn [] b cs → Wp (run T k false t [.cell 0] cs) fun d cs' => d = .bl true ∧ Pn [] (b + c) cs') (hp : Pn [] 0 cs)
    (hk : ∀ s2 cs', Pn [] (n * c) cs' → Wp (K (.nx (a0 :: .val (.cell 0) :: s2 :: rest)) cs') Q) :
    Wp ((forF (fun ρ cs => sm T (run T k) (laIn t) ρ cs) [2] true ((List.range n).map fun (i : Nat) => Dv.D.int (i : Int)) (a0 :: .val (.cell 0) :: s2 :: rest) cs).bind K) Q := by
  refine wp_for (fun xs ρ cs => ∃ (m : Nat) (s2 : Slot), ρ = a0 :: .val (.cell 0) :: s2 :: rest ∧ xs.length + m = n ∧ Pn [] (m * c) cs) ⟨0, s2, rfl, by simp, by simpa using hp⟩ ?_ ?_
  · rintro x xs ρ cs ⟨m, s2, rfl, hl, hp⟩
    simp only [List.length_cons] at hl
    have hm : m * c + c ≤ n * c := by
      rw [← Nat.succ_mul]
      exact Nat.mul_le_mul_right _ (by omega)
    refine ⟨_, rfl, ?_⟩
    refine wp_mono (la_in (H (m * c) cs hm hp)) ?_
    rintro f cs' ⟨rfl, hp'⟩
    exact ⟨_, rfl, m + 1, _, rfl, by omega, by rw [Nat.succ_mul]; exact hp'⟩
  · rintro ρ cs ⟨m, s2, rfl, hl, hp⟩
    simp only [List.length_nil, Nat.zero_add] at hl
    subst hl
    exact hk s2 cs hp
theorem eqP_refl {d : Dv.D} {x : PyData} (h : toPy d = some x) (hs : SeqAt.shaped x = true) (cs : Cells) : eqP d d cs = .ok true cs := by
  unfold eqP
  rw [h]
  simp [hs, SeqAt.eqv_refl x (SeqAt.canLay_of_shaped hs)]
/-- two ascending lists with the same things -/
theorem asc_uniq : ∀ {xs ys : List Int}, xs.Pairwise (· < ·) → ys.Pairwise (· < ·) → (∀ x, x ∈ xs ↔ x ∈ ys) → xs = ys
  | [], [], _, _, _ => rfl
  | [], y :: ys, _, _, h => absurd ((h y).mpr List.mem_cons_self) (by simp)
  | x :: xs, [], _, _, h => absurd ((h x).mp List.mem_cons_self) (by simp)
  | x :: xs, y :: ys, hx, hy, h => by
    obtain ⟨x1, x2⟩ := List.pairwise_cons.mp hx
    obtain ⟨y1, y2⟩ := List.pairwise_cons.mp hy
    have e : x = y := by
      rcases List.mem_cons.mp ((h x).mp List.mem_cons_self) with q | q
      · exact q
      · rcases List.mem_cons.mp ((h y).mpr List.mem_cons_self) with r | r
        · exact r.symm
        · have := y1 x q
          have := x1 y r
          omega
    subst e
    rw [asc_uniq x2 y2 fun z => ?_]
    constructor
    · intro hz
      rcases List.mem_cons.mp ((h z).mp (List.mem_cons_of_mem _ hz)) with rfl | q
      · exact absurd (x1 z hz) (by omega)
      · exact q
    · intro hz
      rcases List.mem_cons.mp ((h z).mpr (List.mem_cons_of_mem _ hz)) with rfl | q
      · exact absurd (y1 z hz) (by omega)
      · exact q
theorem tot_one {L : List Nat} {F : FT} (h : LenOk 1 L F) (room : Nat) : totL F 1 room = List.range' 1 room := by
  unfold totL
  rw [List.filter_eq_self]
  intro n _
  rw [hasB_iff h]
  exact ⟨List.replicate n 1, by simp, by simp⟩
end Pk
end
section
set_option Elab.async false
set_option linter.all false
set_option maxRecDepth 100000
set_option maxHeartbeats 400000
namespace Pk
open PySem PySem.Spec PyProof.Rows L2 Dv
variable {T : Tab} {O : Orc} {k : Nat} {cs : Cells} {i j : Nat} {p q : Pb} {F G : FT}
/-! ### the law's own look at all pairs that are allowed -/
def pa1 : Sm := (.seq (.set 1 (.bin .add (.var 1) (.comp (.tup (.cons (.var 2) (.cons (.var 3) .nil))) [3] true (.meth 20 (.var 0) (.cons (.var 2) .nil)) .nil))) .skip)
def fPairs : Fn := ⟨1, false, 4, [], none, (.seq (.set 1 (.lst .nil)) (.seq (.for_ [2] true (.prop (.var 0) 21) pa1) (.seq (.ret (.var 1)) .skip)))⟩
def fWithin (i : Nat) : Fn := ⟨2, false, 3, [], none, (.seq (.ret (.cmp .eq (.comp (.var 2) [2] true (.call i (.cons (.var 0) .nil)) (.not (.callv 1 (.cons (.sub (.var 2) (.int 0)) (.cons (.sub (.var 2) (.int 1)) .nil))))) (.lst .nil))) .skip)⟩
abbrev prD (x y : Nat) : Dv.D := .tup [nD x, nD y]
def pD (z : Nat × Nat) : Dv.D := prD z.1 z.2
def rowA (p : Pb) (F : FT) (x : Nat) : List (Nat × Nat) := ((bsum p F).filter (alB p x)).map fun y => (x, y)
def prs (p : Pb) (F : FT) : List (Nat × Nat) := (bsum p F).flatMap (rowA p F)
theorem bsum_len (hp : PbOk p) : (bsum p F).length ≤ 60 := by
  refine Nat.le_trans (List.length_filter_le _ _) ?_
  rw [List.length_range']
  exact hp.r.2
theorem rowA_len (hp : PbOk p) (x : Nat) : (rowA p F x).length ≤ 60 := by
  unfold rowA
  rw [List.length_map]
  exact Nat.le_trans (List.length_filter_le _ _) (bsum_len hp)
theorem pa1_run (H : HasAl T) (hp : PbOk p) {x : Nat} (hx : x ∈ bsum p F) {acc : List (Nat × Nat)} (hl : acc.length ≤ 10000) (s3 : Slot) : sm T (run T (k + 3)) pa1 [.val (bkD p F), .val (.lst (acc.map pD)), .val (nD x), s3] cs = .ok (.nx [.val (bkD p F), .val (.lst ((acc ++ rowA p F x).map pD)), .val (nD x), s3]) cs := by
  have e := r_partners (k := k) (cs := cs) H hp hx
  have hm : ∀ cs, methF T 20 (bkD p F) cs = some 42 := fun cs => H.m20
  have z2 : 2 ≤ sizeLine := by decide
  have hz : (((bsum p F).filter (alB p x)).map nD).length ≤ sizeLine := by
    rw [List.length_map]
    exact Nat.le_trans (Nat.le_trans (List.length_filter_le _ _) (bsum_len hp)) (by decide)
  unfold pa1
  simp only [sm, thenF_nx, thenF_ret, thenF_brk, thenF_cnt, den, ofVT, ofVB, noDen, baseA, cmpD, bltD, bind_ok, ofRes_some, getV_0, getV_s, getB_0, getB_s, truth_bl, truth_int, cmp_lt, cmp_le, cmp_gt, cmp_ge, List.getElem?_cons_zero, List.getElem?_cons_succ, List.set_cons_zero, List.set_cons_succ, if_true, if_false, reduceIte, decide_true, decide_false, end_ret, end_nx, List.length_cons, List.length_nil, Nat.zero_add, Nat.reduceAdd, Nat.reduceLT, Nat.reduceLeDiff, Nat.zero_le, and_self, Bool.not_true, Bool.not_false, Bool.false_eq_true, items_lst, items_tup, deref_lst, deref_tup, deref_str, deref_int, getA_0, getA_s, hm, e, itemsI_tup]
  simp only [Dv.bind_assoc]
  refine comp_bind (fun d => match d with | .int n => .tup [nD x, .int n] | d => d) (fun d hd => ?_) hz ?_
  · obtain ⟨y, hy, rfl⟩ := List.mem_map.mp hd
    simp only [sm, thenF_nx, thenF_ret, thenF_brk, thenF_cnt, den, ofVT, ofVB, noDen, baseA, cmpD, bltD, bind_ok, ofRes_some, getV_0, getV_s, getB_0, getB_s, truth_bl, truth_int, cmp_lt, cmp_le, cmp_gt, cmp_ge, List.getElem?_cons_zero, List.getElem?_cons_succ, List.set_cons_zero, List.set_cons_succ, if_true, if_false, reduceIte, decide_true, decide_false, end_ret, end_nx, List.length_cons, List.length_nil, Nat.zero_add, Nat.reduceAdd, Nat.reduceLT, Nat.reduceLeDiff, Nat.zero_le, and_self, Bool.not_true, Bool.not_false, Bool.false_eq_true, items_lst, items_tup, deref_lst, deref_tup, deref_str, deref_int, getA_0, getA_s, turnD, setTg, setAll, wipeE, z2]
  · have ha := add_lstD (T := T) (O := run T (k + 3)) (cs := cs) (acc.map pD) ((rowA p F x).map pD) (by
      rw [List.length_map, List.length_map]
      exact Nat.le_trans (Nat.add_le_add hl (rowA_len hp x)) (by decide))
    have er : (((bsum p F).filter (alB p x)).map nD).map (fun d => match d with | .int n => Dv.D.tup [nD x, .int n] | d => d) = (rowA p F x).map pD := by
      unfold rowA
      rw [List.map_map, List.map_map]
      rfl
    rw [er]
    simp only [sm, thenF_nx, thenF_ret, thenF_brk, thenF_cnt, den, ofVT, ofVB, noDen, baseA, cmpD, bltD, bind_ok, ofRes_some, getV_0, getV_s, getB_0, getB_s, truth_bl, truth_int, cmp_lt, cmp_le, cmp_gt, cmp_ge, List.getElem?_cons_zero, List.getElem?_cons_succ, List.set_cons_zero, List.set_cons_succ, if_true, if_false, reduceIte, decide_true, decide_false, end_ret, end_nx, List.length_cons, List.length_nil, Nat.zero_add, Nat.reduceAdd, Nat.reduceLT, Nat.reduceLeDiff, Nat.zero_le, and_self, Bool.not_true, Bool.not_false, Bool.false_eq_true, items_lst, items_tup, deref_lst, deref_tup, deref_str, deref_int, getA_0, getA_s, ha, List.map_append]
theorem pa_loop (H : HasAl T) (hp : PbOk p) : ∀ (xs : List Nat) (acc : List (Nat × Nat)) (s2 : Slot), (∀ x ∈ xs, x ∈ bsum p F) → acc.length + 60 * xs.length ≤ 10000 → ∃ s2', forL (fun ρ cs => sm T (run T (k + 3)) pa1 ρ cs) [2] true (xs.map nD) [.val (bkD p F), .val (.lst (acc.map pD)), s2, .emp] cs = .ok (.nx [.val (bkD p F), .val (.lst ((acc ++ xs.flatMap (rowA p F)).map pD)), s2', .emp]) cs
  | [], acc, s2, _, _ => ⟨s2, by simp [forL]⟩
  | x :: xs, acc, s2, h, hl => by
    have hx := h x List.mem_cons_self
    rw [List.length_cons] at hl
    obtain ⟨s2', e⟩ := pa_loop H hp xs (acc ++ rowA p F x) (.val (nD x)) (fun y hy => h y (List.mem_cons_of_mem _ hy)) (by
      have := rowA_len (F := F) hp x
      rw [List.length_append]
      omega)
    refine ⟨s2', ?_⟩
    rw [List.map_cons, forL]
    show (sm T (run T (k + 3)) pa1 [.val (bkD p F), .val (.lst (acc.map pD)), .val (nD x), .emp] cs).bind _ = _
    rw [pa1_run H hp hx (by omega), List.flatMap_cons, ← List.append_assoc]
    exact e
theorem clsB (H : HasBook T) : ∃ c, T.cls[1]? = some c ∧ c.props.lookup 21 = some 39 := by
  obtain ⟨c, b1, _, _, _, _, _, _, b8⟩ := H.b
  exact ⟨c, b1, b8⟩
theorem r_prs (H : HasAl T) (hi : Has T i fPairs) (hp : PbOk p) : run T (k + 4) false i [bkD p F] cs = .ok (.lst ((prs p F).map pD)) cs := by
  obtain ⟨c, b1, b8⟩ := clsB H.toHasBook
  have e2 := r_sums (k := k + 2) (cs := cs) (room := p.room) (low := p.low) (bound := p.bound) (lk := p.lk) (ct := p.ct) (sd := p.sd) (l0 := p.l0) (L := p.L) (F := F) H.toHasBook
  have hc : clsOf (bkD p F) cs = some 1 := rfl
  obtain ⟨s2', e⟩ := pa_loop (k := k) (cs := cs) (F := F) H hp (bsum p F) [] .emp (fun _ h => h) (by
    have := bsum_len (F := F) hp
    simp
    omega)
  have e : forF (fun ρ cs => sm T (run T (k + 3)) pa1 ρ cs) [2] true ((totL F p.l0 p.room).map nD) [.val (bkD p F), .val (.lst []), .emp, .emp] cs = .ok (.nx [.val (bkD p F), .val (.lst ((prs p F).map pD)), s2', .emp]) cs := e
  have z0 : 0 ≤ sizeLine := Nat.zero_le _
  rw [run_of (ρ := [.val (bkD p F), .emp, .emp, .emp]) hi.at_ rfl rfl]
  unfold fPairs
  simp only [sm, thenF_nx, thenF_ret, thenF_brk, thenF_cnt, den, ofVT, ofVB, noDen, baseA, cmpD, bltD, bind_ok, ofRes_some, getV_0, getV_s, getB_0, getB_s, truth_bl, truth_int, cmp_lt, cmp_le, cmp_gt, cmp_ge, List.getElem?_cons_zero, List.getElem?_cons_succ, List.set_cons_zero, List.set_cons_succ, if_true, if_false, reduceIte, decide_true, decide_false, end_ret, end_nx, List.length_cons, List.length_nil, Nat.zero_add, Nat.reduceAdd, Nat.reduceLT, Nat.reduceLeDiff, Nat.zero_le, and_self, Bool.not_true, Bool.not_false, Bool.false_eq_true, items_lst, items_tup, deref_lst, deref_tup, deref_str, deref_int, getA_0, getA_s, z0, hc, b1, b8, Option.bind_some, e2, itemsI_tup, e]
theorem mem_prs {x y : Nat} : (x, y) ∈ prs p F ↔ x ∈ bsum p F ∧ y ∈ bsum p F ∧ alB p x y = true := by
  unfold prs rowA
  simp only [List.mem_flatMap, List.mem_map, List.mem_filter, Prod.mk.injEq]
  constructor
  · rintro ⟨a, ha, b, ⟨hb, hc⟩, rfl, rfl⟩
    exact ⟨ha, hb, hc⟩
  · rintro ⟨h1, h2, h3⟩
    exact ⟨x, h1, y, ⟨h2, h3⟩, rfl, rfl⟩
theorem prs_len (hp : PbOk p) : (prs p F).length ≤ 3600 := by
  unfold prs
  rw [List.length_flatMap]
  have : ∀ xs : List Nat, (xs.map fun x => (rowA p F x).length).sum ≤ 60 * xs.length := fun xs => by
    induction xs with
    | nil => simp
    | cons x xs ih =>
      have := rowA_len (F := F) hp x
      simp only [List.map_cons, List.sum_cons, List.length_cons]
      omega
  exact Nat.le_trans (this _) (Nat.le_trans (Nat.mul_le_mul_left 60 (bsum_len hp)) (by decide))
theorem pD_inj {zs ws : List (Nat × Nat)} : zs.map pD = ws.map pD ↔ zs = ws := by
  refine ⟨fun h => ?_, fun h => by rw [h]⟩
  refine List.map_inj_right (fun a b h => ?_) |>.mp h
  obtain ⟨a1, a2⟩ := a
  obtain ⟨b1, b2⟩ := b
  simp only [pD, prD, nD, Dv.D.tup.injEq, List.cons.injEq, Dv.D.int.injEq, and_true] at h
  obtain ⟨h1, h2⟩ := h
  simp
  omega
theorem pl_pD (zs : List (Nat × Nat)) : pl 2 (.lst (zs.map pD)) = true := by
  simp only [pl]
  exact pls_map fun z _ => by simp [pD, pl, pls]
theorem eq_prs (zs ws : List (Nat × Nat)) (cs : Cells) : eqD T O (.lst (zs.map pD)) (.lst (ws.map pD)) cs = .ok (decide (zs = ws)) cs := by
  classical
  rw [eqD_pl T O (n := 2) (m := 2) (pl_pD zs) (pl_pD ws) (by decide) (by decide)]
  congr 1
  rw [decide_eq_decide]
  exact ⟨fun h => pD_inj.mp (by injection h), fun h => by rw [h]⟩
def wiB (p q : Pb) (F : FT) : Bool := (prs p F).all fun z => alB q z.1 z.2
/-- same room, same lengths: the same sums -/
def Same (p q : Pb) : Prop := p.room = q.room ∧ p.l0 = q.l0 ∧ p.L = q.L
theorem Same.sum (h : Same p q) : bsum p F = bsum q F := by
  unfold bsum
  rw [h.1, h.2.1]
theorem r_wi (H : HasAl T) (hi : Has T i fPairs) (hj : Has T j (fWithin i)) (hp : PbOk p) (hq : PbOk q) (hs : Same p q) : run T (k + 5) false j [bkD p F, bkD q F] cs = .ok (.bl (wiB p q F)) cs := by
  have e1 := r_prs (k := k) (cs := cs) (F := F) H hi hp
  have hz : ((prs p F).map pD).length ≤ sizeLine := by
    rw [List.length_map]
    exact Nat.le_trans (prs_len hp) (by decide)
  have s0 : ∀ x y cs, subD T (run T (k + 4)) (prD x y) (.int 0) cs = .ok (nD x) cs := fun _ _ _ => rfl
  have s1 : ∀ x y cs, subD T (run T (k + 4)) (prD x y) (.int 1) cs = .ok (nD y) cs := fun _ _ _ => rfl
  rw [run_of (ρ := [.val (bkD p F), .val (bkD q F), .emp]) hj.at_ rfl rfl]
  unfold fWithin
  simp only [sm, thenF_nx, thenF_ret, thenF_brk, thenF_cnt, den, ofVT, ofVB, noDen, baseA, cmpD, bltD, bind_ok, ofRes_some, getV_0, getV_s, getB_0, getB_s, truth_bl, truth_int, cmp_lt, cmp_le, cmp_gt, cmp_ge, List.getElem?_cons_zero, List.getElem?_cons_succ, List.set_cons_zero, List.set_cons_succ, if_true, if_false, reduceIte, decide_true, decide_false, end_ret, end_nx, List.length_cons, List.length_nil, Nat.zero_add, Nat.reduceAdd, Nat.reduceLT, Nat.reduceLeDiff, Nat.zero_le, and_self, Bool.not_true, Bool.not_false, Bool.false_eq_true, items_lst, items_tup, deref_lst, deref_tup, deref_str, deref_int, getA_0, getA_s, e1, itemsI_lst]
  simp only [Dv.bind_assoc]
  refine comp_filt (fun d => match d with | .tup [.int x, .int y] => !alB q x.toNat y.toNat | _ => false) (fun d hd => ?_) hz ?_
  · obtain ⟨⟨x, y⟩, hy, rfl⟩ := List.mem_map.mp hd
    obtain ⟨m1, m2, _⟩ := mem_prs.mp hy
    rw [hs.sum] at m1 m2
    have e := r_al (k := k + 2) (cs := cs) (F := F) H hq m1 m2
    have e2 := callv_b H (run T (k + 4)) q F [nD x, nD y] cs
    unfold pD
    simp only [sm, thenF_nx, thenF_ret, thenF_brk, thenF_cnt, den, ofVT, ofVB, noDen, baseA, cmpD, bltD, bind_ok, ofRes_some, getV_0, getV_s, getB_0, getB_s, truth_bl, truth_int, cmp_lt, cmp_le, cmp_gt, cmp_ge, List.getElem?_cons_zero, List.getElem?_cons_succ, List.set_cons_zero, List.set_cons_succ, if_true, if_false, reduceIte, decide_true, decide_false, end_ret, end_nx, List.length_cons, List.length_nil, Nat.zero_add, Nat.reduceAdd, Nat.reduceLT, Nat.reduceLeDiff, Nat.zero_le, and_self, Bool.not_true, Bool.not_false, Bool.false_eq_true, items_lst, items_tup, deref_lst, deref_tup, deref_str, deref_int, getA_0, getA_s, turnD, setTg, setAll, wipeE, s0, s1]
    show ((((callM T (Dv.run T (k + 4)) nCall (bkD q F) [nD x, nD y] cs).bind fun x cs => truth x cs).bind fun b cs => Res.ok (!b) cs).bind fun t cs => if t = true then (Res.ok (prD x y) cs).bind fun d cs => Res.ok (some d) cs else Res.ok none cs) = Res.ok (if (!alB q x y) = true then some (prD x y) else none) cs
    rw [e2, e]
    simp only [sm, thenF_nx, thenF_ret, thenF_brk, thenF_cnt, den, ofVT, ofVB, noDen, baseA, cmpD, bltD, bind_ok, ofRes_some, getV_0, getV_s, getB_0, getB_s, truth_bl, truth_int, cmp_lt, cmp_le, cmp_gt, cmp_ge, List.getElem?_cons_zero, List.getElem?_cons_succ, List.set_cons_zero, List.set_cons_succ, if_true, if_false, reduceIte, decide_true, decide_false, end_ret, end_nx, List.length_cons, List.length_nil, Nat.zero_add, Nat.reduceAdd, Nat.reduceLT, Nat.reduceLeDiff, Nat.zero_le, and_self, Bool.not_true, Bool.not_false, Bool.false_eq_true, items_lst, items_tup, deref_lst, deref_tup, deref_str, deref_int, getA_0, getA_s]
    split <;> rfl
  · rw [List.filter_map]
    have z0 : 0 ≤ sizeLine := Nat.zero_le _
    have en : ∀ zs cs, eqD T (run T (k + 4)) (.lst (zs.map pD)) (.lst []) cs = .ok (decide (zs = [])) cs := fun zs cs => eq_prs zs [] cs
    simp only [sm, thenF_nx, thenF_ret, thenF_brk, thenF_cnt, den, ofVT, ofVB, noDen, baseA, cmpD, bltD, bind_ok, ofRes_some, getV_0, getV_s, getB_0, getB_s, truth_bl, truth_int, cmp_lt, cmp_le, cmp_gt, cmp_ge, List.getElem?_cons_zero, List.getElem?_cons_succ, List.set_cons_zero, List.set_cons_succ, if_true, if_false, reduceIte, decide_true, decide_false, end_ret, end_nx, List.length_cons, List.length_nil, Nat.zero_add, Nat.reduceAdd, Nat.reduceLT, Nat.reduceLeDiff, Nat.zero_le, and_self, Bool.not_true, Bool.not_false, Bool.false_eq_true, items_lst, items_tup, deref_lst, deref_tup, deref_str, deref_int, getA_0, getA_s, ofV, z0, en]
    congr 2
    unfold wiB
    rw [Bool.eq_iff_iff, decide_eq_true_eq, List.filter_eq_nil_iff, List.all_eq_true]
    refine forall_congr' fun z => forall_congr' fun _ => ?_
    show ¬ (!alB q z.1 z.2) = true ↔ _
    simp
end Pk
end
section
set_option Elab.async false
set_option linter.all false
set_option maxRecDepth 100000
set_option maxHeartbeats 0
namespace K15
open PySem PySem.Spec PyProof.Rows L2 Dv
def f_is_integer : Fn := ⟨1, false, 1, [], none, (.seq (.ret (.and (.isi (.var 0) [.int]) (.not (.isi (.var 0) [.bool])))) .skip)⟩
def f_is_within : Fn := ⟨3, false, 3, [], none, (.seq (.ret (.and (.call 0 (.cons (.var 0) .nil)) (.chain .le .le (.var 1) (.var 0) (.var 2)))) .skip)⟩
def f_need_count : Fn := ⟨2, false, 2, [], none, (.seq (.ite (.not (.call 1 (.cons (.var 0) (.cons (.int 0) (.cons (.var 1) .nil))))) (.seq .never .skip) .skip) .skip)⟩
def f_ascending : Fn := ⟨1, false, 3, [], none, (.seq (.ret (.blt .tuple (.cons (.blt .sorted (.cons (.comp (.blt .int (.cons (.var 1) .nil)) [1] true (.dkeys 2 (.var 0)) .nil) .nil)) .nil))) .skip)⟩
def f_shared : Fn := ⟨1, false, 1, [], none, .never⟩
def f_first_totals : Fn := ⟨1, false, 9, [], none, (.seq (.set 1 (.sub (.var 0) (.int 0))) (.seq (.own 2 (.cons (.int 0) (.star (.comp .non [8] true (.rng2 (.int 1) (.var 1)) .nil) .nil))) (.seq (.set 3 (.bl true)) (.seq (.while_ (.var 3) (.seq (.set 3 (.bl false)) (.seq (.for_ [4] true (.compO (.var 6) [6] true 2 (.notn (.var 6))) (.seq (.for_ [5] true (.var 0) (.seq (.set 7 (.bin .add (.var 4) (.var 5))) (.seq (.set 8 (.bin .mod (.blt .int (.cons (.var 7) .nil)) (.var 1))) (.seq (.ite (.or (.isn (.sub (.var 2) (.var 8))) (.cmp .lt (.var 7) (.sub (.var 2) (.var 8)))) (.seq (.setI 2 (.var 8) (.var 7)) (.seq (.set 3 (.bl true)) .skip)) .skip) .skip)))) .skip)) .skip))) (.frz 2 (.seq (.ret (.var 2)) .skip))))))⟩
def f_need_lengths : Fn := ⟨1, false, 1, [], none, (.seq (.ite (.not (.isi (.var 0) [.cls 0])) (.seq .never .skip) .skip) .skip)⟩
def f_lengths_of : Fn := ⟨1, false, 1, [], none, (.seq (.ret (.new 0 (.star (.var 0) .nil))) .skip)⟩
def f_length_in : Fn := ⟨1, false, 2, [], none, (.seq (.ite (.or (.not (.chain .le .le (.int 1) (.blt .len (.cons (.var 0) .nil)) (.int 2))) (.or (.cmp .eq (.sub (.var 0) (.int 0)) (.str "0")) (.not (.blt .all (.cons (.comp (.cmp .isin (.var 1) (.str "0123456789")) [1] true (.var 0) .nil) .nil))))) (.seq (.ret .non) .skip) .skip) (.seq (.ret (.ifx (.cmp .le (.blt .int (.cons (.var 0) .nil)) (.glob 1)) (.blt .int (.cons (.var 0) .nil)) .non)) .skip))⟩
def f_lengths_in : Fn := ⟨1, false, 5, [], none, (.seq (.ite (.not (.isi (.var 0) [.str])) (.seq .never .skip) .skip) (.seq (.own 1 .nil) (.seq (.for_ [2, 3] false (.enum (.split (.var 0) (.str " "))) (.seq (.set 4 (.call 8 (.cons (.var 3) .nil))) (.seq (.ite (.or (.isn (.var 4)) (.or (.cmp .eq (.blt .len (.cons (.var 1) .nil)) (.glob 0)) (.and (.cmp .gt (.blt .len (.cons (.var 1) .nil)) (.int 0)) (.cmp .le (.var 4) (.sub (.var 1) (.neg (.int 1))))))) (.seq .never .skip) .skip) (.seq (.app 1 (.var 4)) .skip)))) (.frz 1 (.seq (.ret (.var 1)) .skip)))))⟩
def f_need_book : Fn := ⟨1, false, 1, [], none, .never⟩
def f_need_word : Fn := ⟨3, false, 3, [], none, (.seq (.ite (.or (.not (.isi (.var 0) [.str])) (.cmp .notin (.var 0) (.var 1))) (.seq .never .skip) .skip) .skip)⟩
def f_upcoming : Fn := ⟨2, false, 2, [], none, (.seq (.ret (.ifx (.cmp .lt (.var 1) (.blt .len (.cons (.var 0) .nil))) (.sub (.var 0) (.var 1)) (.str ""))) .skip)⟩
def f_need_head : Fn := ⟨3, false, 3, [], none, (.seq (.ite (.cmp .ne (.call 12 (.cons (.var 0) (.cons (.var 1) .nil))) (.var 2)) (.seq .never .skip) .skip) .skip)⟩
def f_number_at : Fn := ⟨4, false, 6, [], none, (.seq (.set 4 (.call 12 (.cons (.var 0) (.cons (.var 1) .nil)))) (.seq (.ite (.cmp .notin (.var 4) (.comp (.blt .str (.cons (.var 5) .nil)) [5] true (.rng2 (.var 2) (.bin .add (.var 3) (.int 1))) .nil)) (.seq .never .skip) .skip) (.seq (.ret (.blt .int (.cons (.var 4) .nil))) .skip)))⟩
def f_lengths_at : Fn := ⟨3, false, 6, [], none, (.seq (.own 3 .nil) (.seq (.while_ (.or (.cmp .eq (.blt .len (.cons (.var 3) .nil)) (.int 0)) (.and (.cmp .lt (.blt .len (.cons (.var 3) .nil)) (.int 6)) (.cmp .ne (.call 12 (.cons (.var 0) (.cons (.var 1) .nil))) (.str "low")))) (.seq (.set 4 (.ifx (.cmp .gt (.blt .len (.cons (.var 3) .nil)) (.int 0)) (.bin .add (.sub (.var 3) (.neg (.int 1))) (.int 1)) (.int 1))) (.seq (.set 5 (.call 14 (.cons (.var 0) (.cons (.var 1) (.cons (.var 4) (.cons (.glob 4) .nil)))))) (.seq (.ite (.cmp .gt (.bin .add (.var 5) (.ifx (.cmp .gt (.blt .len (.cons (.var 3) .nil)) (.int 0)) (.sub (.var 3) (.int 0)) (.var 5))) (.var 2)) (.seq .never .skip) .skip) (.seq (.app 3 (.var 5)) (.seq (.aug 1 .add (.int 1)) .skip)))))) (.frz 3 (.seq (.ret (.tup (.cons (.var 1) (.cons (.var 3) .nil)))) .skip))))⟩
def f_are_rows : Fn := ⟨1, false, 1, [], none, .never⟩
def f_total_of : Fn := ⟨1, false, 1, [], none, .never⟩
def f_rows_of : Fn := ⟨1, false, 1, [], none, .never⟩
def f_pages_in : Fn := ⟨1, false, 1, [], none, .never⟩
def f_Lengths_init : Fn := ⟨1, true, 4, [], some 0, (.seq (.for_ [2, 3] false (.enum (.var 1)) (.seq (.ite (.not (.call 1 (.cons (.var 3) (.cons (.int 1) (.cons (.glob 1) .nil))))) (.seq .never .skip) .skip) .skip)) (.seq (.ite (.cmp .eq (.blt .len (.cons (.var 1) .nil)) (.int 0)) (.seq .never .skip) .skip) (.seq (.setA 0 0 (.call 3 (.cons (.var 1) .nil))) (.seq (.ite (.cmp .gt (.blt .len (.cons (.attr (.var 0) 0) .nil)) (.glob 0)) (.seq .never .skip) .skip) (.seq (.setA 0 1 (.sub (.attr (.var 0) 0) (.int 0))) (.seq (.setA 0 2 (.sub (.attr (.var 0) 0) (.neg (.int 1)))) (.seq (.setA 0 3 (.call 5 (.cons (.attr (.var 0) 0) .nil))) .skip)))))))⟩
def f_Lengths_read : Fn := ⟨2, false, 3, [], none, (.seq (.set 2 (.call 9 (.cons (.var 1) .nil))) (.seq (.ret (.newv 0 (.star (.var 2) .nil))) .skip))⟩
def f_Lengths_len : Fn := ⟨1, false, 1, [], none, (.seq (.ret (.blt .len (.cons (.attr (.var 0) 0) .nil))) .skip)⟩
def f_Lengths_contains : Fn := ⟨2, false, 2, [], none, (.seq (.ret (.and (.call 1 (.cons (.var 1) (.cons (.int 1) (.cons (.glob 1) .nil)))) (.cmp .isin (.var 1) (.attr (.var 0) 0)))) .skip)⟩
def f_Lengths_or : Fn := ⟨2, false, 2, [], none, (.seq (.ex (.call 6 (.cons (.var 1) .nil))) (.seq (.ret (.call 7 (.cons (.lst (.star (.attr (.var 0) 0) (.star (.attr (.var 1) 0) .nil))) .nil))) .skip))⟩
def f_Lengths_and : Fn := ⟨2, false, 3, [], none, (.seq (.ex (.call 6 (.cons (.var 1) .nil))) (.seq (.ret (.call 7 (.cons (.comp (.var 2) [2] true (.attr (.var 0) 0) (.cmp .isin (.var 2) (.attr (.var 1) 0))) .nil))) .skip))⟩
def f_Lengths_sub : Fn := ⟨2, false, 3, [], none, (.seq (.ex (.call 6 (.cons (.var 1) .nil))) (.seq (.ret (.call 7 (.cons (.comp (.var 2) [2] true (.attr (.var 0) 0) (.cmp .notin (.var 2) (.attr (.var 1) 0))) .nil))) .skip))⟩
def f_Lengths_within : Fn := ⟨1, false, 1, [], none, .never⟩
def f_Lengths_has_total : Fn := ⟨2, false, 3, [], none, (.seq (.ite (.not (.call 1 (.cons (.var 1) (.cons (.int 1) (.cons (.glob 3) .nil))))) (.seq (.ret (.bl false)) .skip) .skip) (.seq (.set 2 (.sub (.attr (.var 0) 3) (.bin .mod (.blt .int (.cons (.var 1) .nil)) (.attr (.var 0) 1)))) (.seq (.ret (.and (.notn (.var 2)) (.cmp .le (.var 2) (.var 1)))) .skip)))⟩
def f_Lengths_totals : Fn := ⟨2, false, 3, [], none, (.seq (.ex (.call 2 (.cons (.var 1) (.cons (.glob 2) .nil)))) (.seq (.ret (.blt .tuple (.cons (.comp (.var 2) [2] true (.rng2 (.int 1) (.bin .add (.var 1) (.int 1))) (.meth 14 (.var 0) (.cons (.var 2) .nil))) .nil))) .skip))⟩
def f_Lengths_divisor : Fn := ⟨1, false, 1, [], none, .never⟩
def f_Lengths_missing : Fn := ⟨1, false, 1, [], none, .never⟩
def f_Lengths_fewest : Fn := ⟨1, false, 1, [], none, .never⟩
def f_Lengths_many : Fn := ⟨2, false, 5, [], none, (.seq (.ex (.call 2 (.cons (.var 1) (.cons (.glob 2) .nil)))) (.seq (.own 2 (.cons (.int 1) .nil)) (.seq (.for_ [3] true (.rng2 (.int 1) (.bin .add (.var 1) (.int 1))) (.seq (.app 2 (.blt .sum (.cons (.comp (.blt .int (.cons (.sub (.var 2) (.bin .sub (.var 3) (.var 4))) .nil)) [4] true (.attr (.var 0) 0) (.cmp .le (.var 4) (.var 3))) .nil))) .skip)) (.seq (.ret (.sub (.var 2) (.var 1))) .skip))))⟩
def f_Lengths_eq : Fn := ⟨2, false, 2, [], none, (.seq (.ret (.and (.isi (.var 1) [.cls 0]) (.cmp .eq (.attr (.var 0) 0) (.attr (.var 1) 0)))) .skip)⟩
def f_Lengths_str : Fn := ⟨1, false, 2, [], none, (.seq (.ret (.join (.str " ") (.comp (.fmt (.var 1)) [1] true (.attr (.var 0) 0) .nil))) .skip)⟩
def f_Lengths_iter : Fn := ⟨1, false, 1, [], none, .never⟩
def f_Book_init : Fn := ⟨8, false, 8, [.str "own", .str "even", .str "left"], some 1, (.seq (.ite (.not (.call 1 (.cons (.var 1) (.cons (.int 2) (.cons (.glob 4) .nil))))) (.seq .never .skip) .skip) (.seq (.ite (.or (.not (.isi (.var 2) [.cls 0])) (.cmp .gt (.bin .add (.attr (.var 2) 1) (.attr (.var 2) 2)) (.var 1))) (.seq .never .skip) .skip) (.seq (.ite (.not (.call 1 (.cons (.var 3) (.cons (.int 0) (.cons (.bin .add (.var 1) (.int 1)) .nil))))) (.seq .never .skip) .skip) (.seq (.ite (.not (.call 1 (.cons (.var 4) (.cons (.int 0) (.cons (.var 1) .nil))))) (.seq .never .skip) .skip) (.seq (.ex (.call 11 (.cons (.var 5) (.cons (.cval 1 16) (.cons (.str "looks") .nil))))) (.seq (.ex (.call 11 (.cons (.var 6) (.cons (.cval 1 17) (.cons (.str "cut") .nil))))) (.seq (.ex (.call 11 (.cons (.var 7) (.cons (.cval 1 18) (.cons (.str "side") .nil))))) (.seq (.setA 0 4 (.var 1)) (.seq (.setA 0 5 (.var 2)) (.seq (.setA 0 6 (.var 3)) (.seq (.setA 0 7 (.var 4)) (.seq (.setA 0 8 (.var 5)) (.seq (.setA 0 9 (.var 6)) (.seq (.setA 0 10 (.var 7)) (.seq (.setA 0 11 (.meth 15 (.var 2) (.cons (.var 1) .nil))) .skip)))))))))))))))⟩
def f_Book_read : Fn := ⟨2, false, 10, [], none, (.seq (.set 2 (.ifx (.isi (.var 1) [.str]) (.split (.var 1) (.str " ")) (.lst (.cons (.str "") .nil)))) (.seq (.ex (.call 13 (.cons (.var 2) (.cons (.int 0) (.cons (.str "room") .nil))))) (.seq (.set 3 (.call 14 (.cons (.var 2) (.cons (.int 1) (.cons (.int 2) (.cons (.glob 4) .nil)))))) (.seq (.ex (.call 13 (.cons (.var 2) (.cons (.int 2) (.cons (.str "lengths") .nil))))) (.seq (.setT [6, 7] (.call 15 (.cons (.var 2) (.cons (.int 3) (.cons (.var 3) .nil))))) (.seq (.ex (.call 13 (.cons (.var 2) (.cons (.var 6) (.cons (.str "low") .nil))))) (.seq (.set 4 (.call 14 (.cons (.var 2) (.cons (.bin .add (.var 6) (.int 1)) (.cons (.int 0) (.cons (.bin .add (.var 3) (.int 1)) .nil)))))) (.seq (.ex (.call 13 (.cons (.var 2) (.cons (.bin .add (.var 6) (.int 2)) (.cons (.str "bound") .nil))))) (.seq (.set 5 (.call 14 (.cons (.var 2) (.cons (.bin .add (.var 6) (.int 3)) (.cons (.int 0) (.cons (.var 3) .nil)))))) (.seq (.for_ [8, 9] false (.enum (.tup (.cons (.cval 1 16) (.cons (.cval 1 17) (.cons (.cval 1 18) .nil))))) (.seq (.ite (.cmp .notin (.call 12 (.cons (.var 2) (.cons (.bin .add (.bin .add (.var 6) (.int 4)) (.var 8)) .nil))) (.var 9)) (.seq .never .skip) .skip) .skip)) (.seq (.ite (.cmp .gt (.blt .len (.cons (.var 2) .nil)) (.bin .add (.var 6) (.int 7))) (.seq .never .skip) .skip) (.seq (.ret (.new 1 (.cons (.var 3) (.cons (.new 0 (.star (.var 7) .nil)) (.cons (.var 4) (.cons (.var 5) (.cons (.sub (.var 2) (.bin .add (.var 6) (.int 4))) (.cons (.sub (.var 2) (.bin .add (.var 6) (.int 5))) (.cons (.sub (.var 2) (.bin .add (.var 6) (.int 6))) .nil))))))))) .skip))))))))))))⟩
def f_Book_sums : Fn := ⟨1, false, 1, [], none, (.seq (.ret (.attr (.var 0) 11)) .skip)⟩
def f_Book_is_low : Fn := ⟨1, false, 1, [], none, .never⟩
def f_Book_call : Fn := ⟨3, false, 3, [], none, (.seq (.ite (.or (.not (.call 0 (.cons (.var 1) .nil))) (.or (.not (.call 0 (.cons (.var 2) .nil))) (.or (.cmp .notin (.var 1) (.attr (.var 0) 11)) (.cmp .notin (.var 2) (.attr (.var 0) 11))))) (.seq (.ret (.bl false)) .skip) .skip) (.seq (.ite (.cmp .gt (.bin .add (.var 1) (.var 2)) (.attr (.var 0) 7)) (.seq (.ret (.bl true)) .skip) .skip) (.seq (.ite (.cmp .eq (.attr (.var 0) 8) (.str "own")) (.seq (.ret (.cmp .ge (.blt .max2 (.cons (.var 1) (.cons (.var 2) .nil))) (.attr (.var 0) 6))) .skip) .skip) (.seq (.ret (.cmp .ge (.blt .min2 (.cons (.var 1) (.cons (.var 2) .nil))) (.attr (.var 0) 6))) .skip))))⟩
def f_Book_partners : Fn := ⟨2, false, 3, [], none, (.seq (.ite (.or (.not (.call 0 (.cons (.var 1) .nil))) (.cmp .notin (.var 1) (.attr (.var 0) 11))) (.seq .never .skip) .skip) (.seq (.ret (.blt .tuple (.cons (.comp (.var 2) [2] true (.attr (.var 0) 11) (.callv 0 (.cons (.var 1) (.cons (.var 2) .nil)))) .nil))) .skip))⟩
def f_Book_and : Fn := ⟨2, false, 5, [], none, (.seq (.ite (.or (.not (.isi (.var 1) [.cls 1])) (.or (.cmp .ne (.attr (.var 0) 4) (.attr (.var 1) 4)) (.cmp .ne (.attr (.var 0) 5) (.attr (.var 1) 5)))) (.seq .never .skip) .skip) (.seq (.set 2 (.ifx (.cmp .isin (.str "own") (.tup (.cons (.attr (.var 0) 8) (.cons (.attr (.var 1) 8) .nil)))) (.str "own") (.str "near"))) (.seq (.par [3, 4] (.cons (.blt .min2 (.cons (.blt .int (.cons (.attr (.var 0) 6) .nil)) (.cons (.blt .int (.cons (.attr (.var 1) 6) .nil)) .nil))) (.cons (.blt .min2 (.cons (.blt .int (.cons (.attr (.var 0) 7) .nil)) (.cons (.blt .int (.cons (.attr (.var 1) 7) .nil)) .nil))) .nil))) (.seq (.ret (.new 1 (.cons (.attr (.var 0) 4) (.cons (.attr (.var 0) 5) (.cons (.var 3) (.cons (.var 4) (.cons (.var 2) (.cons (.attr (.var 0) 9) (.cons (.attr (.var 0) 10) .nil))))))))) .skip))))⟩
def f_Book_eq : Fn := ⟨2, false, 2, [], none, (.seq (.ite (.or (.not (.isi (.var 1) [.cls 1])) (.or (.cmp .ne (.attr (.var 0) 4) (.attr (.var 1) 4)) (.cmp .ne (.attr (.var 0) 5) (.attr (.var 1) 5)))) (.seq (.ret (.bl false)) .skip) .skip) (.seq (.ite (.or (.cmp .ne (.attr (.var 0) 6) (.attr (.var 1) 6)) (.cmp .ne (.attr (.var 0) 7) (.attr (.var 1) 7))) (.seq (.ret (.bl false)) .skip) .skip) (.seq (.ret (.and (.cmp .eq (.attr (.var 0) 8) (.attr (.var 1) 8)) (.and (.cmp .eq (.attr (.var 0) 9) (.attr (.var 1) 9)) (.cmp .eq (.attr (.var 0) 10) (.attr (.var 1) 10))))) .skip)))⟩
def f_Book_str : Fn := ⟨1, false, 1, [], none, .never⟩
def f_Book_but : Fn := ⟨2, false, 4, [], some 1000000, (.seq (.for_ [2] true (.dks (.var 1)) (.seq (.ite (.cmp .notin (.var 2) (.glob 7)) (.seq .never .skip) .skip) .skip)) (.seq (.set 3 (.dctA (.var 0) (.var 1) [("room", 4), ("lengths", 5), ("low", 6), ("bound", 7), ("looks", 8), ("cut", 9), ("side", 10)])) (.seq (.ret (.new 1 (.cons (.dsub (.var 3) "room") (.cons (.dsub (.var 3) "lengths") (.cons (.dsub (.var 3) "low") (.cons (.dsub (.var 3) "bound") (.cons (.dsub (.var 3) "looks") (.cons (.dsub (.var 3) "cut") (.cons (.dsub (.var 3) "side") .nil))))))))) .skip)))⟩
def f_Chain_init : Fn := ⟨1, false, 1, [], none, .never⟩
def f_Chain_read : Fn := ⟨1, false, 1, [], none, .never⟩
def f_Chain_sums : Fn := ⟨1, false, 1, [], none, .never⟩
def f_Chain_kinds : Fn := ⟨1, false, 1, [], none, .never⟩
def f_Chain_len : Fn := ⟨1, false, 1, [], none, .never⟩
def f_Chain_getitem : Fn := ⟨1, false, 1, [], none, .never⟩
def f_Chain_stretch : Fn := ⟨1, false, 1, [], none, .never⟩
def f_Chain_need_page : Fn := ⟨1, false, 1, [], none, .never⟩
def f_Chain_add : Fn := ⟨1, false, 1, [], none, .never⟩
def f_Chain_invert : Fn := ⟨1, false, 1, [], none, .never⟩
def f_Chain_with_page : Fn := ⟨1, false, 1, [], none, .never⟩
def f_Chain_without_page : Fn := ⟨1, false, 1, [], none, .never⟩
def f_Chain_fits : Fn := ⟨1, false, 1, [], none, .never⟩
def f_Chain_first_unlet : Fn := ⟨1, false, 1, [], none, .never⟩
def f_Chain_eq : Fn := ⟨1, false, 1, [], none, .never⟩
def f_Chain_str : Fn := ⟨1, false, 1, [], none, .never⟩
def f_Chain_iter : Fn := ⟨1, false, 1, [], none, .never⟩
def f_law_pen : Fn := ⟨1, false, 1, [], none, (.seq (.retC (.cons (.blt .list (.cons (.slice (.var 0) .nil (.int 63)) .nil)) (.cons (.int 0) (.cons (.int 0) .nil)))) .skip)⟩
def f_law_draw : Fn := ⟨2, false, 7, [], none, (.seq (.ite (.cmp .gt (.sub (.var 0) (.int 2)) (.int 0)) (.seq (.set 5 (.bin .mod (.blt .int (.cons (.sub (.var 0) (.int 2)) .nil)) (.var 1))) (.seq (.setI 0 (.int 2) (.bin .fdiv (.blt .int (.cons (.sub (.var 0) (.int 2)) .nil)) (.var 1))) (.seq (.ret (.var 5)) .skip))) .skip) (.seq (.set 2 (.sub (.var 0) (.int 1))) (.seq (.setI 0 (.int 1) (.bin .add (.var 2) (.int 1))) (.seq (.set 3 (.bin .add (.bin .mul (.int 64460) (.var 2)) (.int 4095))) (.seq (.ite (.cmp .ne (.sub (.var 0) (.int 0)) (.lst .nil)) (.seq (.set 3 (.sub (.sub (.var 0) (.int 0)) (.bin .mod (.blt .int (.cons (.var 2) .nil)) (.blt .len (.cons (.sub (.var 0) (.int 0)) .nil))))) .skip) .skip) (.seq (.ite (.and (.cmp .lt (.var 2) (.blt .len (.cons (.sub (.var 0) (.int 0)) .nil))) (.cmp .ge (.blt .abs (.cons (.var 3) .nil)) (.bin .pow (.int 10) (.int 18)))) (.seq (.set 6 (.bin .add (.bin .mul (.int 2) (.bin .sub (.blt .abs (.cons (.var 3) .nil)) (.bin .pow (.int 10) (.int 18)))) (.blt .int (.cons (.cmp .lt (.var 3) (.int 0)) .nil)))) (.seq (.setI 0 (.int 2) (.bin .fdiv (.blt .int (.cons (.var 6) .nil)) (.var 1))) (.seq (.ret (.bin .mod (.blt .int (.cons (.var 6) .nil)) (.var 1))) .skip))) .skip) (.seq (.set 4 (.bin .mod (.blt .int (.cons (.bin .pow (.bin .add (.bin .add (.bin .mod (.blt .int (.cons (.var 3) .nil)) (.int 2147483563)) (.bin .mul (.int 76405) (.var 2))) (.int 4095)) (.int 5)) .nil)) (.int 2147483629))) (.seq (.set 4 (.bin .mod (.blt .int (.cons (.bin .pow (.bin .add (.bin .add (.bin .mul (.var 4) (.bin .add (.bin .mul (.int 2) (.var 2)) (.int 361))) (.bin .mul (.bin .mul (.int 49135) (.var 2)) (.var 2))) (.int 13)) (.int 3)) .nil)) (.int 2147483587))) (.seq (.ret (.bin .mod (.blt .int (.cons (.bin .fdiv (.var 4) (.int 32)) .nil)) (.var 1))) .skip)))))))))⟩
def f_law_pick : Fn := ⟨2, false, 2, [], none, (.seq (.ret (.sub (.var 1) (.call 65 (.cons (.var 0) (.cons (.blt .len (.cons (.var 1) .nil)) .nil))))) .skip)⟩
def f_law_plain : Fn := ⟨1, false, 8, [], none, (.seq (.par [5, 6] (.cons (.bin .add (.int 4) (.call 65 (.cons (.var 0) (.cons (.int 9) .nil)))) (.cons (.bin .add (.int 1) (.call 65 (.cons (.var 0) (.cons (.int 2) .nil)))) .nil))) (.seq (.set 1 (.bin .add (.lst (.cons (.var 6) .nil)) (.comp (.var 7) [7] true (.rng2 (.bin .add (.var 6) (.int 1)) (.bin .add (.bin .sub (.var 5) (.var 6)) (.int 1))) (.cmp .eq (.call 65 (.cons (.var 0) (.cons (.int 3) .nil))) (.int 0))))) (.seq (.set 2 (.call 66 (.cons (.var 0) (.cons (.lst (.cons (.int 0) (.cons (.int 1) (.cons (.bin .fdiv (.var 5) (.int 2)) (.cons (.bin .add (.bin .fdiv (.var 5) (.int 2)) (.int 1)) (.cons (.bin .add (.var 5) (.int 1)) (.cons (.call 65 (.cons (.var 0) (.cons (.bin .add (.var 5) (.int 2)) .nil))) .nil))))))) .nil)))) (.seq (.set 3 (.call 66 (.cons (.var 0) (.cons (.lst (.cons (.var 5) (.cons (.var 5) (.cons (.bin .sub (.var 5) (.int 1)) (.cons (.bin .fdiv (.var 5) (.int 2)) (.cons (.int 0) (.cons (.call 65 (.cons (.var 0) (.cons (.bin .add (.var 5) (.int 1)) .nil))) .nil))))))) .nil)))) (.seq (.set 4 (.tup (.cons (.call 66 (.cons (.var 0) (.cons (.lst (.cons (.str "own") (.cons (.str "near") .nil))) .nil))) (.cons (.call 66 (.cons (.var 0) (.cons (.lst (.cons (.str "even") (.cons (.str "ahead") (.cons (.str "put") .nil)))) .nil))) (.cons (.call 66 (.cons (.var 0) (.cons (.lst (.cons (.str "left") (.cons (.str "right") .nil))) .nil))) .nil))))) (.seq (.ret (.bin .add (.tup (.cons (.var 5) (.cons (.blt .tuple (.cons (.slice (.var 1) .nil (.int 6)) .nil)) (.cons (.var 2) (.cons (.var 3) .nil))))) (.var 4))) .skip))))))⟩
def f_law_made : Fn := ⟨1, false, 3, [], none, (.seq (.set 1 (.cmeth 0 18 (.cons (.join (.str " ") (.comp (.blt .str (.cons (.var 2) .nil)) [2] true (.sub (.var 0) (.int 1)) .nil)) .nil))) (.seq (.ret (.new 1 (.cons (.sub (.var 0) (.int 0)) (.cons (.var 1) (.cons (.sub (.var 0) (.int 2)) (.cons (.sub (.var 0) (.int 3)) (.cons (.sub (.var 0) (.int 4)) (.cons (.sub (.var 0) (.int 5)) (.cons (.sub (.var 0) (.int 6)) .nil))))))))) .skip))⟩
def f_law_pairs : Fn := ⟨1, false, 4, [], none, (.seq (.set 1 (.lst .nil)) (.seq (.for_ [2] true (.prop (.var 0) 21) (.seq (.set 1 (.bin .add (.var 1) (.comp (.tup (.cons (.var 2) (.cons (.var 3) .nil))) [3] true (.meth 20 (.var 0) (.cons (.var 2) .nil)) .nil))) .skip)) (.seq (.ret (.var 1)) .skip)))⟩
def f_law_within : Fn := ⟨2, false, 3, [], none, (.seq (.ret (.cmp .eq (.comp (.var 2) [2] true (.call 69 (.cons (.var 0) .nil)) (.not (.callv 1 (.cons (.sub (.var 2) (.int 0)) (.cons (.sub (.var 2) (.int 1)) .nil))))) (.lst .nil))) .skip)⟩
def f_law_turn_right : Fn := ⟨1, false, 10, [], none, (.seq (.set 1 (.call 67 (.cons (.var 0) .nil))) (.seq (.set 2 (.call 68 (.cons (.var 1) .nil))) (.seq (.set 3 (.lst (.cons (.methw 28 (.var 2) ["low"] (.cons (.call 65 (.cons (.var 0) (.cons (.bin .add (.sub (.var 1) (.int 2)) (.int 1)) .nil))) .nil)) (.cons (.methw 28 (.var 2) ["bound"] (.cons (.call 65 (.cons (.var 0) (.cons (.bin .add (.sub (.var 1) (.int 3)) (.int 1)) .nil))) .nil)) (.cons (.methw 28 (.var 2) ["looks"] (.cons (.str "own") .nil)) .nil))))) (.seq (.ite (.cmp .ne (.comp (.var 8) [8] true (.var 3) (.not (.call 70 (.cons (.var 2) (.cons (.var 8) .nil))))) (.lst .nil)) (.seq (.ret (.bl false)) .skip) .skip) (.seq (.set 4 (.methw 28 (.var 2) ["cut", "side"] (.cons (.call 66 (.cons (.var 0) (.cons (.lst (.cons (.str "even") (.cons (.str "ahead") (.cons (.str "put") .nil)))) .nil))) (.cons (.call 66 (.cons (.var 0) (.cons (.lst (.cons (.str "left") (.cons (.str "right") .nil))) .nil))) .nil)))) (.seq (.ite (.cmp .ne (.call 69 (.cons (.var 4) .nil)) (.call 69 (.cons (.var 2) .nil))) (.seq (.ret (.bl false)) .skip) .skip) (.seq (.set 5 (.bin .mul (.blt .len (.cons (.prop (.var 2) 21) .nil)) (.blt .len (.cons (.prop (.var 2) 21) .nil)))) (.seq (.ite (.or (.cmp .ne (.blt .len (.cons (.call 69 (.cons (.methw 28 (.var 2) ["low"] (.cons (.int 0) .nil)) .nil)) .nil)) (.var 5)) (.cmp .ne (.blt .len (.cons (.call 69 (.cons (.methw 28 (.var 2) ["bound"] (.cons (.blt .min2 (.cons (.blt .int (.cons (.sub (.var 1) (.int 0)) .nil)) (.cons (.bin .sub (.bin .mul (.int 2) (.sub (.sub (.var 1) (.int 1)) (.int 0))) (.int 1)) .nil))) .nil)) .nil)) .nil)) (.var 5))) (.seq (.ret (.bl false)) .skip) .skip) (.seq (.set 6 (.methw 28 (.var 2) ["low"] (.cons (.bin .add (.sub (.var 1) (.int 0)) (.int 1)) .nil))) (.seq (.ite (.cmp .ne (.comp (.var 9) [9] true (.call 69 (.cons (.var 6) .nil)) (.cmp .le (.bin .add (.sub (.var 9) (.int 0)) (.sub (.var 9) (.int 1))) (.sub (.var 1) (.int 3)))) (.lst .nil)) (.seq (.ret (.bl false)) .skip) .skip) (.seq (.set 7 (.bin .band (.sub (.var 3) (.int 0)) (.sub (.var 3) (.int 1)))) (.seq (.ret (.and (.call 70 (.cons (.sub (.var 3) (.int 0)) (.cons (.var 7) .nil))) (.and (.call 70 (.cons (.sub (.var 3) (.int 1)) (.cons (.var 7) .nil))) (.and (.call 70 (.cons (.var 6) (.cons (.var 2) .nil))) (.call 70 (.cons (.var 2) (.cons (.bin .band (.sub (.var 3) (.int 2)) (.var 7)) .nil))))))) .skip))))))))))))⟩
def f_law : Fn := ⟨1, false, 4, [], none, (.seq (.set 1 (.call 64 (.cons (.var 0) .nil))) (.seq (.for_ [2] true (.rng (.int 5)) (.seq (.ite (.not (.call 71 (.cons (.var 1) .nil))) (.seq (.ret (.bl false)) .skip) .skip) .skip)) (.seq (.set 3 (.newk 1 (.cons (.int 8) (.cons (.new 0 (.cons (.int 1) (.cons (.int 2) (.cons (.int 3) (.cons (.int 4) .nil))))) (.cons (.int 4) (.cons (.int 8) .nil)))) .nil [0, 1, 2, 3, 4, 5, 6])) (.seq (.ret (.and (.cmp .eq (.blt .len (.cons (.call 69 (.cons (.var 3) .nil)) .nil)) (.int 55)) (.and (.cmp .eq (.blt .len (.cons (.call 69 (.cons (.methw 28 (.var 3) ["looks"] (.cons (.str "near") .nil)) .nil)) .nil)) (.int 37)) (.call 70 (.cons (.methw 28 (.var 3) ["looks"] (.cons (.str "near") .nil)) (.cons (.var 3) .nil)))))) .skip))))⟩
def T : Tab := ⟨[f_is_integer, f_is_within, f_need_count, f_ascending, f_shared, f_first_totals, f_need_lengths, f_lengths_of, f_length_in, f_lengths_in, f_need_book, f_need_word, f_upcoming, f_need_head, f_number_at, f_lengths_at, f_are_rows, f_total_of, f_rows_of, f_pages_in, f_Lengths_init, f_Lengths_read, f_Lengths_len, f_Lengths_contains, f_Lengths_or, f_Lengths_and, f_Lengths_sub, f_Lengths_within, f_Lengths_has_total, f_Lengths_totals, f_Lengths_divisor, f_Lengths_missing, f_Lengths_fewest, f_Lengths_many, f_Lengths_eq, f_Lengths_str, f_Lengths_iter, f_Book_init, f_Book_read, f_Book_sums, f_Book_is_low, f_Book_call, f_Book_partners, f_Book_and, f_Book_eq, f_Book_str, f_Book_but, f_Chain_init, f_Chain_read, f_Chain_sums, f_Chain_kinds, f_Chain_len, f_Chain_getitem, f_Chain_stretch, f_Chain_need_page, f_Chain_add, f_Chain_invert, f_Chain_with_page, f_Chain_without_page, f_Chain_fits, f_Chain_first_unlet, f_Chain_eq, f_Chain_str, f_Chain_iter, f_law_pen, f_law_draw, f_law_pick, f_law_plain, f_law_made, f_law_pairs, f_law_within, f_law_turn_right, f_law], [⟨some 20, false, [(4, 22), (7, 23), (10, 24), (11, 25), (12, 26), (14, 28), (15, 29), (17, 33), (0, 34), (3, 35), (5, 36)], [], [0], [0, 1, 2, 3], [(18, 21)], [], some 0⟩, ⟨some 37, false, [(9, 41), (20, 42), (11, 43), (0, 44), (28, 46)], [(21, 39)], [1], [4, 5, 6, 7, 8, 9, 10, 11], [(18, 38)], [(16, .tup [.str "own", .str "near"]), (17, .tup [.str "even", .str "ahead", .str "put"]), (18, .tup [.str "left", .str "right"])], none⟩], [.int 6, .int 60, .int 60, .int 1000000000000000000000000000000, .int 60, .int 0, .int 0, .tup [.str "room", .str "lengths", .str "low", .str "bound", .str "looks", .str "cut", .str "side"]]⟩
def top (i : Nat) : Stmt := PySem.Challenge.pw_pagefloor_k15_whole_books_in_order_of_wh.main.body.getD i (.Pass ⟨0, 0, 0, 0⟩)
def inner (i j : Nat) : Stmt := (C8.clsBody (top i)).getD j (.Pass ⟨0, 0, 0, 0⟩)
def mk (x q : Str) (st : Stmt) (N ps : List Str) (dvs : List V := []) : FI := ⟨x, q, C8.fnArgs st, C8.fnBody st, C8.fnScope st, N, ps, dvs⟩
def fi : List FI := [mk "is_integer" "is_integer" (top 2) ["value"] ["value"],
  mk "is_within" "is_within" (top 3) ["value", "least", "most"] ["value", "least", "most"],
  mk "need_count" "need_count" (top 18) ["value", "most"] ["value", "most"],
  mk "ascending" "ascending" (top 16) ["numbers", "number", "one"] ["numbers"],
  mk "is_integer" "is_integer" (top 2) ["value"] ["value"],
  mk "first_totals" "first_totals" (top 17) ["lengths", "least", "found", "grows", "total", "length", "one", "later", "rest"] ["lengths"],
  mk "need_lengths" "need_lengths" (top 20) ["value"] ["value"],
  mk "lengths_of" "lengths_of" (top 21) ["lengths"] ["lengths"],
  mk "length_in" "length_in" (top 22) ["word", "sign"] ["word"],
  mk "lengths_in" "lengths_in" (top 23) ["text", "found", "at", "word", "length"] ["text"],
  mk "is_integer" "is_integer" (top 2) ["value"] ["value"],
  mk "need_word" "need_word" (top 28) ["value", "some", "part"] ["value", "some", "part"],
  mk "upcoming" "upcoming" (top 29) ["words", "spot"] ["words", "spot"],
  mk "need_head" "need_head" (top 30) ["words", "spot", "head"] ["words", "spot", "head"],
  mk "number_at" "number_at" (top 31) ["words", "spot", "least", "most", "word", "number"] ["words", "spot", "least", "most"],
  mk "lengths_at" "lengths_at" (top 32) ["words", "spot", "room", "found", "least", "length"] ["words", "spot", "room"],
  mk "is_integer" "is_integer" (top 2) ["value"] ["value"],
  mk "is_integer" "is_integer" (top 2) ["value"] ["value"],
  mk "is_integer" "is_integer" (top 2) ["value"] ["value"],
  mk "is_integer" "is_integer" (top 2) ["value"] ["value"],
  mk "__init__" "Lengths.__init__" (inner 19 1) ["self", "lengths", "at", "length"] ["self", "lengths"],
  mk "read" "Lengths.read" (inner 19 2) ["cls", "text", "lengths"] ["cls", "text"],
  mk "__len__" "Lengths.__len__" (inner 19 3) ["self"] ["self"],
  mk "__contains__" "Lengths.__contains__" (inner 19 5) ["self", "length"] ["self", "length"],
  mk "__or__" "Lengths.__or__" (inner 19 6) ["self", "other"] ["self", "other"],
  mk "__and__" "Lengths.__and__" (inner 19 7) ["self", "other", "length"] ["self", "other"],
  mk "__sub__" "Lengths.__sub__" (inner 19 8) ["self", "other", "length"] ["self", "other"],
  mk "is_integer" "is_integer" (top 2) ["value"] ["value"],
  mk "has_total" "Lengths.has_total" (inner 19 10) ["self", "total", "first"] ["self", "total"],
  mk "totals" "Lengths.totals" (inner 19 11) ["self", "room", "total"] ["self", "room"],
  mk "is_integer" "is_integer" (top 2) ["value"] ["value"],
  mk "is_integer" "is_integer" (top 2) ["value"] ["value"],
  mk "is_integer" "is_integer" (top 2) ["value"] ["value"],
  mk "many" "Lengths.many" (inner 19 15) ["self", "total", "found", "one", "length"] ["self", "total"],
  mk "__eq__" "Lengths.__eq__" (inner 19 17) ["self", "other"] ["self", "other"],
  mk "__str__" "Lengths.__str__" (inner 19 18) ["self", "length"] ["self"],
  mk "__iter__" "Lengths.__iter__" (inner 19 4) ["self"] ["self"],
  mk "__init__" "Book.__init__" (inner 27 3) ["self", "room", "lengths", "low", "bound", "looks", "cut", "side"] ["self", "room", "lengths", "low", "bound", "looks", "cut", "side"] [V.str "own", V.str "even", V.str "left"],
  mk "read" "Book.read" (inner 27 4) ["cls", "text", "words", "room", "low", "bound", "spot", "found", "at", "some"] ["cls", "text"],
  mk "sums" "Book.sums" (inner 27 5) ["self"] ["self"],
  mk "is_integer" "is_integer" (top 2) ["value"] ["value"],
  mk "__call__" "Book.__call__" (inner 27 7) ["self", "x", "y"] ["self", "x", "y"],
  mk "partners" "Book.partners" (inner 27 8) ["self", "total", "other"] ["self", "total"],
  mk "__and__" "Book.__and__" (inner 27 10) ["self", "other", "looks", "low", "bound"] ["self", "other"],
  mk "__eq__" "Book.__eq__" (inner 27 11) ["self", "other"] ["self", "other"],
  mk "is_integer" "is_integer" (top 2) ["value"] ["value"],
  mk "but" "Book.but" (inner 27 9) ["self", "parts", "name", "now"] ["self", "parts"],
  mk "is_integer" "is_integer" (top 2) ["value"] ["value"],
  mk "is_integer" "is_integer" (top 2) ["value"] ["value"],
  mk "is_integer" "is_integer" (top 2) ["value"] ["value"],
  mk "is_integer" "is_integer" (top 2) ["value"] ["value"],
  mk "is_integer" "is_integer" (top 2) ["value"] ["value"],
  mk "is_integer" "is_integer" (top 2) ["value"] ["value"],
  mk "is_integer" "is_integer" (top 2) ["value"] ["value"],
  mk "is_integer" "is_integer" (top 2) ["value"] ["value"],
  mk "is_integer" "is_integer" (top 2) ["value"] ["value"],
  mk "is_integer" "is_integer" (top 2) ["value"] ["value"],
  mk "is_integer" "is_integer" (top 2) ["value"] ["value"],
  mk "is_integer" "is_integer" (top 2) ["value"] ["value"],
  mk "is_integer" "is_integer" (top 2) ["value"] ["value"],
  mk "is_integer" "is_integer" (top 2) ["value"] ["value"],
  mk "is_integer" "is_integer" (top 2) ["value"] ["value"],
  mk "is_integer" "is_integer" (top 2) ["value"] ["value"],
  mk "is_integer" "is_integer" (top 2) ["value"] ["value"],
  mk "_law_pen" "_law_pen" (top 34) ["_law_script"] ["_law_script"],
  mk "_law_draw" "_law_draw" (top 35) ["_law_pen_here", "_law_many", "_law_at", "_law_cell", "_law_mixed", "_law_digit", "_law_great"] ["_law_pen_here", "_law_many"],
  mk "_law_pick" "_law_pick" (top 36) ["_law_pen_here", "_law_some"] ["_law_pen_here", "_law_some"],
  mk "_law_plain" "_law_plain" (top 37) ["_law_pen_here", "_law_lengths", "_law_low", "_law_bound", "_law_words", "_law_room", "_law_least", "_law_length"] ["_law_pen_here"],
  mk "_law_made" "_law_made" (top 38) ["_law_plain_here", "_law_lengths", "_law_length"] ["_law_plain_here"],
  mk "_law_pairs" "_law_pairs" (top 39) ["_law_book", "_law_found", "_law_x", "_law_y"] ["_law_book"],
  mk "_law_within" "_law_within" (top 40) ["_law_one", "_law_other", "_law_pair"] ["_law_one", "_law_other"],
  mk "_law_turn_right" "_law_turn_right" (top 41) ["_law_pen_here", "_law_plain_here", "_law_book", "_law_less", "_law_same", "_law_many", "_law_all_low", "_law_both", "_law_other", "_law_pair"] ["_law_pen_here"],
  mk "law" "law" (top 42) ["_law_script", "_law_pen_here", "_law_turn", "_law_own"] ["_law_script"]]
def glo0 : List (Str × GV) := [("isinstance", .blt), ("int", .blt), ("bool", .blt), ("is_integer", .fn 0), ("is_within", .fn 1), ("tuple", .blt), ("sorted", .blt), ("range", .blt), ("Lengths", .cls 0), ("len", .blt), ("all", .blt), ("MOST_LENGTH", .const 1), ("str", .blt), ("enumerate", .blt), ("length_in", .fn 8), ("MOST_LENGTHS", .const 0)]
def glo1 : List (Str × GV) := [("upcoming", .fn 12), ("number_at", .fn 14), ("MOST_ROOM", .const 4), ("ascending", .fn 3), ("first_totals", .fn 5), ("lengths_in", .fn 9), ("need_lengths", .fn 6), ("lengths_of", .fn 7), ("MOST_FAR", .const 3), ("need_count", .fn 2), ("MOST_TOTAL", .const 2), ("sum", .blt), ("iter", .blt), ("need_word", .fn 11), ("Book", .cls 1), ("need_head", .fn 13)]
def glo2 : List (Str × GV) := [("lengths_at", .fn 15), ("max", .blt), ("min", .blt), ("NAMES", .const 7), ("list", .blt), ("abs", .blt), ("_law_draw", .fn 65), ("_law_pick", .fn 66), ("_law_pairs", .fn 69), ("_law_plain", .fn 67), ("_law_made", .fn 68), ("_law_within", .fn 70), ("_law_pen", .fn 64), ("_law_turn_right", .fn 71), ("law", .fn 72)]
def D : LD where
  T := T
  cn := ["Lengths", "Book"]
  ats := ["own_lengths", "least", "greatest", "firsts", "room", "lengths", "low", "bound", "looks", "cut", "side", "own_sums", "pages", "rows", "size", "MOST", "LOOKS", "CUTS", "SIDES", "divisor", "missing", "sums"]
  mts := ["__eq__", "__add__", "__invert__", "__str__", "__len__", "__iter__", "__bool__", "__contains__", "__getitem__", "__call__", "__or__", "__and__", "__sub__", "within", "has_total", "totals", "fewest", "many", "read", "is_low", "partners", "kinds", "stretch", "need_page", "with_page", "without_page", "fits", "first_unlet", "but"]
  fi := fi
  fw := [.glo "is_integer", .glo "is_within", .glo "need_count", .glo "ascending", .glo "is_integer", .glo "first_totals", .glo "need_lengths", .glo "lengths_of", .glo "length_in", .glo "lengths_in", .glo "is_integer", .glo "need_word", .glo "upcoming", .glo "need_head", .glo "number_at", .glo "lengths_at", .glo "is_integer", .glo "is_integer", .glo "is_integer", .glo "is_integer", .meth "Lengths" "__init__", .cm "Lengths" "read", .meth "Lengths" "__len__", .meth "Lengths" "__contains__", .meth "Lengths" "__or__", .meth "Lengths" "__and__", .meth "Lengths" "__sub__", .glo "is_integer", .meth "Lengths" "has_total", .meth "Lengths" "totals", .glo "is_integer", .glo "is_integer", .glo "is_integer", .meth "Lengths" "many", .meth "Lengths" "__eq__", .meth "Lengths" "__str__", .meth "Lengths" "__iter__", .meth "Book" "__init__", .cm "Book" "read", .prp "Book" "sums", .glo "is_integer", .meth "Book" "__call__", .meth "Book" "partners", .meth "Book" "__and__", .meth "Book" "__eq__", .glo "is_integer", .meth "Book" "but", .glo "is_integer", .glo "is_integer", .glo "is_integer", .glo "is_integer", .glo "is_integer", .glo "is_integer", .glo "is_integer", .glo "is_integer", .glo "is_integer", .glo "is_integer", .glo "is_integer", .glo "is_integer", .glo "is_integer", .glo "is_integer", .glo "is_integer", .glo "is_integer", .glo "is_integer", .glo "_law_pen", .glo "_law_draw", .glo "_law_pick", .glo "_law_plain", .glo "_law_made", .glo "_law_pairs", .glo "_law_within", .glo "_law_turn_right", .glo "law"]
  glo := glo0 ++ (glo1 ++ (glo2))
  kw := [(46, 1, ["low"], [1000000]), (46, 1, ["bound"], [1000000]), (46, 1, ["looks"], [1000000]), (46, 1, ["cut", "side"], [1000000]), (37, 5, [], [0, 1, 2, 3, 4, 5, 6, 7])]
theorem binds : ∀ f F, T.fns[f]? = some F → FnB (D.nm []) f F (D.fiAt f) := by
  intro f F h
  match f, h with
  | 0, rfl => exact ⟨(fun _ _ _ _ _ _ _ _ _ us hl => match us, hl with | [_], _ => rfl), (fun h => (h rfl).elim), fun h => (nomatch h), fun n ks perm hk _ => (no_kw hk (by decide)).elim, fun n ks hk => (no_kw hk (by decide)).elim⟩
  | 1, rfl => exact ⟨(fun _ _ _ _ _ _ _ _ _ us hl => match us, hl with | [_, _, _], _ => rfl), (fun h => (h rfl).elim), fun h => (nomatch h), fun n ks perm hk _ => (no_kw hk (by decide)).elim, fun n ks hk => (no_kw hk (by decide)).elim⟩
  | 2, rfl => exact ⟨(fun _ _ _ _ _ _ _ _ _ us hl => match us, hl with | [_, _], _ => rfl), (fun h => (h rfl).elim), fun h => (nomatch h), fun n ks perm hk _ => (no_kw hk (by decide)).elim, fun n ks hk => (no_kw hk (by decide)).elim⟩
  | 3, rfl => exact ⟨(fun _ _ _ _ _ _ _ _ _ us hl => match us, hl with | [_], _ => rfl), (fun h => (h rfl).elim), fun h => (nomatch h), fun n ks perm hk _ => (no_kw hk (by decide)).elim, fun n ks hk => (no_kw hk (by decide)).elim⟩
  | 4, rfl => exact ⟨(fun _ _ _ _ _ _ _ _ _ us hl => match us, hl with | [_], _ => rfl), (fun h => (h rfl).elim), fun h => (nomatch h), fun n ks perm hk _ => (no_kw hk (by decide)).elim, fun n ks hk => (no_kw hk (by decide)).elim⟩
  | 5, rfl => exact ⟨(fun _ _ _ _ _ _ _ _ _ us hl => match us, hl with | [_], _ => rfl), (fun h => (h rfl).elim), fun h => (nomatch h), fun n ks perm hk _ => (no_kw hk (by decide)).elim, fun n ks hk => (no_kw hk (by decide)).elim⟩
  | 6, rfl => exact ⟨(fun _ _ _ _ _ _ _ _ _ us hl => match us, hl with | [_], _ => rfl), (fun h => (h rfl).elim), fun h => (nomatch h), fun n ks perm hk _ => (no_kw hk (by decide)).elim, fun n ks hk => (no_kw hk (by decide)).elim⟩
  | 7, rfl => exact ⟨(fun _ _ _ _ _ _ _ _ _ us hl => match us, hl with | [_], _ => rfl), (fun h => (h rfl).elim), fun h => (nomatch h), fun n ks perm hk _ => (no_kw hk (by decide)).elim, fun n ks hk => (no_kw hk (by decide)).elim⟩
  | 8, rfl => exact ⟨(fun _ _ _ _ _ _ _ _ _ us hl => match us, hl with | [_], _ => rfl), (fun h => (h rfl).elim), fun h => (nomatch h), fun n ks perm hk _ => (no_kw hk (by decide)).elim, fun n ks hk => (no_kw hk (by decide)).elim⟩
  | 9, rfl => exact ⟨(fun _ _ _ _ _ _ _ _ _ us hl => match us, hl with | [_], _ => rfl), (fun h => (h rfl).elim), fun h => (nomatch h), fun n ks perm hk _ => (no_kw hk (by decide)).elim, fun n ks hk => (no_kw hk (by decide)).elim⟩
  | 10, rfl => exact ⟨(fun _ _ _ _ _ _ _ _ _ us hl => match us, hl with | [_], _ => rfl), (fun h => (h rfl).elim), fun h => (nomatch h), fun n ks perm hk _ => (no_kw hk (by decide)).elim, fun n ks hk => (no_kw hk (by decide)).elim⟩
  | 11, rfl => exact ⟨(fun _ _ _ _ _ _ _ _ _ us hl => match us, hl with | [_, _, _], _ => rfl), (fun h => (h rfl).elim), fun h => (nomatch h), fun n ks perm hk _ => (no_kw hk (by decide)).elim, fun n ks hk => (no_kw hk (by decide)).elim⟩
  | 12, rfl => exact ⟨(fun _ _ _ _ _ _ _ _ _ us hl => match us, hl with | [_, _], _ => rfl), (fun h => (h rfl).elim), fun h => (nomatch h), fun n ks perm hk _ => (no_kw hk (by decide)).elim, fun n ks hk => (no_kw hk (by decide)).elim⟩
  | 13, rfl => exact ⟨(fun _ _ _ _ _ _ _ _ _ us hl => match us, hl with | [_, _, _], _ => rfl), (fun h => (h rfl).elim), fun h => (nomatch h), fun n ks perm hk _ => (no_kw hk (by decide)).elim, fun n ks hk => (no_kw hk (by decide)).elim⟩
  | 14, rfl => exact ⟨(fun _ _ _ _ _ _ _ _ _ us hl => match us, hl with | [_, _, _, _], _ => rfl), (fun h => (h rfl).elim), fun h => (nomatch h), fun n ks perm hk _ => (no_kw hk (by decide)).elim, fun n ks hk => (no_kw hk (by decide)).elim⟩
  | 15, rfl => exact ⟨(fun _ _ _ _ _ _ _ _ _ us hl => match us, hl with | [_, _, _], _ => rfl), (fun h => (h rfl).elim), fun h => (nomatch h), fun n ks perm hk _ => (no_kw hk (by decide)).elim, fun n ks hk => (no_kw hk (by decide)).elim⟩
  | 16, rfl => exact ⟨(fun _ _ _ _ _ _ _ _ _ us hl => match us, hl with | [_], _ => rfl), (fun h => (h rfl).elim), fun h => (nomatch h), fun n ks perm hk _ => (no_kw hk (by decide)).elim, fun n ks hk => (no_kw hk (by decide)).elim⟩
  | 17, rfl => exact ⟨(fun _ _ _ _ _ _ _ _ _ us hl => match us, hl with | [_], _ => rfl), (fun h => (h rfl).elim), fun h => (nomatch h), fun n ks perm hk _ => (no_kw hk (by decide)).elim, fun n ks hk => (no_kw hk (by decide)).elim⟩
  | 18, rfl => exact ⟨(fun _ _ _ _ _ _ _ _ _ us hl => match us, hl with | [_], _ => rfl), (fun h => (h rfl).elim), fun h => (nomatch h), fun n ks perm hk _ => (no_kw hk (by decide)).elim, fun n ks hk => (no_kw hk (by decide)).elim⟩
  | 19, rfl => exact ⟨(fun _ _ _ _ _ _ _ _ _ us hl => match us, hl with | [_], _ => rfl), (fun h => (h rfl).elim), fun h => (nomatch h), fun n ks perm hk _ => (no_kw hk (by decide)).elim, fun n ks hk => (no_kw hk (by decide)).elim⟩
  | 20, rfl => exact ⟨(fun h => nomatch h), (fun h => (h rfl).elim), fun _ => ⟨["self"], "lengths", rfl, (fun _ _ _ _ _ _ us rest hl => match us, rest, hl with | [_], [], _ => rfl | [_], _ :: _, _ => rfl)⟩, fun n ks perm hk _ => (no_kw hk (by decide)).elim, fun n ks hk => (no_kw hk (by decide)).elim⟩
  | 21, rfl => exact ⟨(fun _ _ _ _ _ _ _ _ _ us hl => match us, hl with | [_, _], _ => rfl), (fun h => (h rfl).elim), fun h => (nomatch h), fun n ks perm hk _ => (no_kw hk (by decide)).elim, fun n ks hk => (no_kw hk (by decide)).elim⟩
  | 22, rfl => exact ⟨(fun _ _ _ _ _ _ _ _ _ us hl => match us, hl with | [_], _ => rfl), (fun h => (h rfl).elim), fun h => (nomatch h), fun n ks perm hk _ => (no_kw hk (by decide)).elim, fun n ks hk => (no_kw hk (by decide)).elim⟩
  | 23, rfl => exact ⟨(fun _ _ _ _ _ _ _ _ _ us hl => match us, hl with | [_, _], _ => rfl), (fun h => (h rfl).elim), fun h => (nomatch h), fun n ks perm hk _ => (no_kw hk (by decide)).elim, fun n ks hk => (no_kw hk (by decide)).elim⟩
  | 24, rfl => exact ⟨(fun _ _ _ _ _ _ _ _ _ us hl => match us, hl with | [_, _], _ => rfl), (fun h => (h rfl).elim), fun h => (nomatch h), fun n ks perm hk _ => (no_kw hk (by decide)).elim, fun n ks hk => (no_kw hk (by decide)).elim⟩
  | 25, rfl => exact ⟨(fun _ _ _ _ _ _ _ _ _ us hl => match us, hl with | [_, _], _ => rfl), (fun h => (h rfl).elim), fun h => (nomatch h), fun n ks perm hk _ => (no_kw hk (by decide)).elim, fun n ks hk => (no_kw hk (by decide)).elim⟩
  | 26, rfl => exact ⟨(fun _ _ _ _ _ _ _ _ _ us hl => match us, hl with | [_, _], _ => rfl), (fun h => (h rfl).elim), fun h => (nomatch h), fun n ks perm hk _ => (no_kw hk (by decide)).elim, fun n ks hk => (no_kw hk (by decide)).elim⟩
  | 27, rfl => exact ⟨(fun _ _ _ _ _ _ _ _ _ us hl => match us, hl with | [_], _ => rfl), (fun h => (h rfl).elim), fun h => (nomatch h), fun n ks perm hk _ => (no_kw hk (by decide)).elim, fun n ks hk => (no_kw hk (by decide)).elim⟩
  | 28, rfl => exact ⟨(fun _ _ _ _ _ _ _ _ _ us hl => match us, hl with | [_, _], _ => rfl), (fun h => (h rfl).elim), fun h => (nomatch h), fun n ks perm hk _ => (no_kw hk (by decide)).elim, fun n ks hk => (no_kw hk (by decide)).elim⟩
  | 29, rfl => exact ⟨(fun _ _ _ _ _ _ _ _ _ us hl => match us, hl with | [_, _], _ => rfl), (fun h => (h rfl).elim), fun h => (nomatch h), fun n ks perm hk _ => (no_kw hk (by decide)).elim, fun n ks hk => (no_kw hk (by decide)).elim⟩
  | 30, rfl => exact ⟨(fun _ _ _ _ _ _ _ _ _ us hl => match us, hl with | [_], _ => rfl), (fun h => (h rfl).elim), fun h => (nomatch h), fun n ks perm hk _ => (no_kw hk (by decide)).elim, fun n ks hk => (no_kw hk (by decide)).elim⟩
  | 31, rfl => exact ⟨(fun _ _ _ _ _ _ _ _ _ us hl => match us, hl with | [_], _ => rfl), (fun h => (h rfl).elim), fun h => (nomatch h), fun n ks perm hk _ => (no_kw hk (by decide)).elim, fun n ks hk => (no_kw hk (by decide)).elim⟩
  | 32, rfl => exact ⟨(fun _ _ _ _ _ _ _ _ _ us hl => match us, hl with | [_], _ => rfl), (fun h => (h rfl).elim), fun h => (nomatch h), fun n ks perm hk _ => (no_kw hk (by decide)).elim, fun n ks hk => (no_kw hk (by decide)).elim⟩
  | 33, rfl => exact ⟨(fun _ _ _ _ _ _ _ _ _ us hl => match us, hl with | [_, _], _ => rfl), (fun h => (h rfl).elim), fun h => (nomatch h), fun n ks perm hk _ => (no_kw hk (by decide)).elim, fun n ks hk => (no_kw hk (by decide)).elim⟩
  | 34, rfl => exact ⟨(fun _ _ _ _ _ _ _ _ _ us hl => match us, hl with | [_, _], _ => rfl), (fun h => (h rfl).elim), fun h => (nomatch h), fun n ks perm hk _ => (no_kw hk (by decide)).elim, fun n ks hk => (no_kw hk (by decide)).elim⟩
  | 35, rfl => exact ⟨(fun _ _ _ _ _ _ _ _ _ us hl => match us, hl with | [_], _ => rfl), (fun h => (h rfl).elim), fun h => (nomatch h), fun n ks perm hk _ => (no_kw hk (by decide)).elim, fun n ks hk => (no_kw hk (by decide)).elim⟩
  | 36, rfl => exact ⟨(fun _ _ _ _ _ _ _ _ _ us hl => match us, hl with | [_], _ => rfl), (fun h => (h rfl).elim), fun h => (nomatch h), fun n ks perm hk _ => (no_kw hk (by decide)).elim, fun n ks hk => (no_kw hk (by decide)).elim⟩
  | 37, rfl =>
    refine ⟨(fun _ _ h => (by cases h)), (fun _ _ _ _ _ _ _ _ us its hu hi => match us, hu, its, hi with | [_, _, _, _, _, _, _, _], _, [_, _, _], _ => ⟨_, rfl, rfl⟩), fun h => (nomatch h), fun n ks perm hk _ => ?_, fun n ks hk => (no_kwd (i := 37) hk (by decide)).elim⟩
    have hk : D.kw.contains (37, n, ks, perm) = true := hk
    have hm := List.contains_iff_mem.mp hk
    simp [D] at hm
    obtain ⟨rfl, rfl, rfl⟩ := hm
    exact ⟨rfl, fun us ws its hu hw hi => match us, hu, ws, hw, its, hi with | [_, _, _, _, _], _, [], _, [_, _, _], _ => ⟨_, rfl, rfl, fun h => (by cases h), fun _ _ _ _ _ _ _ _ => ⟨_, rfl, rfl⟩⟩⟩
  | 38, rfl => exact ⟨(fun _ _ _ _ _ _ _ _ _ us hl => match us, hl with | [_, _], _ => rfl), (fun h => (h rfl).elim), fun h => (nomatch h), fun n ks perm hk _ => (no_kw hk (by decide)).elim, fun n ks hk => (no_kw hk (by decide)).elim⟩
  | 39, rfl => exact ⟨(fun _ _ _ _ _ _ _ _ _ us hl => match us, hl with | [_], _ => rfl), (fun h => (h rfl).elim), fun h => (nomatch h), fun n ks perm hk _ => (no_kw hk (by decide)).elim, fun n ks hk => (no_kw hk (by decide)).elim⟩
  | 40, rfl => exact ⟨(fun _ _ _ _ _ _ _ _ _ us hl => match us, hl with | [_], _ => rfl), (fun h => (h rfl).elim), fun h => (nomatch h), fun n ks perm hk _ => (no_kw hk (by decide)).elim, fun n ks hk => (no_kw hk (by decide)).elim⟩
  | 41, rfl => exact ⟨(fun _ _ _ _ _ _ _ _ _ us hl => match us, hl with | [_, _, _], _ => rfl), (fun h => (h rfl).elim), fun h => (nomatch h), fun n ks perm hk _ => (no_kw hk (by decide)).elim, fun n ks hk => (no_kw hk (by decide)).elim⟩
  | 42, rfl => exact ⟨(fun _ _ _ _ _ _ _ _ _ us hl => match us, hl with | [_, _], _ => rfl), (fun h => (h rfl).elim), fun h => (nomatch h), fun n ks perm hk _ => (no_kw hk (by decide)).elim, fun n ks hk => (no_kw hk (by decide)).elim⟩
  | 43, rfl => exact ⟨(fun _ _ _ _ _ _ _ _ _ us hl => match us, hl with | [_, _], _ => rfl), (fun h => (h rfl).elim), fun h => (nomatch h), fun n ks perm hk _ => (no_kw hk (by decide)).elim, fun n ks hk => (no_kw hk (by decide)).elim⟩
  | 44, rfl => exact ⟨(fun _ _ _ _ _ _ _ _ _ us hl => match us, hl with | [_, _], _ => rfl), (fun h => (h rfl).elim), fun h => (nomatch h), fun n ks perm hk _ => (no_kw hk (by decide)).elim, fun n ks hk => (no_kw hk (by decide)).elim⟩
  | 45, rfl => exact ⟨(fun _ _ _ _ _ _ _ _ _ us hl => match us, hl with | [_], _ => rfl), (fun h => (h rfl).elim), fun h => (nomatch h), fun n ks perm hk _ => (no_kw hk (by decide)).elim, fun n ks hk => (no_kw hk (by decide)).elim⟩
  | 46, rfl =>
    refine ⟨(fun _ h => (h rfl).elim), (fun h => (h rfl).elim), fun h => (nomatch h), fun n ks perm hk hp => ?_, fun n ks hk => ?_⟩
    · have hk : D.kw.contains (46, n, ks, perm) = true := hk
      have hm := List.contains_iff_mem.mp hk
      simp [D] at hm
      rcases hm with ⟨_, _, e⟩ | ⟨_, _, e⟩ | ⟨_, _, e⟩ | ⟨_, _, e⟩ <;> exact absurd e hp
    · have hk : D.kw.contains (46, n, ks, [kwM]) = true := hk
      have hm := List.contains_iff_mem.mp hk
      simp [D, kwM] at hm
      rcases hm with ⟨rfl, rfl⟩ | ⟨rfl, rfl⟩ | ⟨rfl, rfl⟩ | ⟨rfl, rfl⟩
      · exact ⟨rfl, rfl, rfl, by decide, by decide, ["self"], "parts", rfl, rfl, fun kV doc pm an cdv ct us ws h1 h2 => match us, h1, ws, h2 with | [_], _, [_], _ => rfl⟩
      · exact ⟨rfl, rfl, rfl, by decide, by decide, ["self"], "parts", rfl, rfl, fun kV doc pm an cdv ct us ws h1 h2 => match us, h1, ws, h2 with | [_], _, [_], _ => rfl⟩
      · exact ⟨rfl, rfl, rfl, by decide, by decide, ["self"], "parts", rfl, rfl, fun kV doc pm an cdv ct us ws h1 h2 => match us, h1, ws, h2 with | [_], _, [_], _ => rfl⟩
      · exact ⟨rfl, rfl, rfl, by decide, by decide, ["self"], "parts", rfl, rfl, fun kV doc pm an cdv ct us ws h1 h2 => match us, h1, ws, h2 with | [_], _, [_, _], _ => rfl⟩
  | 47, rfl => exact ⟨(fun _ _ _ _ _ _ _ _ _ us hl => match us, hl with | [_], _ => rfl), (fun h => (h rfl).elim), fun h => (nomatch h), fun n ks perm hk _ => (no_kw hk (by decide)).elim, fun n ks hk => (no_kw hk (by decide)).elim⟩
  | 48, rfl => exact ⟨(fun _ _ _ _ _ _ _ _ _ us hl => match us, hl with | [_], _ => rfl), (fun h => (h rfl).elim), fun h => (nomatch h), fun n ks perm hk _ => (no_kw hk (by decide)).elim, fun n ks hk => (no_kw hk (by decide)).elim⟩
  | 49, rfl => exact ⟨(fun _ _ _ _ _ _ _ _ _ us hl => match us, hl with | [_], _ => rfl), (fun h => (h rfl).elim), fun h => (nomatch h), fun n ks perm hk _ => (no_kw hk (by decide)).elim, fun n ks hk => (no_kw hk (by decide)).elim⟩
  | 50, rfl => exact ⟨(fun _ _ _ _ _ _ _ _ _ us hl => match us, hl with | [_], _ => rfl), (fun h => (h rfl).elim), fun h => (nomatch h), fun n ks perm hk _ => (no_kw hk (by decide)).elim, fun n ks hk => (no_kw hk (by decide)).elim⟩
  | 51, rfl => exact ⟨(fun _ _ _ _ _ _ _ _ _ us hl => match us, hl with | [_], _ => rfl), (fun h => (h rfl).elim), fun h => (nomatch h), fun n ks perm hk _ => (no_kw hk (by decide)).elim, fun n ks hk => (no_kw hk (by decide)).elim⟩
  | 52, rfl => exact ⟨(fun _ _ _ _ _ _ _ _ _ us hl => match us, hl with | [_], _ => rfl), (fun h => (h rfl).elim), fun h => (nomatch h), fun n ks perm hk _ => (no_kw hk (by decide)).elim, fun n ks hk => (no_kw hk (by decide)).elim⟩
  | 53, rfl => exact ⟨(fun _ _ _ _ _ _ _ _ _ us hl => match us, hl with | [_], _ => rfl), (fun h => (h rfl).elim), fun h => (nomatch h), fun n ks perm hk _ => (no_kw hk (by decide)).elim, fun n ks hk => (no_kw hk (by decide)).elim⟩
  | 54, rfl => exact ⟨(fun _ _ _ _ _ _ _ _ _ us hl => match us, hl with | [_], _ => rfl), (fun h => (h rfl).elim), fun h => (nomatch h), fun n ks perm hk _ => (no_kw hk (by decide)).elim, fun n ks hk => (no_kw hk (by decide)).elim⟩
  | 55, rfl => exact ⟨(fun _ _ _ _ _ _ _ _ _ us hl => match us, hl with | [_], _ => rfl), (fun h => (h rfl).elim), fun h => (nomatch h), fun n ks perm hk _ => (no_kw hk (by decide)).elim, fun n ks hk => (no_kw hk (by decide)).elim⟩
  | 56, rfl => exact ⟨(fun _ _ _ _ _ _ _ _ _ us hl => match us, hl with | [_], _ => rfl), (fun h => (h rfl).elim), fun h => (nomatch h), fun n ks perm hk _ => (no_kw hk (by decide)).elim, fun n ks hk => (no_kw hk (by decide)).elim⟩
  | 57, rfl => exact ⟨(fun _ _ _ _ _ _ _ _ _ us hl => match us, hl with | [_], _ => rfl), (fun h => (h rfl).elim), fun h => (nomatch h), fun n ks perm hk _ => (no_kw hk (by decide)).elim, fun n ks hk => (no_kw hk (by decide)).elim⟩
  | 58, rfl => exact ⟨(fun _ _ _ _ _ _ _ _ _ us hl => match us, hl with | [_], _ => rfl), (fun h => (h rfl).elim), fun h => (nomatch h), fun n ks perm hk _ => (no_kw hk (by decide)).elim, fun n ks hk => (no_kw hk (by decide)).elim⟩
  | 59, rfl => exact ⟨(fun _ _ _ _ _ _ _ _ _ us hl => match us, hl with | [_], _ => rfl), (fun h => (h rfl).elim), fun h => (nomatch h), fun n ks perm hk _ => (no_kw hk (by decide)).elim, fun n ks hk => (no_kw hk (by decide)).elim⟩
  | 60, rfl => exact ⟨(fun _ _ _ _ _ _ _ _ _ us hl => match us, hl with | [_], _ => rfl), (fun h => (h rfl).elim), fun h => (nomatch h), fun n ks perm hk _ => (no_kw hk (by decide)).elim, fun n ks hk => (no_kw hk (by decide)).elim⟩
  | 61, rfl => exact ⟨(fun _ _ _ _ _ _ _ _ _ us hl => match us, hl with | [_], _ => rfl), (fun h => (h rfl).elim), fun h => (nomatch h), fun n ks perm hk _ => (no_kw hk (by decide)).elim, fun n ks hk => (no_kw hk (by decide)).elim⟩
  | 62, rfl => exact ⟨(fun _ _ _ _ _ _ _ _ _ us hl => match us, hl with | [_], _ => rfl), (fun h => (h rfl).elim), fun h => (nomatch h), fun n ks perm hk _ => (no_kw hk (by decide)).elim, fun n ks hk => (no_kw hk (by decide)).elim⟩
  | 63, rfl => exact ⟨(fun _ _ _ _ _ _ _ _ _ us hl => match us, hl with | [_], _ => rfl), (fun h => (h rfl).elim), fun h => (nomatch h), fun n ks perm hk _ => (no_kw hk (by decide)).elim, fun n ks hk => (no_kw hk (by decide)).elim⟩
  | 64, rfl => exact ⟨(fun _ _ _ _ _ _ _ _ _ us hl => match us, hl with | [_], _ => rfl), (fun h => (h rfl).elim), fun h => (nomatch h), fun n ks perm hk _ => (no_kw hk (by decide)).elim, fun n ks hk => (no_kw hk (by decide)).elim⟩
  | 65, rfl => exact ⟨(fun _ _ _ _ _ _ _ _ _ us hl => match us, hl with | [_, _], _ => rfl), (fun h => (h rfl).elim), fun h => (nomatch h), fun n ks perm hk _ => (no_kw hk (by decide)).elim, fun n ks hk => (no_kw hk (by decide)).elim⟩
  | 66, rfl => exact ⟨(fun _ _ _ _ _ _ _ _ _ us hl => match us, hl with | [_, _], _ => rfl), (fun h => (h rfl).elim), fun h => (nomatch h), fun n ks perm hk _ => (no_kw hk (by decide)).elim, fun n ks hk => (no_kw hk (by decide)).elim⟩
  | 67, rfl => exact ⟨(fun _ _ _ _ _ _ _ _ _ us hl => match us, hl with | [_], _ => rfl), (fun h => (h rfl).elim), fun h => (nomatch h), fun n ks perm hk _ => (no_kw hk (by decide)).elim, fun n ks hk => (no_kw hk (by decide)).elim⟩
  | 68, rfl => exact ⟨(fun _ _ _ _ _ _ _ _ _ us hl => match us, hl with | [_], _ => rfl), (fun h => (h rfl).elim), fun h => (nomatch h), fun n ks perm hk _ => (no_kw hk (by decide)).elim, fun n ks hk => (no_kw hk (by decide)).elim⟩
  | 69, rfl => exact ⟨(fun _ _ _ _ _ _ _ _ _ us hl => match us, hl with | [_], _ => rfl), (fun h => (h rfl).elim), fun h => (nomatch h), fun n ks perm hk _ => (no_kw hk (by decide)).elim, fun n ks hk => (no_kw hk (by decide)).elim⟩
  | 70, rfl => exact ⟨(fun _ _ _ _ _ _ _ _ _ us hl => match us, hl with | [_, _], _ => rfl), (fun h => (h rfl).elim), fun h => (nomatch h), fun n ks perm hk _ => (no_kw hk (by decide)).elim, fun n ks hk => (no_kw hk (by decide)).elim⟩
  | 71, rfl => exact ⟨(fun _ _ _ _ _ _ _ _ _ us hl => match us, hl with | [_], _ => rfl), (fun h => (h rfl).elim), fun h => (nomatch h), fun n ks perm hk _ => (no_kw hk (by decide)).elim, fun n ks hk => (no_kw hk (by decide)).elim⟩
  | 72, rfl => exact ⟨(fun _ _ _ _ _ _ _ _ _ us hl => match us, hl with | [_], _ => rfl), (fun h => (h rfl).elim), fun h => (nomatch h), fun n ks perm hk _ => (no_kw hk (by decide)).elim, fun n ks hk => (no_kw hk (by decide)).elim⟩
  | n + 73, h => cases h
end K15
end
section
set_option Elab.async false
set_option linter.all false
set_option maxRecDepth 100000
set_option maxHeartbeats 0
namespace K15
open PySem PySem.Spec PyProof.Rows L2 Dv
theorem chk : D.chk = true := by kernel_rfl
theorem sane : D.sane = true := by kernel_rfl
theorem ok : D.Ok := ⟨sane, chk, binds⟩
end K15
end
section
set_option Elab.async false
set_option linter.all false
set_option maxRecDepth 100000
set_option maxHeartbeats 0
namespace K15
open PySem PySem.Spec PyProof.Rows L2 Dv
def loose0 : List Str := ["_wall", "__name__", "is_integer", "is_within", "FloorError", "BadLengths", "BadBook", "BadCount", "BadText", "TooMany", "MOST_LENGTHS", "MOST_LENGTH", "MOST_TOTAL", "MOST_FAR", "ascending", "first_totals"]
def loose1 : List Str := ["need_count", "Lengths", "need_lengths", "lengths_of", "length_in", "lengths_in", "MOST_ROOM", "NAMES", "Book", "need_word", "upcoming", "need_head", "number_at", "lengths_at", "_law_pen", "_law_draw"]
def loose2 : List Str := ["_law_pick", "_law_plain", "_law_made", "_law_pairs", "_law_within", "_law_turn_right"]
def loose : List Str := loose0 ++ loose1 ++ loose2
abbrev R : PySem.W.OpenRow := PySem.W.OpenLaw.row PySem.Challenge.rw_pagefloor_k15_whole_books_in_order_of_wh
abbrev vw : Program := PySem.W.view R.prog [42]
theorem run_top (w : World) : HandSHeadRun.RunEq R vw (D.hook 5) (D.ob 5) 20000 loose w := by
  intro os
  kernel_rfl
end K15
end
section
set_option Elab.async false
set_option linter.all false
set_option maxRecDepth 100000
set_option maxHeartbeats 0
open PySem PySem.W PySem.Calls PyProof.Rows
theorem K15.fin (plain : ∀ ns : List Int, ns.length ≤ 63 → ∃ cs, Dv.run K15.T (14 + 1) false 72 [.scr (ns.map .int)] [] = .ok (.bl true) cs) : PySem.Challenge.rw_pagefloor_k15_whole_books_in_order_of_wh.Holds := by
  w_on; o_law
  refine HandSHeadRun.head_any (r := OpenLaw.row PySem.Challenge.rw_pagefloor_k15_whole_books_in_order_of_wh) (q := K15.vw) (H := K15.D.hook 5) (ob := K15.D.ob 5) (M := 20000) (loose := K15.loose) (d := HandSHeadRun.topDef (OpenLaw.row PySem.Challenge.rw_pagefloor_k15_whole_books_in_order_of_wh).prog 42) (kwd := []) (Dv.LD.ob_eq K15.D 5)
    (by kernel_rfl) (fun s => by kernel_rfl) K15.run_top (by kernel_rfl) (by kernel_rfl) (by kernel_rfl) (by rfl) (by first | assumption | decide +kernel) (by decide +kernel) ⟨rfl, rfl, rfl, rfl, rfl, by decide +kernel⟩ ?hw ?hc
  case hw => w_witness2
  case hc =>
    refine L2.walk_ofE (l := PySem.Challenge.rw_pagefloor_k15_whole_books_in_order_of_wh) (n := 63) (k := 4 * 14 + 8) (x := "_law_script") (CX := C8.CX0) rfl (by decide) (by kernel_rfl) ⟨rfl, by decide, by decide⟩ ?F (fun _ _ _ _ z => z)
    intro w mg fa h Y G hmg0
    obtain ⟨K, KX, c⟩ := Y
    have hmg : mg ("law" : PySem.Str) = some (.ref fa) := by
      have e : (HandSHeadRun.topDef (OpenLaw.row PySem.Challenge.rw_pagefloor_k15_whole_books_in_order_of_wh).prog 42).name = ("law" : PySem.Str) := by kernel_rfl
      rw [← e]
      exact hmg0
    obtain ⟨fd, hb, h1, h2⟩ := Dv.law_of (L := K15.D) K15.ok c KX G (k := 14) (f := 72) (F := K15.f_law) (x := "law") (y := "_law_script") rfl rfl rfl rfl rfl hmg (by kernel_rfl) plain
    exact ⟨K, fd, _, KX, hb, fun H a ns hl hO hS => h1 H a ns hl hO hS, fun base hb1 hb2 => h2 _ w base hb1 hb2⟩
end
section
set_option Elab.async false
set_option linter.all false
set_option maxRecDepth 100000
set_option maxHeartbeats 400000
namespace K15
open PySem PySem.Spec PyProof.Rows L2 Dv Pk
theorem hMade : HasMade T where
  f0 := ⟨rfl⟩
  f1 := ⟨rfl⟩
  f2 := ⟨rfl⟩
  f3 := ⟨rfl⟩
  f5 := ⟨rfl⟩
  f8 := ⟨rfl⟩
  f9 := ⟨rfl⟩
  f11 := ⟨rfl⟩
  f20 := ⟨rfl⟩
  f21 := ⟨rfl⟩
  f28 := ⟨rfl⟩
  f29 := ⟨rfl⟩
  f34 := ⟨rfl⟩
  f37 := ⟨rfl⟩
  f39 := ⟨rfl⟩
  f44 := ⟨rfl⟩
  c0 := rfl
  c1 := rfl
  c2 := rfl
  c3 := rfl
  c4 := rfl
  c := ⟨_, rfl, rfl, rfl⟩
  at_ := by decide
  m14 := rfl
  m15 := rfl
  mEqB := rfl
  mEqL := rfl
  atb := fun j h1 h2 => (by decide : ∀ j, j < 12 → 4 ≤ j → okAt T 1 j = true) j h2 h1
  b := ⟨_, rfl, rfl, rfl, rfl, rfl, rfl, rfl, rfl⟩
  ancL := ⟨_, rfl, rfl⟩
  cm := rfl
  its := ⟨_, rfl, rfl, rfl⟩
theorem hAl : HasAl T := { hMade.toHasBook with
  f41 := ⟨rfl⟩
  f42 := ⟨rfl⟩
  f43 := ⟨rfl⟩
  f46 := ⟨rfl⟩
  c7 := rfl
  mCall := rfl
  mAnd := rfl
  m20 := rfl
  m28 := rfl }
theorem hDraw : Draws T 65 := ⟨_, _, _, _, _, _, _, _, _, _, ⟨rfl⟩, by decide⟩
theorem hPick : Has T 66 (fPick 65) := ⟨rfl⟩
theorem hPlain : Has T 67 (fPlain 65 66) := ⟨rfl⟩
theorem hMd : Has T 68 fMade := ⟨rfl⟩
theorem hPairs : Has T 69 fPairs := ⟨rfl⟩
theorem hWi : Has T 70 (fWithin 69) := ⟨rfl⟩
theorem hPen : Has T 64 fPen := ⟨rfl⟩
end K15
end
section
set_option Elab.async false
set_option linter.all false
set_option maxRecDepth 100000
set_option maxHeartbeats 400000
namespace K15
open PySem PySem.Spec PyProof.Rows L2 Dv Pk
variable {k : Nat} {cs : Cells} {tl : Cells} {b : Nat} {p q p' : Pb} {F G : FT} {s1 s2 s3 s4 s5 s6 s7 s8 s9 : Slot}
/-! ### plain -/
theorem al_mono {x y : Nat} (h1 : q.low ≤ p.low) (h2 : q.bound ≤ p.bound) (h3 : p.lk = "own" → q.lk = "own") (h : alB p x y = true) : alB q x y = true := by
  unfold alB at *
  simp only [Bool.or_eq_true, decide_eq_true_eq] at *
  rcases h with h | h
  · exact .inl (by omega)
  · refine .inr ?_
    by_cases e : p.lk = "own"
    · rw [if_pos e] at h
      rw [if_pos (h3 e)]
      simp only [Bool.or_eq_true, decide_eq_true_eq] at *
      omega
    · rw [if_neg e] at h
      simp only [Bool.and_eq_true, decide_eq_true_eq] at h
      split
      · simp only [Bool.or_eq_true, decide_eq_true_eq]
        omega
      · simp only [Bool.and_eq_true, decide_eq_true_eq]
        omega
theorem wi_mono (h1 : q.low ≤ p.low) (h2 : q.bound ≤ p.bound) (h3 : p.lk = "own" → q.lk = "own") : wiB p q F = true := by
  unfold wiB
  rw [List.all_eq_true]
  rintro ⟨x, y⟩ hz
  exact al_mono h1 h2 h3 (mem_prs.mp hz).2.2
theorem sum_sq (f : Nat → Nat) (n : Nat) : ∀ xs : List Nat, (∀ x ∈ xs, f x = n) → (xs.map f).sum = xs.length * n
  | [], _ => by simp
  | x :: xs, h => by
    rw [List.map_cons, List.sum_cons, sum_sq f n xs fun y hy => h y (List.mem_cons_of_mem _ hy), h x List.mem_cons_self, List.length_cons, Nat.succ_mul]
    omega
theorem prs_full (h : ∀ x ∈ bsum p F, ∀ y ∈ bsum p F, alB p x y = true) : (prs p F).length = (bsum p F).length * (bsum p F).length := by
  unfold prs
  rw [List.length_flatMap]
  refine sum_sq _ _ _ fun x hx => ?_
  unfold rowA
  rw [List.length_map]
  congr 1
  rw [List.filter_eq_self]
  exact fun y hy => h x hx y hy
theorem sum_bd (hF : LenOk p.l0 p.L F) {x : Nat} (hx : x ∈ bsum p F) : p.l0 ≤ x ∧ x ≤ p.room := by
  have h := (tot_mem hF p.room x).mp hx
  refine ⟨?_, h.2.1⟩
  obtain ⟨rows, r1, r2⟩ := h.2.2
  cases rows with
  | nil =>
    simp at r2
    omega
  | cons r rows =>
    have hr := r1 r List.mem_cons_self
    have : p.l0 ≤ r := by
      rcases List.mem_cons.mp hr with e | e
      · omega
      · have := (List.pairwise_cons.mp hF.asc).1 r e
        omega
    simp at r2
    omega
theorem full_low : (prs { p with low := 0 } F).length = (bsum p F).length * (bsum p F).length :=
  prs_full (p := { p with low := 0 }) fun x _ y _ => by
    unfold alB
    simp
theorem full_bound (hF : LenOk p.l0 p.L F) {n : Nat} (hn : n < 2 * p.l0) : (prs { p with bound := n } F).length = (bsum p F).length * (bsum p F).length :=
  prs_full (p := { p with bound := n }) fun x hx y hy => by
    have h1 := sum_bd hF hx
    have h2 := sum_bd hF hy
    unfold alB
    rw [decide_eq_true (show n < x + y by omega)]
    rfl
theorem low_none (hF : LenOk p.l0 p.L F) {z : Nat × Nat} (hz : z ∈ prs { p with low := p.room + 1 } F) : ¬ z.1 + z.2 ≤ p.bound := by
  obtain ⟨h1, h2, h3⟩ := mem_prs.mp (show (z.1, z.2) ∈ _ from hz)
  have h1 := (sum_bd hF h1).2
  have h2 := (sum_bd hF h2).2
  unfold alB at h3
  simp only [Bool.or_eq_true, decide_eq_true_eq] at h3
  rcases h3 with h3 | h3
  · omega
  · rw [decide_eq_false (show ¬ p.room + 1 ≤ z.1 by omega), decide_eq_false (show ¬ p.room + 1 ≤ z.2 by omega)] at h3
    split at h3 <;> cases h3
/-! ### a turn -/
def t1 : Sm := (.set 1 (.call 67 (.cons (.var 0) .nil)))
def t2 : Sm := (.set 2 (.call 68 (.cons (.var 1) .nil)))
def t3 : Sm := (.set 3 (.lst (.cons (.methw 28 (.var 2) ["low"] (.cons (.call 65 (.cons (.var 0) (.cons (.bin .add (.sub (.var 1) (.int 2)) (.int 1)) .nil))) .nil)) (.cons (.methw 28 (.var 2) ["bound"] (.cons (.call 65 (.cons (.var 0) (.cons (.bin .add (.sub (.var 1) (.int 3)) (.int 1)) .nil))) .nil)) (.cons (.methw 28 (.var 2) ["looks"] (.cons (.str "own") .nil)) .nil)))))
def t4 : Sm := (.ite (.cmp .ne (.comp (.var 8) [8] true (.var 3) (.not (.call 70 (.cons (.var 2) (.cons (.var 8) .nil))))) (.lst .nil)) (.seq (.ret (.bl false)) .skip) .skip)
def t5 : Sm := (.set 4 (.methw 28 (.var 2) ["cut", "side"] (.cons (.call 66 (.cons (.var 0) (.cons (.lst (.cons (.str "even") (.cons (.str "ahead") (.cons (.str "put") .nil)))) .nil))) (.cons (.call 66 (.cons (.var 0) (.cons (.lst (.cons (.str "left") (.cons (.str "right") .nil))) .nil))) .nil))))
def t6 : Sm := (.ite (.cmp .ne (.call 69 (.cons (.var 4) .nil)) (.call 69 (.cons (.var 2) .nil))) (.seq (.ret (.bl false)) .skip) .skip)
def t7 : Sm := (.set 5 (.bin .mul (.blt .len (.cons (.prop (.var 2) 21) .nil)) (.blt .len (.cons (.prop (.var 2) 21) .nil))))
def t8 : Sm := (.ite (.or (.cmp .ne (.blt .len (.cons (.call 69 (.cons (.methw 28 (.var 2) ["low"] (.cons (.int 0) .nil)) .nil)) .nil)) (.var 5)) (.cmp .ne (.blt .len (.cons (.call 69 (.cons (.methw 28 (.var 2) ["bound"] (.cons (.blt .min2 (.cons (.blt .int (.cons (.sub (.var 1) (.int 0)) .nil)) (.cons (.bin .sub (.bin .mul (.int 2) (.sub (.sub (.var 1) (.int 1)) (.int 0))) (.int 1)) .nil))) .nil)) .nil)) .nil)) (.var 5))) (.seq (.ret (.bl false)) .skip) .skip)
def t9 : Sm := (.set 6 (.methw 28 (.var 2) ["low"] (.cons (.bin .add (.sub (.var 1) (.int 0)) (.int 1)) .nil)))
def t10 : Sm := (.ite (.cmp .ne (.comp (.var 9) [9] true (.call 69 (.cons (.var 6) .nil)) (.cmp .le (.bin .add (.sub (.var 9) (.int 0)) (.sub (.var 9) (.int 1))) (.sub (.var 1) (.int 3)))) (.lst .nil)) (.seq (.ret (.bl false)) .skip) .skip)
def t11 : Sm := (.set 7 (.bin .band (.sub (.var 3) (.int 0)) (.sub (.var 3) (.int 1))))
def t12 : Sm := (.ret (.and (.call 70 (.cons (.sub (.var 3) (.int 0)) (.cons (.var 7) .nil))) (.and (.call 70 (.cons (.sub (.var 3) (.int 1)) (.cons (.var 7) .nil))) (.and (.call 70 (.cons (.var 6) (.cons (.var 2) .nil))) (.call 70 (.cons (.var 2) (.cons (.bin .band (.sub (.var 3) (.int 2)) (.var 7)) .nil)))))))
theorem t_body : f_law_turn_right.body = .seq t1 (.seq t2 (.seq t3 (.seq t4 (.seq t5 (.seq t6 (.seq t7 (.seq t8 (.seq t9 (.seq t10 (.seq t11 (.seq t12 .skip))))))))))) := rfl
abbrev tE (s1 s2 s3 s4 s5 s6 s7 : Slot) : Dv.Env := [.val (.cell 0), s1, s2, s3, s4, s5, s6, s7, .emp, .emp]
theorem t1_wp (h : Pn tl b cs) (hb : b < 700000) : Wp (sm T (run T (k + 3)) t1 (tE s1 s2 s3 s4 s5 s6 s7) cs) fun f cs' => (∃ p, PbOk p ∧ p.room ≤ 12 ∧ f = .nx (tE (.val (plD p)) s2 s3 s4 s5 s6 s7)) ∧ Pn tl (b + 30) cs' := by
  unfold t1
  simp only [sm, thenF_nx, thenF_ret, thenF_brk, thenF_cnt, den, ofVT, ofVB, noDen, baseA, cmpD, bltD, bind_ok, ofRes_some, getV_0, getV_s, getB_0, getB_s, truth_bl, truth_int, cmp_lt, cmp_le, cmp_gt, cmp_ge, List.getElem?_cons_zero, List.getElem?_cons_succ, List.set_cons_zero, List.set_cons_succ, if_true, if_false, reduceIte, decide_true, decide_false, end_ret, end_nx, List.length_cons, List.length_nil, Nat.zero_add, Nat.reduceAdd, Nat.reduceLT, Nat.reduceLeDiff, Nat.zero_le, and_self, Bool.not_true, Bool.not_false, Bool.false_eq_true, items_lst, items_tup, deref_lst, deref_tup, deref_str, deref_int, getA_0, getA_s]
  try simp only [Dv.bind_assoc]
  refine wp_at (r_plain hDraw hPick hPlain h (by omega)) ?_
  rintro _ cs1 ⟨⟨p, hp, hr, rfl⟩, hp1⟩
  simp only [sm, thenF_nx, thenF_ret, thenF_brk, thenF_cnt, den, ofVT, ofVB, noDen, baseA, cmpD, bltD, bind_ok, ofRes_some, getV_0, getV_s, getB_0, getB_s, truth_bl, truth_int, cmp_lt, cmp_le, cmp_gt, cmp_ge, List.getElem?_cons_zero, List.getElem?_cons_succ, List.set_cons_zero, List.set_cons_succ, if_true, if_false, reduceIte, decide_true, decide_false, end_ret, end_nx, List.length_cons, List.length_nil, Nat.zero_add, Nat.reduceAdd, Nat.reduceLT, Nat.reduceLeDiff, Nat.zero_le, and_self, Bool.not_true, Bool.not_false, Bool.false_eq_true, items_lst, items_tup, deref_lst, deref_tup, deref_str, deref_int, getA_0, getA_s]
  exact (wp_ok _ _ _).mpr ⟨⟨p, hp, hr, rfl⟩, hp1⟩
theorem t2_run (hp : PbOk p) : ∃ F, sm T (run T (k + 7)) t2 (tE (.val (plD p)) s2 s3 s4 s5 s6 s7) cs = .ok (.nx (tE (.val (plD p)) (.val (bkD p F)) s3 s4 s5 s6 s7)) cs ∧ LenOk p.l0 p.L F := by
  obtain ⟨F, e, hF⟩ := r_made (k := k) (cs := cs) hMade hMd hp
  refine ⟨F, ?_, hF⟩
  unfold t2
  simp only [sm, thenF_nx, thenF_ret, thenF_brk, thenF_cnt, den, ofVT, ofVB, noDen, baseA, cmpD, bltD, bind_ok, ofRes_some, getV_0, getV_s, getB_0, getB_s, truth_bl, truth_int, cmp_lt, cmp_le, cmp_gt, cmp_ge, List.getElem?_cons_zero, List.getElem?_cons_succ, List.set_cons_zero, List.set_cons_succ, if_true, if_false, reduceIte, decide_true, decide_false, end_ret, end_nx, List.length_cons, List.length_nil, Nat.zero_add, Nat.reduceAdd, Nat.reduceLT, Nat.reduceLeDiff, Nat.zero_le, and_self, Bool.not_true, Bool.not_false, Bool.false_eq_true, items_lst, items_tup, deref_lst, deref_tup, deref_str, deref_int, getA_0, getA_s, e]
theorem mF28 (p : Pb) (F : FT) (cs : Cells) : methF T 28 (bkD p F) cs = some 46 := rfl
theorem wlow (hp : PbOk p) {n : Nat} (hn : n ≤ p.room + 1) : PbOk { p with low := n } := ⟨hp.r, hp.asc, hp.bd, hp.few, hp.fit, hn, hp.bo, hp.k, hp.c, hp.s⟩
theorem wbound (hp : PbOk p) {n : Nat} (hn : n ≤ p.room) : PbOk { p with bound := n } := ⟨hp.r, hp.asc, hp.bd, hp.few, hp.fit, hp.lo, hn, hp.k, hp.c, hp.s⟩
theorem wlooks (hp : PbOk p) {n : Str} (hn : n ∈ lks) : PbOk { p with lk := n } := ⟨hp.r, hp.asc, hp.bd, hp.few, hp.fit, hp.lo, hp.bo, hn, hp.c, hp.s⟩
theorem wcs (hp : PbOk p) {n m : Str} (hn : n ∈ cts) (hm : m ∈ sds) : PbOk { p with ct := n, sd := m } := ⟨hp.r, hp.asc, hp.bd, hp.few, hp.fit, hp.lo, hp.bo, hp.k, hn, hm⟩
abbrev less (p : Pb) (F : FT) (x y : Nat) : Dv.D := .lst [bkD { p with low := x } F, bkD { p with bound := y } F, bkD { p with lk := "own" } F]
theorem t3_wp (hp : PbOk p) (hr : p.room ≤ 12) (hF : LenOk p.l0 p.L F) (h : Pn tl b cs) (hb : b < 700000) : Wp (sm T (run T (k + 7)) t3 (tE (.val (plD p)) (.val (bkD p F)) s3 s4 s5 s6 s7) cs) fun f cs' => (∃ x y, x ≤ p.low ∧ y ≤ p.bound ∧ f = .nx (tE (.val (plD p)) (.val (bkD p F)) (.val (less p F x y)) s4 s5 s6 s7)) ∧ Pn tl (b + 2) cs' := by
  have hlo := hp.lo
  have hbo := hp.bo
  have s2 : ∀ O cs, subD T O (plD p) (.int 2) cs = .ok (nD p.low) cs := fun _ _ => rfl
  have s3 : ∀ O cs, subD T O (plD p) (.int 3) cs = .ok (nD p.bound) cs := fun _ _ => rfl
  have z3 : 3 ≤ sizeLine := by decide
  unfold t3
  simp only [sm, thenF_nx, thenF_ret, thenF_brk, thenF_cnt, den, ofVT, ofVB, noDen, baseA, cmpD, bltD, bind_ok, ofRes_some, getV_0, getV_s, getB_0, getB_s, truth_bl, truth_int, cmp_lt, cmp_le, cmp_gt, cmp_ge, List.getElem?_cons_zero, List.getElem?_cons_succ, List.set_cons_zero, List.set_cons_succ, if_true, if_false, reduceIte, decide_true, decide_false, end_ret, end_nx, List.length_cons, List.length_nil, Nat.zero_add, Nat.reduceAdd, Nat.reduceLT, Nat.reduceLeDiff, Nat.zero_le, and_self, Bool.not_true, Bool.not_false, Bool.false_eq_true, items_lst, items_tup, deref_lst, deref_tup, deref_str, deref_int, getA_0, getA_s, mF28, s2, bin_add]
  try simp only [Dv.bind_assoc]
  refine wp_at (r_draw (k := k + 6) (m := p.low + 1) hDraw h (by omega) (by omega) (by omega)) ?_
  rintro _ cs1 ⟨⟨x, hx, rfl⟩, hp1⟩
  have e1 := r_but_low (k := k + 1) (cs := cs1) (n := x) hAl (wlow hp (by omega)) hF
  simp only [sm, thenF_nx, thenF_ret, thenF_brk, thenF_cnt, den, ofVT, ofVB, noDen, baseA, cmpD, bltD, bind_ok, ofRes_some, getV_0, getV_s, getB_0, getB_s, truth_bl, truth_int, cmp_lt, cmp_le, cmp_gt, cmp_ge, List.getElem?_cons_zero, List.getElem?_cons_succ, List.set_cons_zero, List.set_cons_succ, if_true, if_false, reduceIte, decide_true, decide_false, end_ret, end_nx, List.length_cons, List.length_nil, Nat.zero_add, Nat.reduceAdd, Nat.reduceLT, Nat.reduceLeDiff, Nat.zero_le, and_self, Bool.not_true, Bool.not_false, Bool.false_eq_true, items_lst, items_tup, deref_lst, deref_tup, deref_str, deref_int, getA_0, getA_s, mF28, s3, bin_add, ne_eq, reduceCtorEq, not_false_eq_true, e1]
  try simp only [Dv.bind_assoc]
  refine wp_at (r_draw (k := k + 6) (m := p.bound + 1) hDraw hp1 (by omega) (by omega) (by omega)) ?_
  rintro _ cs2 ⟨⟨y, hy, rfl⟩, hp2⟩
  have e2 := r_but_bound (k := k + 1) (cs := cs2) (n := y) hAl (wbound hp (by omega)) hF
  have e3 := r_but_looks (k := k + 1) (cs := cs2) (n := "own") hAl (wlooks hp (by simp [lks])) hF
  simp only [sm, thenF_nx, thenF_ret, thenF_brk, thenF_cnt, den, ofVT, ofVB, noDen, baseA, cmpD, bltD, bind_ok, ofRes_some, getV_0, getV_s, getB_0, getB_s, truth_bl, truth_int, cmp_lt, cmp_le, cmp_gt, cmp_ge, List.getElem?_cons_zero, List.getElem?_cons_succ, List.set_cons_zero, List.set_cons_succ, if_true, if_false, reduceIte, decide_true, decide_false, end_ret, end_nx, List.length_cons, List.length_nil, Nat.zero_add, Nat.reduceAdd, Nat.reduceLT, Nat.reduceLeDiff, Nat.zero_le, and_self, Bool.not_true, Bool.not_false, Bool.false_eq_true, items_lst, items_tup, deref_lst, deref_tup, deref_str, deref_int, getA_0, getA_s, mF28, ne_eq, reduceCtorEq, not_false_eq_true, e2, e3, z3]
  exact (wp_ok _ _ _).mpr ⟨⟨x, y, by omega, by omega, rfl⟩, hp2⟩
end K15
end
section
set_option Elab.async false
set_option linter.all false
set_option maxRecDepth 100000
set_option maxHeartbeats 400000
namespace K15
open PySem PySem.Spec PyProof.Rows L2 Dv Pk
variable {k : Nat} {cs : Cells} {tl : Cells} {b x y : Nat} {p q p' : Pb} {F G : FT} {s1 s2 s3 s4 s5 s6 s7 s8 s9 : Slot}
theorem t4_run (hp : PbOk p) (hx : x ≤ p.low) (hy : y ≤ p.bound) : sm T (run T (k + 7)) t4 (tE (.val (plD p)) (.val (bkD p F)) (.val (less p F x y)) s4 s5 s6 s7) cs = .ok (.nx (tE (.val (plD p)) (.val (bkD p F)) (.val (less p F x y)) s4 s5 s6 s7)) cs := by
  have hlo := hp.lo
  have hbo := hp.bo
  have e1 := r_wi (k := k + 2) (cs := cs) (p := p) (q := { p with low := x }) (F := F) hAl hPairs hWi hp (wlow hp (by omega)) ⟨rfl, rfl, rfl⟩
  have e2 := r_wi (k := k + 2) (cs := cs) (p := p) (q := { p with bound := y }) (F := F) hAl hPairs hWi hp (wbound hp (by omega)) ⟨rfl, rfl, rfl⟩
  have e3 := r_wi (k := k + 2) (cs := cs) (p := p) (q := { p with lk := "own" }) (F := F) hAl hPairs hWi hp (wlooks hp (by simp [lks])) ⟨rfl, rfl, rfl⟩
  rw [wi_mono (p := p) (q := { p with low := x }) hx (Nat.le_refl _) id] at e1
  rw [wi_mono (p := p) (q := { p with bound := y }) (Nat.le_refl _) hy id] at e2
  rw [wi_mono (p := p) (q := { p with lk := "own" }) (Nat.le_refl _) (Nat.le_refl _) fun _ => rfl] at e3
  have z0 : 0 ≤ sizeLine := Nat.zero_le _
  have z3 : [bkD { p with low := x } F, bkD { p with bound := y } F, bkD { p with lk := "own" } F].length ≤ sizeLine := show 3 ≤ _ by decide
  have en : eqD T (run T (k + 7)) (.lst []) (.lst []) cs = .ok true cs := eq_prs [] [] cs
  unfold t4
  simp only [sm, thenF_nx, thenF_ret, thenF_brk, thenF_cnt, den, ofVT, ofVB, noDen, baseA, cmpD, bltD, bind_ok, ofRes_some, getV_0, getV_s, getB_0, getB_s, truth_bl, truth_int, cmp_lt, cmp_le, cmp_gt, cmp_ge, List.getElem?_cons_zero, List.getElem?_cons_succ, List.set_cons_zero, List.set_cons_succ, if_true, if_false, reduceIte, decide_true, decide_false, end_ret, end_nx, List.length_cons, List.length_nil, Nat.zero_add, Nat.reduceAdd, Nat.reduceLT, Nat.reduceLeDiff, Nat.zero_le, and_self, Bool.not_true, Bool.not_false, Bool.false_eq_true, items_lst, items_tup, deref_lst, deref_tup, deref_str, deref_int, getA_0, getA_s, itemsI_lst]
  simp only [Dv.bind_assoc]
  refine comp_filt (fun _ => false) (fun d hd => ?_) z3 ?_
  · simp only [List.mem_cons, List.not_mem_nil, or_false] at hd
    rcases hd with rfl | rfl | rfl
    · simp only [sm, thenF_nx, thenF_ret, thenF_brk, thenF_cnt, den, ofVT, ofVB, noDen, baseA, cmpD, bltD, bind_ok, ofRes_some, getV_0, getV_s, getB_0, getB_s, truth_bl, truth_int, cmp_lt, cmp_le, cmp_gt, cmp_ge, List.getElem?_cons_zero, List.getElem?_cons_succ, List.set_cons_zero, List.set_cons_succ, if_true, if_false, reduceIte, decide_true, decide_false, end_ret, end_nx, List.length_cons, List.length_nil, Nat.zero_add, Nat.reduceAdd, Nat.reduceLT, Nat.reduceLeDiff, Nat.zero_le, and_self, Bool.not_true, Bool.not_false, Bool.false_eq_true, items_lst, items_tup, deref_lst, deref_tup, deref_str, deref_int, getA_0, getA_s, turnD, setTg, setAll, wipeE, e1]
    · simp only [sm, thenF_nx, thenF_ret, thenF_brk, thenF_cnt, den, ofVT, ofVB, noDen, baseA, cmpD, bltD, bind_ok, ofRes_some, getV_0, getV_s, getB_0, getB_s, truth_bl, truth_int, cmp_lt, cmp_le, cmp_gt, cmp_ge, List.getElem?_cons_zero, List.getElem?_cons_succ, List.set_cons_zero, List.set_cons_succ, if_true, if_false, reduceIte, decide_true, decide_false, end_ret, end_nx, List.length_cons, List.length_nil, Nat.zero_add, Nat.reduceAdd, Nat.reduceLT, Nat.reduceLeDiff, Nat.zero_le, and_self, Bool.not_true, Bool.not_false, Bool.false_eq_true, items_lst, items_tup, deref_lst, deref_tup, deref_str, deref_int, getA_0, getA_s, turnD, setTg, setAll, wipeE, e2]
    · simp only [sm, thenF_nx, thenF_ret, thenF_brk, thenF_cnt, den, ofVT, ofVB, noDen, baseA, cmpD, bltD, bind_ok, ofRes_some, getV_0, getV_s, getB_0, getB_s, truth_bl, truth_int, cmp_lt, cmp_le, cmp_gt, cmp_ge, List.getElem?_cons_zero, List.getElem?_cons_succ, List.set_cons_zero, List.set_cons_succ, if_true, if_false, reduceIte, decide_true, decide_false, end_ret, end_nx, List.length_cons, List.length_nil, Nat.zero_add, Nat.reduceAdd, Nat.reduceLT, Nat.reduceLeDiff, Nat.zero_le, and_self, Bool.not_true, Bool.not_false, Bool.false_eq_true, items_lst, items_tup, deref_lst, deref_tup, deref_str, deref_int, getA_0, getA_s, turnD, setTg, setAll, wipeE, e3]
  · rw [List.filter_eq_nil_iff.mpr (fun _ _ => Bool.false_ne_true)]
    simp only [sm, thenF_nx, thenF_ret, thenF_brk, thenF_cnt, den, ofVT, ofVB, noDen, baseA, cmpD, bltD, bind_ok, ofRes_some, getV_0, getV_s, getB_0, getB_s, truth_bl, truth_int, cmp_lt, cmp_le, cmp_gt, cmp_ge, List.getElem?_cons_zero, List.getElem?_cons_succ, List.set_cons_zero, List.set_cons_succ, if_true, if_false, reduceIte, decide_true, decide_false, end_ret, end_nx, List.length_cons, List.length_nil, Nat.zero_add, Nat.reduceAdd, Nat.reduceLT, Nat.reduceLeDiff, Nat.zero_le, and_self, Bool.not_true, Bool.not_false, Bool.false_eq_true, items_lst, items_tup, deref_lst, deref_tup, deref_str, deref_int, getA_0, getA_s, ofV, z0, en]
theorem t5_wp (hp : PbOk p) (hF : LenOk p.l0 p.L F) (h : Pn tl b cs) (hb : b < 700000) : Wp (sm T (run T (k + 7)) t5 (tE (.val (plD p)) (.val (bkD p F)) s3 s4 s5 s6 s7) cs) fun f cs' => (∃ c s, c ∈ cts ∧ s ∈ sds ∧ f = .nx (tE (.val (plD p)) (.val (bkD p F)) s3 (.val (bkD { p with ct := c, sd := s } F)) s5 s6 s7)) ∧ Pn tl (b + 2) cs' := by
  have z2 : 2 ≤ sizeLine := by decide
  have z3 : 3 ≤ sizeLine := by decide
  unfold t5
  simp only [sm, thenF_nx, thenF_ret, thenF_brk, thenF_cnt, den, ofVT, ofVB, noDen, baseA, cmpD, bltD, bind_ok, ofRes_some, getV_0, getV_s, getB_0, getB_s, truth_bl, truth_int, cmp_lt, cmp_le, cmp_gt, cmp_ge, List.getElem?_cons_zero, List.getElem?_cons_succ, List.set_cons_zero, List.set_cons_succ, if_true, if_false, reduceIte, decide_true, decide_false, end_ret, end_nx, List.length_cons, List.length_nil, Nat.zero_add, Nat.reduceAdd, Nat.reduceLT, Nat.reduceLeDiff, Nat.zero_le, and_self, Bool.not_true, Bool.not_false, Bool.false_eq_true, items_lst, items_tup, deref_lst, deref_tup, deref_str, deref_int, getA_0, getA_s, mF28, z3]
  try simp only [Dv.bind_assoc]
  refine wp_at (r_pick (k := k + 5) hDraw hPick h (cts.map Dv.D.str) (by decide) (by decide) (by omega)) ?_
  rintro _ cs1 ⟨h1, hp1⟩
  obtain ⟨c, k1, rfl⟩ := strs_mem h1
  simp only [sm, thenF_nx, thenF_ret, thenF_brk, thenF_cnt, den, ofVT, ofVB, noDen, baseA, cmpD, bltD, bind_ok, ofRes_some, getV_0, getV_s, getB_0, getB_s, truth_bl, truth_int, cmp_lt, cmp_le, cmp_gt, cmp_ge, List.getElem?_cons_zero, List.getElem?_cons_succ, List.set_cons_zero, List.set_cons_succ, if_true, if_false, reduceIte, decide_true, decide_false, end_ret, end_nx, List.length_cons, List.length_nil, Nat.zero_add, Nat.reduceAdd, Nat.reduceLT, Nat.reduceLeDiff, Nat.zero_le, and_self, Bool.not_true, Bool.not_false, Bool.false_eq_true, items_lst, items_tup, deref_lst, deref_tup, deref_str, deref_int, getA_0, getA_s, z2]
  try simp only [Dv.bind_assoc]
  refine wp_at (r_pick (k := k + 5) hDraw hPick hp1 (sds.map Dv.D.str) (by decide) (by decide) (by omega)) ?_
  rintro _ cs2 ⟨h2, hp2⟩
  obtain ⟨s, k2, rfl⟩ := strs_mem h2
  have e3 := r_but_cs (k := k + 1) (cs := cs2) (n := c) (m := s) hAl (wcs hp k1 k2) hF
  simp only [sm, thenF_nx, thenF_ret, thenF_brk, thenF_cnt, den, ofVT, ofVB, noDen, baseA, cmpD, bltD, bind_ok, ofRes_some, getV_0, getV_s, getB_0, getB_s, truth_bl, truth_int, cmp_lt, cmp_le, cmp_gt, cmp_ge, List.getElem?_cons_zero, List.getElem?_cons_succ, List.set_cons_zero, List.set_cons_succ, if_true, if_false, reduceIte, decide_true, decide_false, end_ret, end_nx, List.length_cons, List.length_nil, Nat.zero_add, Nat.reduceAdd, Nat.reduceLT, Nat.reduceLeDiff, Nat.zero_le, and_self, Bool.not_true, Bool.not_false, Bool.false_eq_true, items_lst, items_tup, deref_lst, deref_tup, deref_str, deref_int, getA_0, getA_s, ne_eq, reduceCtorEq, not_false_eq_true, e3]
  exact (wp_ok _ _ _).mpr ⟨⟨c, s, k1, k2, rfl⟩, hp2⟩
theorem t6_run {c s : Str} (hp : PbOk p) (hc : c ∈ cts) (hs : s ∈ sds) : sm T (run T (k + 7)) t6 (tE s1 (.val (bkD p F)) s3 (.val (bkD { p with ct := c, sd := s } F)) s5 s6 s7) cs = .ok (.nx (tE s1 (.val (bkD p F)) s3 (.val (bkD { p with ct := c, sd := s } F)) s5 s6 s7)) cs := by
  have e1 := r_prs (k := k + 3) (cs := cs) (p := p) (F := F) hAl hPairs hp
  have e2 := r_prs (k := k + 3) (cs := cs) (p := { p with ct := c, sd := s }) (F := F) hAl hPairs (wcs hp hc hs)
  have e3 : prs { p with ct := c, sd := s } F = prs p F := rfl
  rw [e3] at e2
  have en : eqD T (run T (k + 7)) (.lst ((prs p F).map pD)) (.lst ((prs p F).map pD)) cs = .ok true cs := by
    rw [eq_prs, decide_eq_true rfl]
  unfold t6
  simp only [sm, thenF_nx, thenF_ret, thenF_brk, thenF_cnt, den, ofVT, ofVB, noDen, baseA, cmpD, bltD, bind_ok, ofRes_some, getV_0, getV_s, getB_0, getB_s, truth_bl, truth_int, cmp_lt, cmp_le, cmp_gt, cmp_ge, List.getElem?_cons_zero, List.getElem?_cons_succ, List.set_cons_zero, List.set_cons_succ, if_true, if_false, reduceIte, decide_true, decide_false, end_ret, end_nx, List.length_cons, List.length_nil, Nat.zero_add, Nat.reduceAdd, Nat.reduceLT, Nat.reduceLeDiff, Nat.zero_le, and_self, Bool.not_true, Bool.not_false, Bool.false_eq_true, items_lst, items_tup, deref_lst, deref_tup, deref_str, deref_int, getA_0, getA_s, e1, e2, en]
abbrev nS (p : Pb) (F : FT) : Nat := (bsum p F).length
theorem okm (hp : PbOk p) : okMul (nS p F) (nS p F) = true := by
  have : nS p F ≤ 60 := bsum_len (F := F) hp
  exact okMul_iff.mpr (.inl (by constructor <;> omega))
theorem t7_run (hp : PbOk p) : sm T (run T (k + 7)) t7 (tE s1 (.val (bkD p F)) s3 s4 s5 s6 s7) cs = .ok (.nx (tE s1 (.val (bkD p F)) s3 s4 (.val (nD (nS p F * nS p F))) s6 s7)) cs := by
  obtain ⟨c, b1, b8⟩ := clsB hMade.toHasBook
  have e2 := r_sums (k := k + 6) (cs := cs) (room := p.room) (low := p.low) (bound := p.bound) (lk := p.lk) (ct := p.ct) (sd := p.sd) (l0 := p.l0) (L := p.L) (F := F) hMade.toHasBook
  have hc : clsOf (bkD p F) cs = some 1 := rfl
  have hl : ∀ O cs, bLen T O [.tup ((bsum p F).map nD)] cs = .ok (nD (nS p F)) cs := fun O cs => by
    rw [len_t, List.length_map]
  have hm := okm (F := F) hp
  unfold t7
  simp only [sm, thenF_nx, thenF_ret, thenF_brk, thenF_cnt, den, ofVT, ofVB, noDen, baseA, cmpD, bltD, bind_ok, ofRes_some, getV_0, getV_s, getB_0, getB_s, truth_bl, truth_int, cmp_lt, cmp_le, cmp_gt, cmp_ge, List.getElem?_cons_zero, List.getElem?_cons_succ, List.set_cons_zero, List.set_cons_succ, if_true, if_false, reduceIte, decide_true, decide_false, end_ret, end_nx, List.length_cons, List.length_nil, Nat.zero_add, Nat.reduceAdd, Nat.reduceLT, Nat.reduceLeDiff, Nat.zero_le, and_self, Bool.not_true, Bool.not_false, Bool.false_eq_true, items_lst, items_tup, deref_lst, deref_tup, deref_str, deref_int, getA_0, getA_s, hc, b1, b8, Option.bind_some, e2, hl, bin_mul T _ hm]
  rw [← Int.natCast_mul]
theorem eqn (O : Orc) (m n : Nat) (cs : Cells) : eqD T O (nD m) (nD n) cs = .ok (decide (m = n)) cs := by
  rw [Pk.eq_int]
  congr 1
  rw [decide_eq_decide]
  omega
theorem len_pr (O : Orc) (zs : List (Nat × Nat)) (cs : Cells) : bLen T O [.lst (zs.map pD)] cs = .ok (nD zs.length) cs := by
  rw [len_l, List.length_map]
theorem t8_run (hp : PbOk p) (hF : LenOk p.l0 p.L F) : sm T (run T (k + 7)) t8 (tE (.val (plD p)) (.val (bkD p F)) s3 s4 (.val (nD (nS p F * nS p F))) s6 s7) cs = .ok (.nx (tE (.val (plD p)) (.val (bkD p F)) s3 s4 (.val (nD (nS p F * nS p F))) s6 s7)) cs := by
  have h1 := (hF.bd p.l0 List.mem_cons_self).1
  have w1 := wlow hp (n := 0) (by omega)
  have w2 := wbound hp (n := min p.room (2 * p.l0 - 1)) (Nat.min_le_left _ _)
  have e1 : run T (k + 7) true 46 [bkD p F, .dic (kwD ["low"] [.int 0])] cs = _ := r_but_low (k := k + 1) (cs := cs) (n := 0) hAl w1 hF
  have e2 := r_prs (k := k + 3) (cs := cs) (F := F) hAl hPairs w1
  have e3 := r_but_bound (k := k + 1) (cs := cs) hAl w2 hF
  have e4 := r_prs (k := k + 3) (cs := cs) (F := F) hAl hPairs w2
  have l1 := full_low (p := p) (F := F)
  have l2 := full_bound (p := p) (F := F) hF (n := min p.room (2 * p.l0 - 1)) (by omega)
  have q1 : eqD T (run T (k + 7)) (nD (prs { p with low := 0 } F).length) (nD (nS p F * nS p F)) cs = .ok true cs := by
    rw [eqn, l1, decide_eq_true rfl]
  have q2 : eqD T (run T (k + 7)) (nD (prs { p with bound := min p.room (2 * p.l0 - 1) } F).length) (nD (nS p F * nS p F)) cs = .ok true cs := by
    rw [eqn, l2, decide_eq_true rfl]
  have v0 : ∀ O cs, subD T O (plD p) (.int 0) cs = .ok (nD p.room) cs := fun _ _ => rfl
  have v1 : ∀ O cs, subD T O (plD p) (.int 1) cs = .ok (.tup ((p.l0 :: p.L).map nD)) cs := fun _ _ => rfl
  have v2 : ∀ O cs, subD T O (.tup ((p.l0 :: p.L).map nD)) (.int 0) cs = .ok (nD p.l0) cs := fun O cs => by
    show ofRes cs (atI _ ((0 : Nat) : Int)) = _
    rw [at_nat (x := nD p.l0) rfl]
    rfl
  have hu : ∀ y : Int, okMul 2 y = true := fun y => rfl
  have hmin : ∀ cs, bTwo (fun i j => if j < i then j else i) [nD p.room, .int (2 * (p.l0 : Int) - 1)] cs = .ok (nD (min p.room (2 * p.l0 - 1))) cs := fun cs => by
    rw [← minN]
    show bTwo _ [nD p.room, .int (2 * (p.l0 : Int) - 1)] cs = bTwo _ [nD p.room, .int ((2 * p.l0 - 1 : Nat) : Int)] cs
    rw [show ((2 * p.l0 - 1 : Nat) : Int) = 2 * (p.l0 : Int) - 1 from by omega]
  have vi : ∀ n cs, bInt [nD n] cs = .ok (nD n) cs := fun _ _ => rfl
  unfold t8
  simp only [sm, thenF_nx, thenF_ret, thenF_brk, thenF_cnt, den, ofVT, ofVB, noDen, baseA, cmpD, bltD, bind_ok, ofRes_some, getV_0, getV_s, getB_0, getB_s, truth_bl, truth_int, cmp_lt, cmp_le, cmp_gt, cmp_ge, List.getElem?_cons_zero, List.getElem?_cons_succ, List.set_cons_zero, List.set_cons_succ, if_true, if_false, reduceIte, decide_true, decide_false, end_ret, end_nx, List.length_cons, List.length_nil, Nat.zero_add, Nat.reduceAdd, Nat.reduceLT, Nat.reduceLeDiff, Nat.zero_le, and_self, Bool.not_true, Bool.not_false, Bool.false_eq_true, items_lst, items_tup, deref_lst, deref_tup, deref_str, deref_int, getA_0, getA_s, mF28, ne_eq, reduceCtorEq, not_false_eq_true, e1, e2, len_pr, q1, v0, v1, v2, vi, bin_mul T _ (hu _), bin_sub, hmin, e3, e4, q2]
theorem t9_run (hp : PbOk p) (hF : LenOk p.l0 p.L F) : sm T (run T (k + 7)) t9 (tE (.val (plD p)) (.val (bkD p F)) s3 s4 s5 s6 s7) cs = .ok (.nx (tE (.val (plD p)) (.val (bkD p F)) s3 s4 s5 (.val (bkD { p with low := p.room + 1 } F)) s7)) cs := by
  have e1 : run T (k + 7) true 46 [bkD p F, .dic (kwD ["low"] [.int ((p.room : Int) + 1)])] cs = _ := r_but_low (k := k + 1) (cs := cs) (n := p.room + 1) hAl (wlow hp (by omega)) hF
  have v0 : ∀ O cs, subD T O (plD p) (.int 0) cs = .ok (nD p.room) cs := fun _ _ => rfl
  unfold t9
  simp only [sm, thenF_nx, thenF_ret, thenF_brk, thenF_cnt, den, ofVT, ofVB, noDen, baseA, cmpD, bltD, bind_ok, ofRes_some, getV_0, getV_s, getB_0, getB_s, truth_bl, truth_int, cmp_lt, cmp_le, cmp_gt, cmp_ge, List.getElem?_cons_zero, List.getElem?_cons_succ, List.set_cons_zero, List.set_cons_succ, if_true, if_false, reduceIte, decide_true, decide_false, end_ret, end_nx, List.length_cons, List.length_nil, Nat.zero_add, Nat.reduceAdd, Nat.reduceLT, Nat.reduceLeDiff, Nat.zero_le, and_self, Bool.not_true, Bool.not_false, Bool.false_eq_true, items_lst, items_tup, deref_lst, deref_tup, deref_str, deref_int, getA_0, getA_s, mF28, ne_eq, reduceCtorEq, not_false_eq_true, v0, bin_add, e1]
theorem t10_run (hp : PbOk p) (hF : LenOk p.l0 p.L F) : sm T (run T (k + 7)) t10 (tE (.val (plD p)) s2 s3 s4 s5 (.val (bkD { p with low := p.room + 1 } F)) s7) cs = .ok (.nx (tE (.val (plD p)) s2 s3 s4 s5 (.val (bkD { p with low := p.room + 1 } F)) s7)) cs := by
  have w := wlow hp (n := p.room + 1) (by omega)
  have e1 := r_prs (k := k + 3) (cs := cs) (F := F) hAl hPairs w
  have hz : ((prs { p with low := p.room + 1 } F).map pD).length ≤ sizeLine := by
    rw [List.length_map]
    exact Nat.le_trans (prs_len w) (by decide)
  have s0 : ∀ z cs, subD T (run T (k + 7)) (pD z) (.int 0) cs = .ok (nD z.1) cs := fun _ _ => rfl
  have s1 : ∀ z cs, subD T (run T (k + 7)) (pD z) (.int 1) cs = .ok (nD z.2) cs := fun _ _ => rfl
  have s3 : ∀ cs, subD T (run T (k + 7)) (plD p) (.int 3) cs = .ok (nD p.bound) cs := fun _ => rfl
  have z0 : 0 ≤ sizeLine := Nat.zero_le _
  have en : eqD T (run T (k + 7)) (.lst []) (.lst []) cs = .ok true cs := eq_prs [] [] cs
  unfold t10
  simp only [sm, thenF_nx, thenF_ret, thenF_brk, thenF_cnt, den, ofVT, ofVB, noDen, baseA, cmpD, bltD, bind_ok, ofRes_some, getV_0, getV_s, getB_0, getB_s, truth_bl, truth_int, cmp_lt, cmp_le, cmp_gt, cmp_ge, List.getElem?_cons_zero, List.getElem?_cons_succ, List.set_cons_zero, List.set_cons_succ, if_true, if_false, reduceIte, decide_true, decide_false, end_ret, end_nx, List.length_cons, List.length_nil, Nat.zero_add, Nat.reduceAdd, Nat.reduceLT, Nat.reduceLeDiff, Nat.zero_le, and_self, Bool.not_true, Bool.not_false, Bool.false_eq_true, items_lst, items_tup, deref_lst, deref_tup, deref_str, deref_int, getA_0, getA_s, e1, itemsI_lst]
  simp only [Dv.bind_assoc]
  refine comp_filt (fun _ => false) (fun d hd => ?_) hz ?_
  · obtain ⟨z, hz, rfl⟩ := List.mem_map.mp hd
    have hn := low_none hF hz
    have hn : ¬ ((z.1 : Int) + (z.2 : Int) ≤ (p.bound : Int)) := by omega
    simp only [sm, thenF_nx, thenF_ret, thenF_brk, thenF_cnt, den, ofVT, ofVB, noDen, baseA, cmpD, bltD, bind_ok, ofRes_some, getV_0, getV_s, getB_0, getB_s, truth_bl, truth_int, cmp_lt, cmp_le, cmp_gt, cmp_ge, List.getElem?_cons_zero, List.getElem?_cons_succ, List.set_cons_zero, List.set_cons_succ, if_true, if_false, reduceIte, decide_true, decide_false, end_ret, end_nx, List.length_cons, List.length_nil, Nat.zero_add, Nat.reduceAdd, Nat.reduceLT, Nat.reduceLeDiff, Nat.zero_le, and_self, Bool.not_true, Bool.not_false, Bool.false_eq_true, items_lst, items_tup, deref_lst, deref_tup, deref_str, deref_int, getA_0, getA_s, turnD, setTg, setAll, wipeE, s0, s1, s3, bin_add, hn]
  · rw [List.filter_eq_nil_iff.mpr (fun _ _ => Bool.false_ne_true)]
    simp only [sm, thenF_nx, thenF_ret, thenF_brk, thenF_cnt, den, ofVT, ofVB, noDen, baseA, cmpD, bltD, bind_ok, ofRes_some, getV_0, getV_s, getB_0, getB_s, truth_bl, truth_int, cmp_lt, cmp_le, cmp_gt, cmp_ge, List.getElem?_cons_zero, List.getElem?_cons_succ, List.set_cons_zero, List.set_cons_succ, if_true, if_false, reduceIte, decide_true, decide_false, end_ret, end_nx, List.length_cons, List.length_nil, Nat.zero_add, Nat.reduceAdd, Nat.reduceLT, Nat.reduceLeDiff, Nat.zero_le, and_self, Bool.not_true, Bool.not_false, Bool.false_eq_true, items_lst, items_tup, deref_lst, deref_tup, deref_str, deref_int, getA_0, getA_s, ofV, z0, en]
end K15
end
section
set_option Elab.async false
set_option linter.all false
set_option maxRecDepth 100000
set_option maxHeartbeats 400000
namespace K15
open PySem PySem.Spec PyProof.Rows L2 Dv Pk
variable {k : Nat} {cs : Cells} {tl : Cells} {b x y : Nat} {p q p' : Pb} {F G : FT} {s1 s2 s3 s4 s5 s6 s7 s8 s9 : Slot}
theorem bin_and (p q : Pb) (cs : Cells) : binD T (run T k) .band (bkD p F) (bkD q F) cs = run T k false 43 [bkD p F, bkD q F] cs := rfl
theorem t11_run (hp : PbOk p) (hx : x ≤ p.low) (hy : y ≤ p.bound) (hF : LenOk p.l0 p.L F) : sm T (run T (k + 7)) t11 (tE s1 s2 (.val (less p F x y)) s4 s5 s6 s7) cs = .ok (.nx (tE s1 s2 (.val (less p F x y)) s4 s5 s6 (.val (bkD (andP { p with low := x } { p with bound := y }) F)))) cs := by
  have hlo := hp.lo
  have hbo := hp.bo
  have e1 := r_and (k := k + 1) (cs := cs) (p := { p with low := x }) (q := { p with bound := y }) (F := F) (G := F) hAl (wlow hp (by omega)) (wbound hp (by omega)) rfl rfl hF
  have v0 : ∀ O cs, subD T O (less p F x y) (.int 0) cs = .ok (bkD { p with low := x } F) cs := fun _ _ => rfl
  have v1 : ∀ O cs, subD T O (less p F x y) (.int 1) cs = .ok (bkD { p with bound := y } F) cs := fun _ _ => rfl
  unfold t11
  simp only [sm, thenF_nx, thenF_ret, thenF_brk, thenF_cnt, den, ofVT, ofVB, noDen, baseA, cmpD, bltD, bind_ok, ofRes_some, getV_0, getV_s, getB_0, getB_s, truth_bl, truth_int, cmp_lt, cmp_le, cmp_gt, cmp_ge, List.getElem?_cons_zero, List.getElem?_cons_succ, List.set_cons_zero, List.set_cons_succ, if_true, if_false, reduceIte, decide_true, decide_false, end_ret, end_nx, List.length_cons, List.length_nil, Nat.zero_add, Nat.reduceAdd, Nat.reduceLT, Nat.reduceLeDiff, Nat.zero_le, and_self, Bool.not_true, Bool.not_false, Bool.false_eq_true, items_lst, items_tup, deref_lst, deref_tup, deref_str, deref_int, getA_0, getA_s, v0, v1, bin_and, e1]
theorem t12_run (hp : PbOk p) (hx : x ≤ p.low) (hy : y ≤ p.bound) (hF : LenOk p.l0 p.L F) : sm T (run T (k + 7)) t12 (tE s1 (.val (bkD p F)) (.val (less p F x y)) s4 s5 (.val (bkD { p with low := p.room + 1 } F)) (.val (bkD (andP { p with low := x } { p with bound := y }) F))) cs = .ok (.ret (.bl true)) cs := by
  have hlo := hp.lo
  have hbo := hp.bo
  have w1 := wlow hp (n := x) (by omega)
  have w2 := wbound hp (n := y) (by omega)
  have w3 := wlooks hp (n := "own") (by simp [lks])
  have w4 := wlow hp (n := p.room + 1) (by omega)
  have wa := andP_ok w1 w2
  have wb := andP_ok w3 wa
  have own : ∀ {c : Pb} {d : Pb}, c.lk = "own" ∨ d.lk = "own" → (andP c d).lk = "own" := fun h => if_pos h
  have e1 := r_wi (k := k + 2) (cs := cs) (p := { p with low := x }) (q := andP { p with low := x } { p with bound := y }) (F := F) hAl hPairs hWi w1 wa ⟨rfl, rfl, rfl⟩
  rw [wi_mono (p := { p with low := x }) (q := andP { p with low := x } { p with bound := y }) (Nat.min_le_left _ _) (Nat.min_le_left _ _) (fun h => own (.inl h))] at e1
  have e2 := r_wi (k := k + 2) (cs := cs) (p := { p with bound := y }) (q := andP { p with low := x } { p with bound := y }) (F := F) hAl hPairs hWi w2 wa ⟨rfl, rfl, rfl⟩
  rw [wi_mono (p := { p with bound := y }) (q := andP { p with low := x } { p with bound := y }) (Nat.min_le_right _ _) (Nat.min_le_right _ _) (fun h => own (.inl h))] at e2
  have e3 := r_wi (k := k + 2) (cs := cs) (p := { p with low := p.room + 1 }) (q := p) (F := F) hAl hPairs hWi w4 hp ⟨rfl, rfl, rfl⟩
  rw [wi_mono (p := { p with low := p.room + 1 }) (q := p) hp.lo (Nat.le_refl _) id] at e3
  have e4 := r_and (k := k + 1) (cs := cs) (p := { p with lk := "own" }) (q := andP { p with low := x } { p with bound := y }) (F := F) (G := F) hAl w3 wa rfl rfl hF
  have e5 := r_wi (k := k + 2) (cs := cs) (p := p) (q := andP { p with lk := "own" } (andP { p with low := x } { p with bound := y })) (F := F) hAl hPairs hWi hp wb ⟨rfl, rfl, rfl⟩
  rw [wi_mono (p := p) (q := andP { p with lk := "own" } (andP { p with low := x } { p with bound := y })) (Nat.min_le_left _ _) (Nat.min_le_left _ _) (fun _ => own (.inl rfl))] at e5
  have v0 : ∀ O cs, subD T O (less p F x y) (.int 0) cs = .ok (bkD { p with low := x } F) cs := fun _ _ => rfl
  have v1 : ∀ O cs, subD T O (less p F x y) (.int 1) cs = .ok (bkD { p with bound := y } F) cs := fun _ _ => rfl
  have v2 : ∀ O cs, subD T O (less p F x y) (.int 2) cs = .ok (bkD { p with lk := "own" } F) cs := fun _ _ => rfl
  unfold t12
  simp only [sm, thenF_nx, thenF_ret, thenF_brk, thenF_cnt, den, ofVT, ofVB, noDen, baseA, cmpD, bltD, bind_ok, ofRes_some, getV_0, getV_s, getB_0, getB_s, truth_bl, truth_int, cmp_lt, cmp_le, cmp_gt, cmp_ge, List.getElem?_cons_zero, List.getElem?_cons_succ, List.set_cons_zero, List.set_cons_succ, if_true, if_false, reduceIte, decide_true, decide_false, end_ret, end_nx, List.length_cons, List.length_nil, Nat.zero_add, Nat.reduceAdd, Nat.reduceLT, Nat.reduceLeDiff, Nat.zero_le, and_self, Bool.not_true, Bool.not_false, Bool.false_eq_true, items_lst, items_tup, deref_lst, deref_tup, deref_str, deref_int, getA_0, getA_s, v0, v1, v2, bin_and, e1, e2, e3, e4, e5]
theorem r_turn (h : Pn tl b cs) (hb : b < 600000) : Wp (run T (k + 8) false 71 [.cell 0] cs) fun d cs' => d = .bl true ∧ Pn tl (b + 34) cs' := by
  rw [run_of (ρ := [.val (.cell 0), .emp, .emp, .emp, .emp, .emp, .emp, .emp, .emp, .emp]) (show T.fns[71]? = some f_law_turn_right from rfl) rfl rfl, t_body, sm_seq]
  simp only [Dv.bind_assoc]
  refine wp_at (t1_wp (k := k + 4) h (by omega)) ?_
  rintro _ cs1 ⟨⟨p, hp, hr, rfl⟩, hp1⟩
  obtain ⟨F, e2, hF⟩ := t2_run (k := k) (cs := cs1) (s2 := .emp) (s3 := .emp) (s4 := .emp) (s5 := .emp) (s6 := .emp) (s7 := .emp) hp
  rw [thenF_nx, sm_seq, e2, bind_ok, thenF_nx, sm_seq]
  simp only [Dv.bind_assoc]
  refine wp_at (t3_wp (k := k) hp hr hF hp1 (by omega)) ?_
  rintro _ cs2 ⟨⟨x, y, hx, hy, rfl⟩, hp2⟩
  rw [thenF_nx, sm_seq, t4_run hp hx hy, bind_ok, thenF_nx, sm_seq]
  simp only [Dv.bind_assoc]
  refine wp_at (t5_wp (k := k) hp hF hp2 (by omega)) ?_
  rintro _ cs3 ⟨⟨c, s, hc, hs, rfl⟩, hp3⟩
  rw [thenF_nx, sm_seq, t6_run hp hc hs, bind_ok, thenF_nx, sm_seq, t7_run hp, bind_ok, thenF_nx, sm_seq, t8_run hp hF, bind_ok, thenF_nx, sm_seq, t9_run hp hF, bind_ok, thenF_nx, sm_seq, t10_run hp hF, bind_ok, thenF_nx, sm_seq, t11_run hp hx hy hF, bind_ok, thenF_nx, sm_seq, t12_run hp hx hy hF]
  exact (wp_ok _ _ _).mpr ⟨rfl, hp3⟩
def w1 : Sm := (.set 1 (.call 64 (.cons (.var 0) .nil)))
def w2 : Sm := (.for_ [2] true (.rng (.int 5)) (laIn 71))
def w3 : Sm := (.set 3 (.newk 1 (.cons (.int 8) (.cons (.new 0 (.cons (.int 1) (.cons (.int 2) (.cons (.int 3) (.cons (.int 4) .nil))))) (.cons (.int 4) (.cons (.int 8) .nil)))) .nil [0, 1, 2, 3, 4, 5, 6]))
def w4 : Sm := (.ret (.and (.cmp .eq (.blt .len (.cons (.call 69 (.cons (.var 3) .nil)) .nil)) (.int 55)) (.and (.cmp .eq (.blt .len (.cons (.call 69 (.cons (.methw 28 (.var 3) ["looks"] (.cons (.str "near") .nil)) .nil)) .nil)) (.int 37)) (.call 70 (.cons (.methw 28 (.var 3) ["looks"] (.cons (.str "near") .nil)) (.cons (.var 3) .nil))))))
theorem w_body : f_law.body = .seq w1 (.seq w2 (.seq w3 (.seq w4 .skip))) := rfl
def pO : Pb := ⟨8, 1, [2, 3, 4], 4, 8, "own", "even", "left"⟩
theorem okO : PbOk pO := ⟨by decide, by decide, by decide, by decide, by decide, by decide, by decide, by decide, by decide, by decide⟩
theorem cls0 : T.cls[0]? = some ⟨some 20, false, [(4, 22), (7, 23), (10, 24), (11, 25), (12, 26), (14, 28), (15, 29), (17, 33), (0, 34), (3, 35), (5, 36)], [], [0], [0, 1, 2, 3], [(18, 21)], [], some 0⟩ := rfl
theorem new_len (ns : List Int) {l0 : Nat} {L : List Nat} (hp : (l0 :: L).Pairwise (· < ·)) (hb : ∀ n ∈ l0 :: L, 1 ≤ n ∧ n ≤ 60) (hl : (l0 :: L).length ≤ 6) (hm : ∀ x : Int, x ∈ ns ↔ x ∈ (l0 :: L).map fun (n : Nat) => (n : Int)) (hz : ns.length < 100) : ∃ F, run T (k + 4) true 20 (ns.map .int) cs = .ok (lenD l0 L F) cs ∧ LenOk l0 L F := by
  refine r_lengths hMade.toHasLen ns (fun n hn => ?_) l0 L (asc_uniq (asc_lt ns) ?_ fun x => (asc_mem ns x).trans (hm x)) hl (Nat.lt_trans hz (by decide))
  · obtain ⟨m, hm2, rfl⟩ := List.mem_map.mp ((hm n).mp hn)
    have := hb m hm2
    omega
  · rw [List.pairwise_map]
    exact hp.imp fun h => by omega
theorem lenO : ∃ F, run T (k + 4) true 20 [.int 1, .int 2, .int 3, .int 4] cs = .ok (lenD 1 [2, 3, 4] F) cs ∧ LenOk 1 [2, 3, 4] F :=
  new_len [1, 2, 3, 4] okO.asc okO.bd okO.few (fun x => by simp) (by decide)
abbrev wE (a s2 s3 : Slot) : Dv.Env := [a, .val (.cell 0), s2, s3]
variable {a : Slot}
theorem cls1 : ∃ c, T.cls[1]? = some c ∧ c.init = some 37 := ⟨_, rfl, rfl⟩
theorem dfl37 : dflT T 37 = [.str "own", .str "even", .str "left"] := rfl
theorem pm (a b c d e f g : Dv.D) : permD [0, 1, 2, 3, 4, 5, 6] [a, b, c, d, e, f, g] = some [a, b, c, d, e, f, g] := rfl
theorem w3_run : ∃ F, sm T (run T (k + 7)) w3 (wE a s2 s3) cs = .ok (.nx (wE a s2 (.val (bkD pO F)))) cs ∧ LenOk 1 [2, 3, 4] F := by
  obtain ⟨F, e1, hF⟩ := lenO (k := k + 3) (cs := cs)
  obtain ⟨c, c1, c2⟩ := cls1
  have e2 := r_bk (k := k + 2) (cs := cs) (p := pO) (F := F) hMade.toHasBook okO hF
  have e2 : run T (k + 7) true 37 [.int 8, lenD 1 [2, 3, 4] F, .int 4, .int 8, .str "own", .str "even", .str "left"] cs = .ok (bkD pO F) cs := e2
  refine ⟨F, ?_, hF⟩
  unfold w3
  simp only [sm, thenF_nx, thenF_ret, thenF_brk, thenF_cnt, den, ofVT, ofVB, noDen, baseA, cmpD, bltD, bind_ok, ofRes_some, getV_0, getV_s, getB_0, getB_s, truth_bl, truth_int, cmp_lt, cmp_le, cmp_gt, cmp_ge, List.getElem?_cons_zero, List.getElem?_cons_succ, List.set_cons_zero, List.set_cons_succ, if_true, if_false, reduceIte, decide_true, decide_false, end_ret, end_nx, List.length_cons, List.length_nil, Nat.zero_add, Nat.reduceAdd, Nat.reduceLT, Nat.reduceLeDiff, Nat.zero_le, and_self, Bool.not_true, Bool.not_false, Bool.false_eq_true, items_lst, items_tup, deref_lst, deref_tup, deref_str, deref_int, getA_0, getA_s, cls0, c1, c2, e1, dfl37, List.nil_append, List.cons_append, pm, e2]
theorem sumO (hF : LenOk 1 [2, 3, 4] F) : bsum pO F = List.range' 1 8 := tot_one hF 8
theorem prsG (p : Pb) (S : List Nat) (h : bsum p F = S) : prs p F = S.flatMap fun x => (S.filter (alB p x)).map fun y => (x, y) := by
  unfold prs rowA
  rw [h]
theorem n55 (hF : LenOk 1 [2, 3, 4] F) : (prs pO F).length = 55 := by
  rw [prsG pO _ (sumO hF)]
  decide +kernel
theorem n37 (hF : LenOk 1 [2, 3, 4] F) : (prs { pO with lk := "near" } F).length = 37 := by
  rw [prsG { pO with lk := "near" } _ (sumO hF)]
  decide +kernel
theorem w4_run (hF : LenOk 1 [2, 3, 4] F) : sm T (run T (k + 7)) w4 (wE a s2 (.val (bkD pO F))) cs = .ok (.ret (.bl true)) cs := by
  have w := wlooks okO (n := "near") (by simp [lks])
  have e1 := r_prs (k := k + 3) (cs := cs) (F := F) hAl hPairs okO
  have e2 := r_but_looks (k := k + 1) (cs := cs) (n := "near") hAl w hF
  have e3 := r_prs (k := k + 3) (cs := cs) (F := F) hAl hPairs w
  have e4 := r_wi (k := k + 2) (cs := cs) (p := { pO with lk := "near" }) (q := pO) (F := F) hAl hPairs hWi w okO ⟨rfl, rfl, rfl⟩
  rw [wi_mono (p := { pO with lk := "near" }) (q := pO) (Nat.le_refl _) (Nat.le_refl _) fun _ => rfl] at e4
  have q1 : eqD T (run T (k + 7)) (nD (prs pO F).length) (.int 55) cs = .ok true cs := by
    rw [n55 hF]
    exact (eqn _ 55 55 cs).trans rfl
  have q2 : eqD T (run T (k + 7)) (nD (prs { pO with lk := "near" } F).length) (.int 37) cs = .ok true cs := by
    rw [n37 hF]
    exact (eqn _ 37 37 cs).trans rfl
  unfold w4
  simp only [sm, thenF_nx, thenF_ret, thenF_brk, thenF_cnt, den, ofVT, ofVB, noDen, baseA, cmpD, bltD, bind_ok, ofRes_some, getV_0, getV_s, getB_0, getB_s, truth_bl, truth_int, cmp_lt, cmp_le, cmp_gt, cmp_ge, List.getElem?_cons_zero, List.getElem?_cons_succ, List.set_cons_zero, List.set_cons_succ, if_true, if_false, reduceIte, decide_true, decide_false, end_ret, end_nx, List.length_cons, List.length_nil, Nat.zero_add, Nat.reduceAdd, Nat.reduceLT, Nat.reduceLeDiff, Nat.zero_le, and_self, Bool.not_true, Bool.not_false, Bool.false_eq_true, items_lst, items_tup, deref_lst, deref_tup, deref_str, deref_int, getA_0, getA_s, e1, len_pr, q1, mF28, ne_eq, reduceCtorEq, not_false_eq_true, e2, e3, q2, e4]
theorem plain (ns : List Int) (h : ns.length ≤ 63) : ∃ cs, Dv.run T (14 + 1) false 72 [.scr (ns.map .int)] [] = .ok (.bl true) cs := by
  obtain ⟨cs1, e, hp⟩ := r_pen (T := T) (k := 13) hPen ns h
  have W : Wp (Dv.run T (14 + 1) false 72 [.scr (ns.map .int)] []) fun d _ => d = .bl true := by
    rw [run_of (ρ := [.val (.scr (ns.map .int)), .emp, .emp, .emp]) (show T.fns[72]? = some f_law from rfl) rfl rfl, w_body]
    have r10 : rngD (.int 5) cs1 = _ := rngD_nat 5 (by decide) cs1
    unfold w1 w2
    simp only [sm, thenF_nx, thenF_ret, thenF_brk, thenF_cnt, den, ofVT, ofVB, noDen, baseA, cmpD, bltD, bind_ok, ofRes_some, getV_0, getV_s, getB_0, getB_s, truth_bl, truth_int, cmp_lt, cmp_le, cmp_gt, cmp_ge, List.getElem?_cons_zero, List.getElem?_cons_succ, List.set_cons_zero, List.set_cons_succ, if_true, if_false, reduceIte, decide_true, decide_false, end_ret, end_nx, List.length_cons, List.length_nil, Nat.zero_add, Nat.reduceAdd, Nat.reduceLT, Nat.reduceLeDiff, Nat.zero_le, and_self, Bool.not_true, Bool.not_false, Bool.false_eq_true, items_lst, items_tup, deref_lst, deref_tup, deref_str, deref_int, getA_0, getA_s, e, r10]
    simp only [Dv.bind_assoc]
    refine la_loop (k := 14) (t := 71) (c := 34) (n := 5) (fun b cs hb hp => r_turn (k := 6) hp (by omega)) hp fun s2 cs2 hp2 => ?_
    obtain ⟨F, e3, hF⟩ := w3_run (k := 7) (cs := cs2) (a := .val (.scr (ns.map .int))) (s2 := s2) (s3 := .emp)
    rw [thenF_nx, e3, bind_ok, thenF_nx, w4_run (k := 7) hF]
    exact (wp_ok _ _ _).mpr rfl
  obtain ⟨d, cs2, e2, rfl⟩ := W
  exact ⟨cs2, e2⟩
end K15
end
theorem PySem.Challenge.cw_pagefloor_k15_whole_books_in_order_of_wh_holds : PySem.Challenge.rw_pagefloor_k15_whole_books_in_order_of_wh.Holds :=
  K15.fin K15.plain
