import PyProof.Rows.All
import Wide.All
import OpenK.AllK
import Wide.FinOn
import KE.KOpsOwn
import HandS.Style
import HandS.TupAny
import KE.GoesMore
import KE.GoesEnum
import HandS.Iter
import PyProof.AutoSeq1
import HandS.List
import HandS.ForMost
import HandS.Wide
import PyProof.InstEq
import HandS.Flow
import HandS.TupMul
import HandS.Star
import HandS.Property
import HandS.CallRecv
import HandS.SortInts
import HandS.Text
import HandS.IsInst
import HandS.FStr
import HandS.Codes
import HandS.Defaults
import HandS.HeadHook4
import HandS.Head2
import HandS.HeadEnd
import PySem.Challenge.RW_pagefloor_k19_whole_chains_put_together
section
set_option Elab.async false
set_option linter.all false
set_option maxRecDepth 100000
set_option maxHeartbeats 4000000
namespace PySem.W
open PySem PySem.Calls PyProof.Rows
variable {K : Frag} {M : Model} {h : Heap} {C : Addr} {nm : String} {f x L : Addr} {h₀ : Heap} {m : Str → Option Value} {ox : Obj} {od : Option Obj} {E : Value → Shared → Prop} {s : Shared} {A : Around} {prog : Program} {w : World}
/-- no __iadd__ and its like -/
def noIn (K : Frag) (C : Addr) (nm : String) : Bool := (clsIn K C).any fun cd => cd.mro.all fun c => findIn K c (dunderI nm) == some none
theorem looks_anyM_false {add : Bool} (X : K.In h) : ∀ (l : List Value), (∀ c ∈ l, findIn K c (dunderI nm) = some none) → Looks M h (l.anyM fun c => do
    let some x ← typeLookup c (dunderI nm) | return false
    if let .type _ := c then return !isSeqSlot (some x)
    if !ownNameWrapper x (dunderI nm) then return true
    if !(← inheritsSeqSlot c (dunderI nm)) then return true
    if add then return (← seqSlot? c (dunderI nm)).isSome
    return false) false
  | [], _ => .now
  | c :: l, hl => by
    intro A Q E s k q
    have X' : K.In s.heap := X.keeps k
    have L1 : Looks M s.heap (typeLookup c (dunderI nm)) none := looks_findIn X' (hl c (by simp))
    rw [List.anyM_cons]
    refine wpAny_bind ?_
    refine wpAny_bind (L1.here ?_)
    refine wpAny_pure ?_
    exact looks_anyM_false X l (fun d hd => hl d (List.mem_cons_of_mem _ hd)) A Q E s k q
theorem fills_not {add : Bool} (X : K.In h) (hn : noIn K C nm = true) : Looks M h (fillsInplaceSlot (.ref C) nm add) false := by
  obtain ⟨cd, hc, hm⟩ := any_some hn
  intro A Q E s k q
  have Lm : Looks M h (mroOf (.ref C)) cd.mro := (looks_clsIn X hc).andThen (f := fun cd => pure cd.mro) .now
  have hall : ∀ c ∈ cd.mro, findIn K c (dunderI nm) = some none := fun c hc => by
    have := List.all_eq_true.mp hm c hc
    exact beq_iff_eq.mp this
  unfold fillsInplaceSlot
  refine wpAny_bind (Lm.keeps k |>.here ?_)
  exact looks_anyM_false X cd.mro hall A Q E s k q
/-- x op= b, x's class without a method of that kind: as x op b -/
theorem inplace_own {op : Operator} {b : Value} {Q : Value → Shared → Prop} (F : Fr h₀ L s.heap m) (X₀ : K.In h₀) (I : InstAt s.heap x ox C od) (hb : Looks (model prog w) s.heap (typeOf b) (.ref C)) (hc : selfFirst K C = true) (hn : noIn K C op.info.2 = true)
    (hs : findIn K (.ref C) (PySem.dunder op.info.2) = some (some (.ref f))) (hf : isFn K (.ref f) = true)
    (h : wpAny (model prog w) A (call (.ref f) [.ref x, b]) (CmpBack Q) E s) : wpAny (model prog w) A (inplaceOp op (.ref x) b) Q E s := by
  have X := X₀.keeps F.keep
  obtain ⟨cd, rest, hcd, hm⟩ := ksp_first hc
  unfold inplaceOp
  refine wpAny_holding ?_
  refine wpAny_bind (I.type.here ?_)
  refine wpAny_bind ((fills_not X hn).here ?_)
  simp only [Bool.false_eq_true, if_false]
  refine wpAny_bind ?_
  unfold binaryOp1
  refine wpAny_bind (I.type.here (wpAny_bind (hb.here (wpAny_bind ((fills_K X hcd hm hs).here ?_)))))
  simp only [beq_self_eq_true, if_true]
  refine wpAny_bind (wpAny_pure ?_)
  simp only [Bool.and_false, Bool.false_eq_true, if_false, Bool.false_and]
  refine wpAny_bind (wpAny_pure ?_)
  simp only [Bool.false_eq_true, if_false]
  refine wpAny_bind (m := tryMethod (.ref x) _ b) ?_
  unfold tryMethod
  refine wpAny_bind (special_fn X I hs (beq_iff_eq.mp hf) (wpAny_mono h (fun v s' hv => ?_) fun _ _ e => e))
  cases v <;> first | exact hv.elim | exact wpAny_pure (wpAny_pure (wpAny_pure hv))
end PySem.W
end
section
set_option Elab.async false
set_option linter.all false
set_option maxRecDepth 100000
namespace HT
open PySem PySem.Spec PyProof.Rows
section
variable {prog : Program} {w : World} {A : Around} {E : Value → Shared → Prop} {s : Shared}
theorem sliceApplied_rev {sl : Addr} {u : Tok} {n : Nat} {Q : Int × Int × Nat → Shared → Prop} (hs : s.heap.IsSliceOf sl .none .none (.int (-1) u))
    (h : Q ((n : Int) - 1, -1, n) s) : wpAny (model prog w) A (Builtin.Slice.sliceApplied (.ref sl) (pure (n : Int))) Q E s := by
  obtain ⟨os, hos, hcs, hds⟩ := id hs
  unfold Builtin.Slice.sliceApplied Builtin.Slice.sliceFields
  refine wpAny_bind (wpAny_bind (wpAny_field hos hds (x := .none) rfl (wpAny_bind (wpAny_field hos hds (x := .none) rfl (wpAny_bind (wpAny_field hos hds (x := .int (-1) u) rfl (wpAny_pure ?_)))))))
  refine wpAny_bind (slicePart_int ?_)
  show wpAny _ _ (if ((-1 : Int) == 0) = true then _ else _) _ _ s
  rw [if_neg (by decide)]
  refine wpAny_bind (slicePart_none (wpAny_bind (slicePart_none (wpAny_bind (wpAny_pure ?_)))))
  show wpAny _ _ (pure ((n : Int) - 1, (-1 : Int), Builtin.Slice.slicePlaces ((n : Int) - 1) (-1) (-1))) _ _ s
  have e : Builtin.Slice.slicePlaces ((n : Int) - 1) (-1) (-1) = n := by
    unfold Builtin.Slice.slicePlaces
    have h1 : ¬ ((-1 : Int) > 0) := by decide
    simp only [h1, if_false]
    rw [show (- -1 : Int) = 1 by decide, Int.ediv_one]
    split <;> omega
  rw [e]
  exact wpAny_pure h
theorem pick_rev (items : Array Value) : (List.range items.size).filterMap (fun (k : Nat) => items[((items.size : Int) - 1 + (k : Int) * (-1)).toNat]?) = items.toList.reverse := by
  have e : (List.range items.size).filterMap (fun (k : Nat) => items[((items.size : Int) - 1 + (k : Int) * (-1)).toNat]?) = ((List.range items.size).map fun k => items.size - 1 - k).filterMap (items[·]?) := by
    rw [List.filterMap_map]
    have g : ∀ l : List Nat, (∀ k ∈ l, k < items.size) → l.filterMap (fun (k : Nat) => items[((items.size : Int) - 1 + (k : Int) * (-1)).toNat]?) = l.filterMap ((items[·]?) ∘ fun k => items.size - 1 - k) := by
      intro l
      induction l with
      | nil => intro _; rfl
      | cons k l ih =>
        intro h
        have hk := h k List.mem_cons_self
        have z : ((items.size : Int) - 1 + (k : Int) * (-1)).toNat = items.size - 1 - k := by omega
        rw [List.filterMap_cons, List.filterMap_cons, ih fun x hx => h x (List.mem_cons_of_mem _ hx), z]
        rfl
    exact g _ fun k hk => List.mem_range.mp hk
  rw [e, PySem.W.krv_range, List.filterMap_reverse, PySem.W.krv_all]
theorem getItem_tuple_rev {t sl : Addr} {items : Array Value} {u : Tok} {Q : Value → Shared → Prop} (ht : IsTup s.heap t items) (hs : s.heap.IsSliceOf sl .none .none (.int (-1) u))
    (h : Q (.ref s.heap.objs.size) { s with heap := s.heap.push { cls := .type "tuple", data := .seq items.toList.reverse.toArray } })
    (hsz : items.size ≤ sizeLine) : wpAny (model prog w) A (getItem (.ref t) (.ref sl)) Q E s := by
  have htake : sizeOk (.seq items.toList.reverse.toArray) := by
    show items.toList.reverse.toArray.size ≤ sizeLine
    rw [List.size_toArray, List.length_reverse, Array.length_toList]
    exact hsz
  obtain ⟨os, hos, hcs, hds⟩ := id hs
  have hTs : s.TypeIs (.ref sl) "slice" := ⟨os, hos, hcs⟩
  unfold getItem
  try with_reducible refine wpAny_holding ?_
  first | refine wpAny_bind (wpAny_pure ?_) | skip
  refine wpAny_bind (wpAny_sequenceKey ht.typeIs (by decide) ?_)
  refine wpAny_bind (wpAny_callSpecial?_slot (name := Str.ofString "__getitem__") ht.typeIs PyProof.Rows.slot_tuple_getitem
    (wpAny_call_entry PyProof.Rows.slot_tuple_getitem ht.typeIs entry_tuple_getitem ?_ (args_tuple_getitem _ _)))
  show wpAny _ _ (Builtin.Tuple.tupleItemsOf (.ref t) >>= _) _ _ s
  refine wpAny_bind (tupleItemsOf_ ht ?_)
  refine wpAny_bind (wpAny_typeOf hTs ?_)
  rw [if_pos (by decide)]
  refine wpAny_bind (sliceApplied_rev hs ?_)
  have hno : ¬ ((((items.size : Int) - 1) == 0 && (-1 : Int) == 1 && items.size == items.size) = true) := by simp
  show wpAny _ _ (if (((items.size : Int) - 1) == 0 && (-1 : Int) == 1 && items.size == items.size) = true then _ else _) _ _ s
  rw [if_neg hno, pick_rev]
  first
    | exact wpAny_bind (m := Builtin.Tuple.tupleExact _) (wpAny_newObj_type (wpAny_pure ⟨_, rfl, wpAny_pure h⟩) htake)
    | exact wpAny_bind (m := Builtin.Tuple.tupleExact _) (wpAny_newObj_type (wpAny_bind (wpAny_pure (wpAny_pure ⟨_, rfl, wpAny_pure h⟩))) htake)
    | exact wpAny_bind (wpAny_bind (m := Builtin.Tuple.tupleExact _) (wpAny_newObj_type (wpAny_pure (wpAny_pure ⟨_, rfl, wpAny_pure h⟩)) htake))
    | exact wpAny_bind (wpAny_bind (m := Builtin.Tuple.tupleExact _) (wpAny_newObj_type (wpAny_pure ⟨_, rfl, wpAny_pure h⟩) htake))
end
end HT
namespace L2
open PySem PySem.Spec PyProof.Rows
variable {X : Cx}
/-- x[::-1] of a list or a tuple -/
def tRevA (K : PySem.W.Frag) (te : TE) : TE := fun σ H Q => te σ H fun x H1 => ∃ a xs, x = .ref a ∧ ((SqL K H1 a xs ∧ ∀ p, H1 p = none → Q (.ref p) (upd H1 p (.lst xs.reverse))) ∨ (SqT K H1 a xs ∧ ∀ p, H1 p = none → Q (.ref p) (upd H1 p (.tup xs.reverse))))
theorem pe_revA {e : Expr} {te : TE} {k : Nat} {p1 p2 p3 pos : Pos} (he : PE X e te) : PE X (.Subscript e (.Slice none none (some (.UnaryOp .USub (.Constant (.int 1) k p1) p2)) p3) pos) (tRevA X.K te) := by
  refine ⟨fun pins s σ H Q I h => ?_⟩
  refine Subscript_ (thn (he.run pins s σ H _ I h) fun v s1 ⟨x, H1, I1, r1, q1⟩ => ?_)
  obtain ⟨a, xs, ex, q1⟩ := q1
  subst ex
  cases r1
  have hst : PO X (some (.UnaryOp .USub (.Constant (.int 1) k p1) p2)) (tPart (tUn (rU fun i => .int (-i)) (tC (.int 1)))) := po_some (pe_un un_neg pe_int)
  refine wpAny_Slice (thn (po_none.run pins s1 σ H1 (fun o H2 => o = none ∧ H2 = H1) I1 ⟨rfl, rfl⟩) fun vl s2 ⟨l, H2, I2, pl, el, e2⟩ => ?_)
  subst el e2
  refine thn (po_none.run pins s2 σ H2 (fun o H3 => o = none ∧ H3 = H2) I2 ⟨rfl, rfl⟩) fun vu s3 ⟨u, H3, I3, pu, eu, e3⟩ => ?_
  subst eu e3
  refine thn (hst.run pins s3 σ H3 (fun o H4 => o = some (-1) ∧ H4 = H3) I3 ⟨1, rfl, -1, rfl, rfl, rfl⟩) fun vs s4 ⟨o, H4, I4, ps, eo, e4⟩ => ?_
  subst eo e4
  have I5 : Inv X pins σ H4 { s4 with heap := s4.heap.push { cls := .type "slice", data := .fields #[vl, vu, vs] } } := I4.kept (t' := s4.toks) fun b ob q => Heap.get?_push_of_some _ q
  show wpAny (model X.prog X.w) X.A (subscriptTail e (.Slice none none (some (.UnaryOp .USub (.Constant (.int 1) k p1) p2)) p3) (.ref a) (.ref s4.heap.objs.size)) (EP X pins σ Q) X.xe { s4 with heap := s4.heap.push { cls := .type "slice", data := .fields #[vl, vu, vs] } }
  rcases q1 with ⟨hx, q⟩ | ⟨hx, q⟩
  · obtain ⟨its, r, ht, hz⟩ := I5.list hx
    have hlen := r.length
    refine tail_any (ops := [.ref a, .ref s4.heap.objs.size]) ht.isList.typeIs (PySem.slot_list_getitem.lookup) ?_ (by with_unfolding_all rfl)
    refine wpAny_getItem_list_slice ht.isList (Heap.IsSliceOf.new _ vl vu vs) pl pu ps (by decide) ?_ (by rw [List.size_toArray]; omega)
    rw [PySem.W.krv_pick]
    refine ⟨.ref _, _, I5.laid (t' := s4.toks) (o := .lst xs.reverse) (fun b ob q => Heap.get?_push_of_some _ q) (Nat.le_refl _) ?_, rfl, q _ (I5.hok.fresh (Nat.le_refl _))⟩
    exact ⟨by rw [List.length_reverse]; exact hz, _, 0, r.reverse, Heap.get?_push_size _ rfl⟩
  · obtain ⟨its, r, ht, hz⟩ := I5.tuple hx
    have hlen := r.length
    refine tail_any (ops := [.ref a, .ref s4.heap.objs.size]) ht.typeIs (PyProof.Rows.slot_tuple_getitem.lookup) ?_ (by with_unfolding_all rfl)
    cases pl
    cases pu
    cases ps with
    | int i t =>
      refine HT.getItem_tuple_rev ht (Heap.IsSliceOf.new _ .none .none _) ?_ (by rw [List.size_toArray]; omega)
      refine ⟨.ref _, _, I5.laid (t' := s4.toks) (o := .tup xs.reverse) (fun b ob q => Heap.get?_push_of_some _ q) (Nat.le_refl _) ?_, rfl, q _ (I5.hok.fresh (Nat.le_refl _))⟩
      exact ⟨by rw [List.length_reverse]; exact hz, _, r.reverse, ⟨_, Heap.get?_push_size _ rfl, rfl, 0, by simp⟩⟩
end L2
end
section
set_option Elab.async false
set_option linter.all false
set_option maxRecDepth 100000
set_option maxHeartbeats 4000000
namespace PySem
open PySem.Spec PyProof.Rows
theorem meets_enumerate_newT {v : Value} {o : Obj} {H : Heap → Prop} (B : Begins v o H) :
    Meets (Builtin.«enumerate.__new__» ⟨[.type "enumerate", v], []⟩) (fun _ R s => H s.heap ∧
      R (.ok (.ret (.ref (s.heap.push o).objs.size))) { s with heap := (s.heap.push o).push { cls := .type "enumerate", data := .fields #[.none, .bool false, .ref s.heap.objs.size, rawInt 0, .none, .none] } }) :=
  .of_wp fun prog w A R s h => by
    obtain ⟨hp, g, d, tk, os⟩ := s; obtain ⟨h1, h⟩ := h
    have hsub := sub_enumerate
    have q1 : ∀ {A' : Around} {E : Value → Shared → Prop} {Q : Value → Shared → Prop}, Q (.ref hp.objs.size) ⟨hp.push o, g, d, tk, os⟩ → wpAny (model prog w) A' (pyIter v) Q E ⟨hp, g, d, tk, os⟩ :=
      fun q => B.iter prog w _ _ ⟨hp, g, d, tk, os⟩ _ h1 q
    wp_walk using q1
    refine wpAny_stack_any fun st => wpAny_pure ?_
    split
    · rename_i c _ _ _ _ _
      cases (c == Value.type "enumerate")
      · wp_walk using q1
        exact ⟨_, rfl, h⟩
      · wp_walk using q1
        exact ⟨_, rfl, h⟩
    · wp_walk using q1
      exact ⟨_, rfl, h⟩
section
variable {prog : Program} {w : World} {A : Around} {E : Value → Shared → Prop} {s : Shared}
theorem call_enumerate_tuple {l : Addr} {items : Array Value} {Q : Value → Shared → Prop} (hL : s.heap.IsTuple l items)
    (h : ∀ h', IsEnum h' (s.heap.objs.size + 1) s.heap.objs.size 0 .none → h'.IsTupleIter s.heap.objs.size l 0 → h'.objs.size = s.heap.objs.size + 2 →
      (∀ b o, s.heap.get? b = some o → h'.get? b = some o) → Q (.ref (s.heap.objs.size + 1)) { s with heap := h' }) :
    wpAny (model prog w) A (call (.type "enumerate") [.ref l]) Q E s := by
  refine callType_new F.called_enumerate (by decide) (F.typeCall_enumerate_1 _) (F.newCall_enumerate_1 _) (fun obj => F.args_object_init_2 obj _) F.entry_enumerate_new
    (meets_enumerate_newT (begins_tuple l items)) ⟨hL, ?_⟩
  have hz : (s.heap.push { cls := .type "tuple_iterator", data := .fields #[.ref l, .int 0 0] }).objs.size = s.heap.objs.size + 1 := Heap.size_push ..
  show _ ∧ _
  rw [hz]
  have he : IsEnum ((s.heap.push { cls := .type "tuple_iterator", data := .fields #[.ref l, .int 0 0] }).push
      { cls := .type "enumerate", data := .fields #[.none, .bool false, .ref s.heap.objs.size, rawInt 0, .none, .none] }) (s.heap.objs.size + 1) s.heap.objs.size 0 .none := by
    have := Heap.get?_push_size (s.heap.push { cls := .type "tuple_iterator", data := .fields #[.ref l, .int 0 0] })
      (o := { cls := .type "enumerate", data := .fields #[.none, .bool false, .ref s.heap.objs.size, rawInt 0, .none, .none] }) rfl
    rw [hz] at this; exact this
  refine ⟨⟨_, he, rfl⟩, h _ he ⟨_, Heap.get?_push_of_some _ (Heap.get?_push_size _ rfl), rfl, rfl⟩ (by rw [Heap.size_push, hz]) fun b o x => Heap.get?_push_of_some _ (Heap.get?_push_of_some _ x)⟩
end
end PySem
namespace L2
open PySem PySem.Spec PyProof.Rows
/-- the tuple at a, each item in a new pair -/
def IteT (K : PySem.W.Frag) (a : Addr) : It :=
  ⟨fun i H => ∃ (xs : List V) (x : V), SqT K H a xs ∧ xs[i]? = some x, fun i H v H' => ∃ T x, v = .ref T ∧ H T = none ∧ H' = upd H T (.tup [.int (i : Nat), x]) ∧ ∀ xs, SqT K H a xs → xs[i]? = some x, fun i H => ∃ xs : List V, SqT K H a xs ∧ xs.length ≤ i⟩
theorem turn_enumT {P : Program} {w : World} {K : PySem.W.Frag} {elts : List Expr} {kk : Nat} {tpos : Pos} (a e it : Addr) :
    Turn P w K (.Tuple elts kk tpos) (IteT K a) [e, it] e (fun i h => (∃ old, IsEnum h e it ((i : Nat) : Int) old) ∧ h.IsTupleIter it a i ∧ e ≠ it) where
  mem := by simp
  obj := fun i h st b hb => by
    obtain ⟨⟨old, he⟩, ⟨o, ho, hc, hd⟩, _⟩ := st
    have e' : b = e ∨ b = it := by simpa using hb
    rcases e' with z | z
    · rw [z]; exact ⟨_, he, fun v q => nomatch q⟩
    · rw [z]; exact ⟨o, ho, fun v q => by rw [hd] at q; cases q⟩
  keep := fun i h h' st k => let ⟨⟨old, he⟩, hi, hne⟩ := st; ⟨⟨old, k e (by simp) _ he⟩, hi.at fun o q => k it (by simp) o q, hne⟩
  item := by
    intro X hP hw hK hc i pins s σ H E I hf st hg
    subst hP hw hK
    obtain ⟨⟨old, he⟩, hit, hne⟩ := st
    obtain ⟨xs, x, hq, hx⟩ := hg
    obtain ⟨its, rv, p, hz⟩ := I.tuple hq
    obtain ⟨u, hu, ru⟩ := rv.get hx
    have hel : e < s.heap.objs.size := Heap.lt_size he
    have hil : it < s.heap.objs.size := by obtain ⟨_, q, _⟩ := hit; exact Heap.lt_size q
    have pT : s.heap.IsTuple a its.toArray := p
    have hai : a ≠ it := by
      intro z
      subst z
      obtain ⟨o1, h1, c1, _⟩ := hit
      obtain ⟨o2, h2, c2, _⟩ := id p
      rw [h1] at h2
      cases h2
      rw [c1] at c2
      exact absurd c2 (by decide)
    have hae : a ≠ e := by
      intro z
      subst z
      obtain ⟨o2, h2, c2, _⟩ := id p
      have h1 : s.heap.get? a = some _ := he
      rw [h1] at h2
      cases h2
      have c3 : Value.type "enumerate" = Value.type "tuple" := c2
      exact absurd c3 (by decide)
    have hiN : i < its.toArray.size := by
      rw [List.size_toArray]
      exact (List.getElem?_eq_some_iff.mp hu).1
    have D := Draws.tuple (prog := X.prog) (w := X.w) (A := X.A.in1) (I.ok.hd hc) it a hai its.toArray
    refine wpAny_pyNext_enum_itemD D he ⟨hit, pT⟩ hiN hne (by simp; exact ⟨hne, fun z => hae z.symm⟩) fun y h' tk hP ho hs' hT hsz hk => ?_
    obtain rfl : u = y := by
      have z1 : its.toArray[i]? = some u := by simpa using hu
      rw [z1] at hP
      exact Option.some.inj hP
    refine ⟨_, rfl, wpAny_letOwnedTupleGo_enum (s := { s with heap := h', toks := tk + 1 }) ho fun h'' he' sb => ?_⟩
    have hT2 : h''.get? s.heap.objs.size = some { cls := .type "tuple", data := .seq #[.int i tk, u] } := (sb.2 _ (Nat.ne_of_gt hel)).trans hT
    have new : ObjOk X.prog X.w (upd H s.heap.objs.size (.tup [.int (i : Nat), x])) h'' s.heap.objs.size (.tup [.int (i : Nat), x]) :=
      ⟨by show 2 ≤ sizeLine; decide, [.int i tk, u], .cons ⟨_, rfl⟩ (.cons ru .nil), ⟨_, hT2, rfl, _, rfl⟩⟩
    have I1 : Inv X pins σ (upd H s.heap.objs.size (.tup [.int (i : Nat), x])) { s with heap := h'', toks := tk + 1 } :=
      I.turnedNew (ch := [e, it]) (fun b ob hb q => (sb.2 b (fun z => hb (by simp [z]))).trans (hk b ob (fun z => hb (by simp [z])) (fun z => hb (by simp [z])) q)) hf (Nat.le_refl _) new
    refine ⟨.ref s.heap.objs.size, _, I1, rfl, ⟨_, x, rfl, I.hok.fresh (Nat.le_refl _), rfl, fun ys hy => by rw [I.tuple_inj hy hq]; exact hx⟩, ⟨⟨u, ?_⟩, hs'.1.at fun o q => (sb.2 it (Ne.symm hne)).trans q, hne⟩, fun b hb => ?_⟩
    · have e1 : ((i + 1 : Nat) : Int) = (i : Int) + 1 := by omega
      rw [e1]; exact he'
    · have hb' : b < s.heap.objs.size := by
        have e' : b = e ∨ b = it := by simpa using hb
        rcases e' with z | z
        · rw [z]; exact hel
        · rw [z]; exact hil
      rw [upd_ne (Nat.ne_of_lt hb')]
      exact (hf b hb).1
  done := by
    intro X hP hw hK hc i pins s σ H E I hf st hg
    subst hP hw hK
    obtain ⟨⟨old, he⟩, hit, hne⟩ := st
    obtain ⟨xs, hq, hx⟩ := hg
    obtain ⟨its, rv, p, hz⟩ := I.tuple hq
    obtain ⟨f0, f1, f2, f3, f4, f5⟩ := hf it (by simp)
    have hl := rv.length
    have hT : s.TypeIs (.ref e) "enumerate" := ⟨_, he, rfl⟩
    have pT : s.heap.IsTuple a its.toArray := p
    unfold pyNext
    refine wpAny_bind (wpAny_attempt (wpAny_callSpecial?_slot (name := Str.ofString "__next__") hT F.slot_enumerate_next
      (wpAny_call_entry F.slot_enumerate_next hT F.entry_enumerate_next ?_ (F.args_enumerate_next_1 _))))
    show wpAny _ _ (field (.ref e) 2 >>= _) _ _ _
    refine wpAny_bind (wpAny_field he rfl (x := .ref it) rfl ?_)
    refine wpAny_bind (wpAny_nextOf_tuple_end (I.ok.hd hc) hit pT (by simp; omega) fun h' x he' hx' => ?_)
    obtain ⟨o, ho, hc'⟩ := hx'
    refine wpAny_bind (wpAny_isInstance (T := "StopIteration") (b := true) ⟨o, ho, hc'⟩ isSubtype_stop ?_)
    exact wpAny_pure ⟨rfl, I.turned (t' := s.toks) (fun b o hb q => he' b o hb q) f0 f1 f3 f4 f5⟩
  self := fun A i s Q E st h => let ⟨⟨_, he⟩, _⟩ := st; wpAny_pyIter_enum he h
/-- enumerate of a list or a tuple -/
def iEnumA (K : PySem.W.Frag) (ta : TA) : TI := fun σ H R => ta σ H fun vs H1 => ∃ a xs, vs = [.ref a] ∧ ((SqL K H1 a xs ∧ R (Ite K a) H1) ∨ (SqT K H1 a xs ∧ R (IteT K a) H1))
theorem pi_enumA {X : Cx} {e : Expr} {ta : TA} {p pos tpos : Pos} {elts : List Expr} {kk : Nat} (hg : Gl X "enumerate") (hm : X.mg "enumerate" = none) (ha : PA X [e] ta) (hs : starEach [e] X.env = [(false, eval e X.env)]) :
    PI X (.Tuple elts kk tpos) (.Call (.Name "enumerate" p) [e] [] pos) (iEnumA X.K ta) := by
  refine ⟨fun pins s σ H R I h => ?_⟩
  refine Call_ (ld_blt I hg hm boot_enumerate (PyProof.Rows.callWith_type1 (thn (ha.run pos pins s σ H _ I h) fun us s1 ⟨vs, H1, I1, r1, q1⟩ => ?_) hs rfl))
  obtain ⟨a, xs, ex, hq⟩ := q1
  subst ex
  cases r1 with
  | cons r rr =>
    cases rr
    cases r
    rcases hq with ⟨hq, q⟩ | ⟨hq, q⟩
    · obtain ⟨its, rv, p', hz⟩ := I1.list hq
      refine call_enumerate_list p'.isList fun h' he hit hsz hk => wpAny_pyIter_enum he ?_
      have I2 : Inv X pins σ H1 { s1 with heap := h' } := I1.kept (t' := s1.toks) hk
      refine ⟨s1.heap.objs.size + 1, [s1.heap.objs.size + 1, s1.heap.objs.size], _, _, H1, rfl, I2, turn_enum a (s1.heap.objs.size + 1) s1.heap.objs.size, ⟨⟨.none, he⟩, hit, Nat.succ_ne_self _⟩, fun b hb => ?_, q⟩
      have e' : b = s1.heap.objs.size + 1 ∨ b = s1.heap.objs.size := by simpa using hb
      have hle : s1.heap.objs.size ≤ b := by
        rcases e' with z | z
        · rw [z]; exact Nat.le_add_right _ _
        · rw [z]; exact Nat.le_refl _
      exact I1.fpOk hle (I1.hok.fresh hle)
    · obtain ⟨its, rv, p', hz⟩ := I1.tuple hq
      refine call_enumerate_tuple (show s1.heap.IsTuple a its.toArray from p') fun h' he hit hsz hk => wpAny_pyIter_enum he ?_
      have I2 : Inv X pins σ H1 { s1 with heap := h' } := I1.kept (t' := s1.toks) hk
      refine ⟨s1.heap.objs.size + 1, [s1.heap.objs.size + 1, s1.heap.objs.size], _, _, H1, rfl, I2, turn_enumT a (s1.heap.objs.size + 1) s1.heap.objs.size, ⟨⟨.none, he⟩, hit, Nat.succ_ne_self _⟩, fun b hb => ?_, q⟩
      have e' : b = s1.heap.objs.size + 1 ∨ b = s1.heap.objs.size := by simpa using hb
      have hle : s1.heap.objs.size ≤ b := by
        rcases e' with z | z
        · rw [z]; exact Nat.le_add_right _ _
        · rw [z]; exact Nat.le_refl _
      exact I1.fpOk hle (I1.hok.fresh hle)
end L2
end
section
set_option Elab.async false
set_option linter.all false
set_option maxRecDepth 100000
set_option maxHeartbeats 4000000
namespace PySem
open PyProof PySem.AutoSeq1
theorem extend_tupA (l : Addr) (items : Array Value) (n : Nat) (b : Addr) (items2 : Array Value) (n2 : Nat) (dd : Option Addr) (sl : Array (Option Value)) (hs0 : ¬(!items.isEmpty && Builtin.List.listTooLong (items.size + items2.size)) = true) (hs1 : items.size ≤ sizeLine) (hs2 : items.size + items2.size ≤ sizeLine + 1) :
    Meets (Builtin.«list.extend» ⟨[.ref l, .ref b], []⟩) (fun _ R s => s.heap.get? l = some { cls := .type "list", dict := none, data := .seq items n, slots := #[] } ∧ s.heap.get? b = some { cls := .type "tuple", dict := dd, data := .seq items2 n2, slots := sl } ∧ R (.ok (.ret Value.none)) { s with heap := s.heap.update l (Obj.mapSeq fun x => x ++ items2), toks := s.toks }) :=
  .of_wp fun prog w A R s h => by
    obtain ⟨hp, g, d, tk, os⟩ := s; obtain ⟨hl, hb, h⟩ := h; have f1 := idx_int; have f2 := sub_tuple_tuple; have f3 := sub_list_list; have f4 := sub_tuple_list; have f5 := sub_list_tuple;
    have hz' : (items ++ items2).size ≤ sizeLine + 1 := by rw [Array.size_append]; exact hs2
    wp_walk using (wpAny_updateSeq hl rfl (hz := hs1) (_hz' := hz')), wpAny_loadPart' hl, wpAny_loadPart' hb; exact ⟨_, rfl, h⟩
end PySem
namespace L2
open PySem PySem.Spec PyProof.Rows
variable {X : Cx}
/-- xs.extend(a list or a tuple) -/
def rExtA (K : PySem.W.Frag) : V → List V → Hp → VK → Prop := fun x vs H Q => ∃ l b xs zs, x = .ref l ∧ vs = [.ref b] ∧ H l = some (.lst xs) ∧ (H b = some (.lst zs) ∨ SqT K H b zs) ∧ xs.length + zs.length ≤ sizeLine ∧ Q .non (upd H l (.lst (xs ++ zs)))
theorem mt_extA : MtR X "list.extend" (rExtA X.K) := by
  intro pins s σ H x vs v us Q I rx rv h
  obtain ⟨l, b, xs, zs, rfl, rfl, hH, hB | hB, hz, q⟩ := h
  · exact mt_extend pins s σ H _ _ v us Q I rx rv ⟨l, b, xs, zs, rfl, rfl, hH, hB, hz, q⟩
  · cases rx
    obtain ⟨u, rfl, ru⟩ := rv.one
    cases ru
    obtain ⟨z, its, n, r, hl, e⟩ := I.lstM hH
    obtain ⟨its2, r2, ⟨⟨oc, od, dt, sl⟩, ho, hc, n2, hd⟩, hz2⟩ := I.tuple hB
    simp only at hc hd
    subst hc hd
    have hl2 := r2.length
    have hsz : its.toArray.size + its2.toArray.size ≤ sizeLine := by rw [List.size_toArray, List.size_toArray]; omega
    have hlong : ¬ (!its.toArray.isEmpty && Builtin.List.listTooLong (its.toArray.size + its2.toArray.size)) = true := by
      rw [notLongL hsz, Bool.and_false]
      exact Bool.false_ne_true
    refine call_meets F.slot_list_extend ⟨_, e, rfl⟩ F.entry_list_extend (F.args_list_extend_2 _ _)
      (PySem.extend_tupA l its.toArray n b its2.toArray n2 od sl hlong (by rw [List.size_toArray]; omega) (by omega)) ⟨e, ho, ?_⟩
    refine ⟨.non, _, I.lset (its' := its ++ its2) hH e (by simp) (r.append r2) ?_, rfl, q⟩
    rw [List.length_append]
    omega
end L2
end
section
set_option Elab.async false
set_option linter.all false
set_option maxRecDepth 100000
set_option maxHeartbeats 4000000
/-! Dv: a small evaluator over data with value semantics. -/
namespace Dv
open PySem L2

inductive D where
  | non | bl (b : Bool) | int (i : Int) | str (x : Str)
  | tup (ds : List D) | lst (ds : List D) | dic (kvs : List (Key × D))
  | ins (c : Nat) (fs : List (Nat × D))
  | cell (n : Nat)
  | scr (ds : List D)
  deriving Inhabited
/-- what a cell holds: something that may change -/
inductive Cell where
  | lst (ds : List D) | ins (c : Nat) (fs : List (Nat × D))
  deriving Inhabited
abbrev Cells := List Cell
inductive Slot where
  | emp | val (d : D) | own (d : D)
  deriving Inhabited
abbrev Env := List Slot
inductive Res (α : Type) where
  | ok (a : α) (cs : Cells) | exc (e : D) (cs : Cells) | bad
  deriving Inhabited
/-- a value that simp leaves as it stands: what depends on it bars the way -/
inductive Fx {α : Type} (a : α) : Type where
  | mk
def Res.bind {α β : Type} (r : Res α) (k : α → Cells → Res β) (_w : Fx k := .mk) : Res β := match r with
  | .ok a cs => k a cs
  | .exc e cs => .exc e cs
  | .bad => .bad
theorem bind_kk {α β : Type} {r : Res α} {k k' : α → Cells → Res β} (h : k = k') : r.bind k = r.bind k' := by subst h; rfl
@[simp] theorem bind_ok {α β : Type} (a : α) (cs : Cells) (k : α → Cells → Res β) : (Res.ok a cs).bind k = k a cs := (rfl)
@[simp] theorem bind_exc {α β : Type} (e : D) (cs : Cells) (k : α → Cells → Res β) : (Res.exc e cs : Res α).bind k = .exc e cs := (rfl)
@[simp] theorem bind_bad {α β : Type} (k : α → Cells → Res β) : (Res.bad : Res α).bind k = .bad := (rfl)

inductive Bop where
  | add | sub | mul | fdiv | mod | pow
  deriving DecidableEq
inductive Cop where
  | eq | ne | lt | le | gt | ge | isin | notin
  deriving DecidableEq
inductive Ty where
  | int | bool | str | list | tuple | dict | cls (c : Nat)
  deriving DecidableEq
inductive Blt where
  | len | int | bool | str | sum | all | any | abs | tuple | list | sorted | max | min | max2 | min2
  deriving DecidableEq
inductive Ex where
  | var (i : Nat) | int (i : Int) | str (x : Str) | bl (b : Bool) | non | glob (j : Nat)
  | bin (op : Bop) (a b : Ex) | neg (a : Ex) | not (a : Ex) | inv (a : Ex)
  | and (a b : Ex) | or (a b : Ex)
  | cmp (op : Cop) (a b : Ex) | cmpB (op : Cop) (a b : Ex) | chain (o p : Cop) (a b c : Ex) | isn (a : Ex) | notn (a : Ex)
  | ifx (c a b : Ex)
  | nil | cons (a r : Ex) | star (a r : Ex)
  | tup (as : Ex) | lst (as : Ex)
  | sub (a i : Ex) | slice (a lo hi : Ex) | rev (a : Ex)
  | attr (a : Ex) (j : Nat) | prop (a : Ex) (j : Nat)
  | call (f : Nat) (as : Ex) | callk (f : Nat) (as kas : Ex) (perm : List Nat)
  | new (c : Nat) (as : Ex) | newk (c : Nat) (as kas : Ex) (perm : List Nat)
  | meth (m : Nat) (o as : Ex) | methk (m : Nat) (o as kas : Ex) (perm : List Nat)
  | blt (b : Blt) (as : Ex) | isi (a : Ex) (ts : List Ty)
  | fstr (as : Ex) | fmt (a : Ex) | split (a b : Ex) | join (a b : Ex)
  | comp (elt : Ex) (tg : List Nat) (one : Bool) (src cond : Ex)
  | rng (a : Ex) | rng2 (a b : Ex) | enum (a : Ex) | zip (a b : Ex)
inductive Sm where
  | skip | seq (a b : Sm) | frz (i : Nat) (b : Sm)
  | set (i : Nat) (e : Ex) | own (i : Nat) (as : Ex) | setT (is : List Nat) (e : Ex) | par (is : List Nat) (as : Ex)
  | setA (i j : Nat) (e : Ex) | setI (v : Nat) (k e : Ex)
  | aug (i : Nat) (op : Bop) (e : Ex)
  | ex (e : Ex) | app (i : Nat) (e : Ex) | ext (i : Nat) (e : Ex)
  | ite (c : Ex) (a b : Sm) | for_ (tg : List Nat) (one : Bool) (src : Ex) (body : Sm) | while_ (c : Ex) (body : Sm)
  | ret (e : Ex) | retC (as : Ex) | brk | cnt | never
structure Fn where
  np : Nat
  star : Bool
  n : Nat
  dfl : List D
  ini : Option Nat
  body : Sm
structure Cl where
  init : Option Nat
  mutb : Bool
  meths : List (Nat × Nat)
  props : List (Nat × Nat)
  anc : List Nat
  atr : List Nat
structure Tab where
  fns : List Fn
  cls : List Cl
  consts : List D
/-- a def's call; one of an __init__ (true): a thing's making -/
abbrev Orc := Bool → Nat → List D → Cells → Res D
/-! ### names of methods that Python itself asks for -/
abbrev nEq : Nat := 0
abbrev nAdd : Nat := 1
abbrev nInv : Nat := 2
abbrev nStr : Nat := 3
abbrev nLen : Nat := 4
abbrev nIter : Nat := 5
abbrev nBool : Nat := 6
abbrev nCont : Nat := 7
abbrev nGet : Nat := 8
abbrev nCall : Nat := 9
abbrev nOr : Nat := 10
abbrev nAnd : Nat := 11
abbrev nSub : Nat := 12

section
variable (T : Tab) (O : Orc)
/-! ### operations on values -/
mutual
def toPy : D → Option PyData
  | .non => some .none
  | .bl b => some (.bool b)
  | .int i => some (.int i)
  | .str x => some (.str x)
  | .tup ds => match toPys ds with
    | some xs => some (.tuple xs)
    | none => none
  | .lst ds => match toPys ds with
    | some xs => some (.list xs)
    | none => none
  | _ => none
def toPys : List D → Option (List PyData)
  | [] => some []
  | d :: ds => match toPy d, toPys ds with
    | some x, some xs => some (x :: xs)
    | _, _ => none
end
def ofRes {α : Type} (cs : Cells) : Option α → Res α
  | some a => .ok a cs
  | none => .bad
/-- what stands there, a cell being looked into -/
def deref (d : D) (cs : Cells) : D := match d with
  | .cell n => (match cs[n]? with
    | some (.lst ds) => .lst ds
    | some (.ins c fs) => .ins c fs
    | none => d)
  | d => d
def clsOf (d : D) (cs : Cells) : Option Nat := match deref d cs with
  | .ins c _ => some c
  | _ => none
def okAt (c j : Nat) : Bool := match T.cls[c]? with
  | some k => k.atr.contains j
  | none => false
def methOf (c m : Nat) : Option Nat := (T.cls[c]?).bind fun k => k.meths.lookup m
def methF (m : Nat) (d : D) (cs : Cells) : Option Nat := match clsOf d cs with
  | some c => methOf T c m
  | none => none
/-- d.m(args) -/
def callM (m : Nat) (d : D) (args : List D) (cs : Cells) : Res D := match clsOf d cs with
  | some c => (match methOf T c m with
    | some f => O false f (d :: args) cs
    | none => .bad)
  | none => .bad
def isBl : D → Cells → Res Bool
  | .bl b, cs => .ok b cs
  | _, _ => .bad
/-- its type is known -/
def tyOk (d : D) (cs : Cells) : Bool := match deref d cs with
  | .scr _ => false
  | .cell _ => false
  | .ins c _ => (T.cls[c]?).isSome
  | _ => true
def truth (d : D) (cs : Cells) : Res Bool := match deref d cs with
  | .non => .ok false cs
  | .bl b => .ok b cs
  | .int i => .ok (i != 0) cs
  | .str x => if x.length ≤ sizeLine then .ok ((x.length : Int) != 0) cs else .bad
  | .tup ds => .ok (!ds.isEmpty) cs
  | .lst ds => .ok (!ds.isEmpty) cs
  | .dic kvs => .ok (!kvs.isEmpty) cs
  | _ => .bad
def flatD : D → Option V
  | .non => some .non
  | .bl b => some (.bl b)
  | .int i => some (.int i)
  | .str x => some (.str x)
  | _ => none
def flats : List D → Option (List V)
  | [] => some []
  | d :: ds => match flatD d, flats ds with
    | some x, some xs => some (x :: xs)
    | _, _ => none
def isIn1 (a : D) : D → Option Bool
  | .str y => (match a with
    | .str x => if x.cps.size = 1 then some (decide (x.cps.getD 0 0 ∈ y.cps.toList)) else none
    | _ => none)
  | .lst ds => (match flatD a, flats ds with
    | some x, some xs => some (inV x xs)
    | _, _ => none)
  | .tup ds => (match flatD a, flats ds with
    | some x, some xs => some (inV x xs)
    | _, _ => none)
  | _ => none
/-- == of data, nothing being called -/
def eqP (a b : D) (cs : Cells) : Res Bool := match toPy a, toPy b with
  | some x, some y => if SeqAt.shaped x = true ∧ SeqAt.shaped y = true then .ok (PyData.eqv x y) cs else .bad
  | _, _ => .bad
/-- == by the left one's own method -/
def eqO (a b : D) (cs : Cells) : Res Bool := if tyOk T b cs = true then (callM T O nEq a [b] cs).bind isBl else .bad
def eqD (a b : D) (cs : Cells) : Res Bool := match clsOf a cs with
  | some _ => eqO T O a b cs
  | none => eqP a b cs
def cmpI (op : Cop) (a b : D) (cs : Cells) : Res D := match op, a, b with
  | .lt, .int i, .int j => .ok (.bl (decide (i < j))) cs
  | .le, .int i, .int j => .ok (.bl (decide (i ≤ j))) cs
  | .gt, .int i, .int j => .ok (.bl (decide (j < i))) cs
  | .ge, .int i, .int j => .ok (.bl (decide (j ≤ i))) cs
  | _, _, _ => .bad
def cmpD (op : Cop) (a b : D) (cs : Cells) : Res D := match op with
  | .eq => (eqD T O a b cs).bind fun r cs => .ok (.bl r) cs
  | .ne => (eqD T O a b cs).bind fun r cs => .ok (.bl (!r)) cs
  | .isin => (match clsOf b cs with
    | some _ => (callM T O nCont b [a] cs).bind fun r cs => (truth r cs).bind fun k cs => .ok (.bl k) cs
    | none => ofRes cs ((isIn1 a (deref b cs)).map .bl))
  | .notin => (match clsOf b cs with
    | some _ => (callM T O nCont b [a] cs).bind fun r cs => (truth r cs).bind fun k cs => .ok (.bl (!k)) cs
    | none => ofRes cs ((isIn1 a (deref b cs)).map fun r => .bl (!r)))
  | op => cmpI op a b cs
/-- a comparison that calls nothing -/
def cmpBD (op : Cop) (a b : D) (cs : Cells) : Res D := match op with
  | .eq => (eqP a b cs).bind fun r cs => .ok (.bl r) cs
  | .ne => (eqP a b cs).bind fun r cs => .ok (.bl (!r)) cs
  | .isin => ofRes cs ((isIn1 a (deref b cs)).map .bl)
  | .notin => ofRes cs ((isIn1 a (deref b cs)).map fun r => .bl (!r))
  | op => cmpI op a b cs
/-! bounds as tests that a kernel stops at when it does not know the number -/
def okMul (i j : Int) : Bool := Nat.ble i.natAbs 18446744073709551615 || Nat.ble j.natAbs 18446744073709551615
def okPow (i j : Int) : Bool := match j with
  | .ofNat m => Nat.ble m 1000000 && Nat.ble i.natAbs 18446744073709551615
  | _ => false
def okDiv (j : Int) : Bool := match j with
  | .ofNat (m + 1) => Nat.ble m 18446744073709551614
  | _ => false
def okLen (n : Int) : Bool := match n with
  | .ofNat m => Nat.ble m 9223372036854775807
  | _ => false
def ok62 (n : Int) : Bool := Nat.ble n.natAbs 4611686018427387903
theorem okMul_iff {i j : Int} : okMul i j = true ↔ CMul i j := by
  unfold okMul CMul
  rw [Bool.or_eq_true, Nat.ble_eq, Nat.ble_eq]
  omega
theorem okPow_iff {i j : Int} : okPow i j = true ↔ CPow i j := by
  unfold okPow CPow
  cases j with
  | ofNat m =>
    simp only [Bool.and_eq_true, Nat.ble_eq]
    have : Int.ofNat m = (m : Int) := rfl
    omega
  | negSucc m =>
    simp
theorem okDiv_ok {j : Int} (h : okDiv j = true) (i : Int) : CDivW i j := by
  unfold okDiv at h
  cases j with
  | ofNat m =>
    cases m with
    | zero => cases h
    | succ m =>
      have h : m ≤ 18446744073709551614 := Nat.le_of_ble_eq_true h
      refine ⟨by show (0 : Int) < ((m + 1 : Nat) : Int); omega, ?_⟩
      show (m + 1).log2 < 9000
      exact Nat.lt_trans ((Nat.log2_lt (by omega)).2 (show m + 1 < 2 ^ 64 by omega)) (by decide)
  | negSucc m => cases h
theorem okDiv_of {j : Int} (h : 0 < j) (h2 : j < 18446744073709551616) : okDiv j = true := by
  obtain ⟨m, rfl⟩ : ∃ m : Nat, j = ((m + 1 : Nat) : Int) := ⟨(j - 1).toNat, by omega⟩
  show Nat.ble m _ = true
  rw [Nat.ble_eq]
  omega
theorem okLen_iff {n : Int} : okLen n = true ↔ 0 ≤ n ∧ n < 2 ^ 63 := by
  unfold okLen
  cases n with
  | ofNat m =>
    simp only [Nat.ble_eq]
    have : Int.ofNat m = (m : Int) := rfl
    omega
  | negSucc m =>
    simp
theorem ok62_iff {n : Int} : ok62 n = true ↔ -4611686018427387904 < n ∧ n < 4611686018427387904 := by
  unfold ok62
  rw [Nat.ble_eq]
  omega
def binD (op : Bop) (a b : D) (cs : Cells) : Res D := match op with
  | .add => (match a, b with
    | .int i, .int j => .ok (.int (i + j)) cs
    | .str x, .str y => if x.length + y.length ≤ sizeLine then .ok (.str (x ++ y)) cs else .bad
    | .lst xs, .lst ys => if xs.length + ys.length ≤ sizeLine then .ok (.lst (xs ++ ys)) cs else .bad
    | .tup xs, .tup ys => if xs.length + ys.length ≤ sizeLine then .ok (.tup (xs ++ ys)) cs else .bad
    | .ins c fs, .ins c' fs' => if c' = c then callM T O nAdd (.ins c fs) [.ins c' fs'] cs else .bad
    | _, _ => .bad)
  | .sub => (match a, b with
    | .int i, .int j => .ok (.int (i - j)) cs
    | .ins c fs, .ins c' fs' => if c' = c then callM T O nSub (.ins c fs) [.ins c' fs'] cs else .bad
    | _, _ => .bad)
  | .mul => (match a, b with
    | .int i, .int j => if okMul i j = true then .ok (.int (i * j)) cs else .bad
    | _, _ => .bad)
  | .fdiv => (match a, b with
    | .int i, .int j => if okDiv j = true then .ok (.int (i / j)) cs else .bad
    | _, _ => .bad)
  | .mod => (match a, b with
    | .int i, .int j => if 0 < j then .ok (.int (i % j)) cs else .bad
    | _, _ => .bad)
  | .pow => (match a, b with
    | .int i, .int j => if okPow i j = true then .ok (.int (i ^ j.toNat)) cs else .bad
    | _, _ => .bad)
def tyThere (t : Ty) : Bool := match t with
  | .cls c => (T.cls[c]?).isSome
  | _ => true
def isTy (d : D) (cs : Cells) (t : Ty) : Bool := match deref d cs, t with
  | .bl _, .int => true
  | .bl _, .bool => true
  | .int _, .int => true
  | .str _, .str => true
  | .tup _, .tuple => true
  | .lst _, .list => true
  | .dic _, .dict => true
  | .ins c _, .cls k => (match T.cls[c]? with
    | some cl => cl.anc.contains k
    | none => false)
  | _, _ => false
/-- an index from either end -/
abbrev atD (xs : List D) (i : Int) : Option D := atI xs i
/-- a slice -/
def cutG {α : Type} (xs : List α) (lo hi : Option Int) : List α := (xs.drop (HT.sIx xs.length 0 lo)).take (HT.sIx xs.length xs.length hi - HT.sIx xs.length 0 lo)
abbrev cutD (xs : List D) (lo hi : Option Int) : List D := cutG xs lo hi
def intsD : List D → Option (List Int)
  | [] => some []
  | .int i :: ds => (intsD ds).map (i :: ·)
  | _ => none
def boolsD : List D → Option (List Bool)
  | [] => some []
  | .bl b :: ds => (boolsD ds).map (b :: ·)
  | _ => none
def strsD : List D → Option (List Str)
  | [] => some []
  | .str b :: ds => (strsD ds).map (b :: ·)
  | _ => none
def chars (x : Str) : List D := x.cps.toList.map fun c => .str ⟨#[c]⟩
/-- what a for walks -/
def items (d : D) : Option (List D) := match d with
  | .tup ds => some ds
  | .lst ds => some ds
  | _ => none
def seqOf (d : D) (cs : Cells) : Option (List D) := match deref d cs with
  | .tup ds => some ds
  | .lst ds => some ds
  | _ => none
def bLen (args : List D) (cs : Cells) : Res D := match args with
  | [d] => (match deref d cs with
    | .tup ds => .ok (.int ds.length) cs
    | .lst ds => .ok (.int ds.length) cs
    | .str x => if x.length ≤ sizeLine then .ok (.int x.length) cs else .bad
    | .ins _ _ => (callM T O nLen d [] cs).bind fun r cs => (match r with
      | .int n => if okLen n = true then .ok (.int n) cs else .bad
      | _ => .bad)
    | _ => .bad)
  | _ => .bad
def bInt (args : List D) (cs : Cells) : Res D := match args with
  | [.int i] => .ok (.int i) cs
  | [.bl b] => .ok (.int (if b then 1 else 0)) cs
  | _ => .bad
def bStr (args : List D) (cs : Cells) : Res D := match args with
  | [.int i] => if i.natAbs.log2 < 1920 then .ok (.str (toString i)) cs else .bad
  | [.ins c fs] => (callM T O nStr (.ins c fs) [] cs).bind fun r cs => (match r with
    | .str x => .ok (.str x) cs
    | _ => .bad)
  | _ => .bad
def bSum (args : List D) (cs : Cells) : Res D := match args with
  | [d] => (match deref d cs with
    | .lst ds => ofRes cs ((intsD ds).map fun ns => .int ns.sum)
    | _ => .bad)
  | _ => .bad
def bAll (args : List D) (cs : Cells) : Res D := match args with
  | [d] => (match deref d cs with
    | .lst ds => ofRes cs ((boolsD ds).map fun ns => .bl (ns.all id))
    | _ => .bad)
  | _ => .bad
def bAny (args : List D) (cs : Cells) : Res D := match args with
  | [d] => (match deref d cs with
    | .lst ds => ofRes cs ((boolsD ds).map fun ns => .bl (ns.any id))
    | _ => .bad)
  | _ => .bad
def bAbs (args : List D) (cs : Cells) : Res D := match args with
  | [.int i] => .ok (.int (if i < 0 then -i else i)) cs
  | _ => .bad
def bTuple (args : List D) (cs : Cells) : Res D := match args with
  | [d] => ofRes cs ((seqOf d cs).map .tup)
  | _ => .bad
def bList (args : List D) (cs : Cells) : Res D := match args with
  | [d] => ofRes cs ((seqOf d cs).map .lst)
  | _ => .bad
def bTwo (f : Int → Int → Int) (args : List D) (cs : Cells) : Res D := match args with
  | [.int i, .int j] => .ok (.int (f i j)) cs
  | _ => .bad
def bSorted (args : List D) (cs : Cells) : Res D := match args with
  | [d] => (match deref d cs with
    | .lst ds => ofRes cs ((intsD ds).map fun ns => .lst ((ns.mergeSort fun a b => decide (a ≤ b)).map .int))
    | _ => .bad)
  | _ => .bad
def bltD (b : Blt) (args : List D) (cs : Cells) : Res D := match b with
  | .len => bLen T O args cs
  | .int => bInt args cs
  | .str => bStr T O args cs
  | .sum => bSum args cs
  | .all => bAll args cs
  | .any => bAny args cs
  | .abs => bAbs args cs
  | .tuple => bTuple args cs
  | .list => bList args cs
  | .sorted => bSorted args cs
  | .max2 => bTwo (fun i j => if j > i then j else i) args cs
  | .min2 => bTwo (fun i j => if j < i then j else i) args cs
  | _ => .bad
def fmtD (d : D) (cs : Cells) : Res D := match d with
  | .str x => if x.length ≤ sizeLine then .ok (.str x) cs else .bad
  | .int i => if i.natAbs.log2 < 1920 then .ok (.str (toString i)) cs else .bad
  | _ => .bad
def joinD (s : Str) (y : D) (cs : Cells) : Res D := match seqOf y cs with
  | some ds => (match strsD ds with
    | some ss => if (ss.map (·.length)).sum + ss.length * s.length ≤ 16777216 then .ok (.str (Txt.join s ss)) cs else .bad
    | none => .bad)
  | none => .bad
def splitD (s : Str) (y : D) (cs : Cells) : Res D := match y with
  | .str t => if t.length = 0 ∨ sizeLine < s.length + 2 then .bad else .ok (.lst ((Txt.split s t).map .str)) cs
  | _ => .bad
/-- the values put to the parameters' places -/
def permD {α : Type} : List Nat → List α → Option (List α)
  | [], _ => some []
  | i :: p, ds => match ds[i]?, permD p ds with
    | some d, some es => some (d :: es)
    | _, _ => none
def freshE (F : Fn) (args : List D) : Option Env :=
  let given := args.map Slot.val
  if F.star then (if F.np ≤ args.length ∧ args.length ≤ sizeLine then some ((args.take F.np).map Slot.val ++ Slot.val (.tup (args.drop F.np)) :: List.replicate (F.n - (F.np + 1)) .emp) else none)
  else if args.length = F.np then some (given ++ List.replicate (F.n - F.np) .emp)
  else none
/-- the slots of an __init__: its self a new thing -/
def freshI (F : Fn) (c : Nat) (args : List D) : Option Env := (freshE { F with np := F.np - 1, n := F.n - 1 } args).map fun ρ => .own (.ins c []) :: ρ
def fillD (F : Fn) (args : List D) : List D := if F.star then args else args ++ F.dfl.drop (args.length + F.dfl.length - F.np)
def subD (x y : D) (cs : Cells) : Res D := match deref x cs, y with
  | .lst ds, .int k => ofRes cs (atD ds k)
  | .tup ds, .int k => ofRes cs (atD ds k)
  | .ins _ _, _ => callM T O nGet x [y] cs
  | _, _ => .bad
def isiD (ts : List Ty) (x : D) (cs : Cells) : Res D := if tyOk T x cs = true ∧ ts.all (tyThere T) = true then .ok (.bl (ts.any (isTy T x cs))) cs else .bad
/-- x op= y -/
def augD (op : Bop) (x y : D) (cs : Cells) : Res D := match op, x, y with
  | .add, .int i, .int j => .ok (.int (i + j)) cs
  | .sub, .int i, .int j => .ok (.int (i - j)) cs
  | .add, .str a, .str b => if a.length + b.length ≤ sizeLine then .ok (.str (a ++ b)) cs else .bad
  | .add, .ins c fs, .ins c' fs' => if c' = c then callM T O nAdd (.ins c fs) [.ins c' fs'] cs else .bad
  | _, _, _ => .bad
/-! ### expressions -/
def getV (ρ : Env) (i : Nat) : Option D := match ρ[i]? with
  | some (.val d) => some d
  | _ => none
def getB (ρ : Env) (i : Nat) : Option D := match ρ[i]? with
  | some (.val d) => some d
  | some (.own (.lst ds)) => some (.lst ds)
  | _ => none
/-- what an attribute is read of -/
def getA (ρ : Env) (i : Nat) : Option D := match ρ[i]? with
  | some (.val d) => some d
  | some (.own (.ins c fs)) => some (.ins c fs)
  | _ => none
def baseA (a : Ex) (f : Env → Cells → Res D) : Env → Cells → Res D := match a with
  | .var i => fun ρ cs => ofRes cs (getA ρ i)
  | _ => f
def setAll : List Nat → List D → Env → Option Env
  | [], [], ρ => some ρ
  | i :: is, d :: ds, ρ => if i < ρ.length then setAll is ds (ρ.set i (.val d)) else none
  | _, _, _ => none
def setTg (tg : List Nat) (one : Bool) (d : D) (ρ : Env) : Option Env :=
  if one then setAll tg [d] ρ
  else match d with
    | .tup ds => setAll tg ds ρ
    | _ => none
/-- the target's slots forgotten -/
def wipeE (ρ : Env) : List Nat → Env
  | [] => ρ
  | v :: vs => (wipeE ρ vs).set v .emp
def enumD (i : Nat) : List D → List D
  | [] => []
  | d :: ds => .tup [.int i, d] :: enumD (i + 1) ds
/-- a comprehension's turns -/
def compL (turn : D → Cells → Res (Option D)) : List D → List D → Cells → Res (List D)
  | acc, [], cs => .ok acc cs
  | acc, x :: xs, cs => match turn x cs with
    | .ok (some d) cs => if acc.length < sizeLine then compL turn (acc ++ [d]) xs cs else .bad
    | .ok none cs => compL turn acc xs cs
    | _ => .bad
def compF (turn : D → Cells → Res (Option D)) (acc xs : List D) (cs : Cells) (_w : Fx turn := .mk) : Res (List D) := compL turn acc xs cs
def turnD (tg : List Nat) (one : Bool) (fc : Env → Cells → Res Bool) (fe : Env → Cells → Res D) (ρ : Env) (x : D) (cs : Cells) : Res (Option D) := match setTg tg one x (wipeE ρ tg) with
  | some ρ' => (fc ρ' cs).bind fun t cs => if t then (fe ρ' cs).bind fun d cs => .ok (some d) cs else .ok none cs
  | none => .bad
def rngD (x : D) (cs : Cells) : Res (List D) := match x with
  | .int n => if ok62 n = true then .ok ((List.range n.toNat).map fun (i : Nat) => .int (i : Int)) cs else .bad
  | _ => .bad
def rng2D (x y : D) (cs : Cells) : Res (List D) := match x, y with
  | .int m, .int n => if ok62 m = true ∧ ok62 n = true then .ok ((List.range (n - m).toNat).map fun (i : Nat) => .int (m + (i : Int))) cs else .bad
  | _, _ => .bad
/-- what an expression means: as a value; read as it stands, without a name of its own; as a test; as what is walked; as a part of a slice; as arguments; as arguments read as they stand; as a comprehension's if -/
structure Den where
  v : Env → Cells → Res D
  b : Env → Cells → Res D
  t : Env → Cells → Res Bool
  it : Env → Cells → Res (List D)
  o : Env → Cells → Res (Option Int)
  as : Env → Cells → Res (List D)
  bs : Env → Cells → Res (List D)
  c : Env → Cells → Res Bool
  f : Str → Env → Cells → Res Str
def ofVB (f g : Env → Cells → Res D) : Den where
  v := f
  b := g
  t := fun ρ cs => (f ρ cs).bind fun x cs => truth x cs
  it := fun ρ cs => (f ρ cs).bind fun x cs => ofRes cs (items x)
  o := fun ρ cs => (f ρ cs).bind fun x cs => (match x with
    | .int i => .ok (some i) cs
    | _ => .bad)
  as := fun _ _ => .bad
  bs := fun _ _ => .bad
  c := fun ρ cs => (f ρ cs).bind fun x cs => truth x cs
  f := fun _ _ _ => .bad
abbrev ofV (f : Env → Cells → Res D) : Den := ofVB f f
/-- a value that is a test of its own kind -/
def ofVT (f : Env → Cells → Res D) (t : Env → Cells → Res Bool) : Den := { ofVB f f with t := t, c := t }
def noDen : Den := ofV fun _ _ => .bad
def den : Ex → Den
  | .var i => ofVB (fun ρ cs => ofRes cs (getV ρ i)) (fun ρ cs => ofRes cs (getB ρ i))
  | .int i => ofV fun _ cs => .ok (.int i) cs
  | .str x => ofV fun _ cs => .ok (.str x) cs
  | .bl b => ofV fun _ cs => .ok (.bl b) cs
  | .non => ofV fun _ cs => .ok .non cs
  | .glob j => ofV fun _ cs => ofRes cs T.consts[j]?
  | .bin op a b => ofV fun ρ cs => ((den a).v ρ cs).bind fun x cs => ((den b).v ρ cs).bind fun y cs => binD T O op x y cs
  | .neg a => ofV fun ρ cs => ((den a).v ρ cs).bind fun x cs => (match x with
    | .int i => .ok (.int (-i)) cs
    | _ => .bad)
  | .not a => ofVT (fun ρ cs => ((den a).v ρ cs).bind fun x cs => (truth x cs).bind fun b cs => .ok (.bl (!b)) cs) (fun ρ cs => ((den a).t ρ cs).bind fun b cs => .ok (!b) cs)
  | .inv a => ofV fun ρ cs => ((den a).v ρ cs).bind fun x cs => callM T O nInv x [] cs
  | .and a b => ofVT (fun ρ cs => ((den a).v ρ cs).bind fun x cs => (truth x cs).bind fun k cs => if k = true then (den b).v ρ cs else .ok x cs) (fun ρ cs => ((den a).t ρ cs).bind fun k cs => if k = true then (den b).t ρ cs else .ok false cs)
  | .or a b => ofVT (fun ρ cs => ((den a).v ρ cs).bind fun x cs => (truth x cs).bind fun k cs => if k = true then .ok x cs else (den b).v ρ cs) (fun ρ cs => ((den a).t ρ cs).bind fun k cs => if k = true then .ok true cs else (den b).t ρ cs)
  | .cmp op a b => ofV fun ρ cs => ((den a).v ρ cs).bind fun x cs => ((den b).v ρ cs).bind fun y cs => cmpD T O op x y cs
  | .cmpB op a b => ofV fun ρ cs => ((den a).b ρ cs).bind fun x cs => ((den b).b ρ cs).bind fun y cs => cmpBD op x y cs
  | .chain o p a b c => ofV fun ρ cs => ((den a).v ρ cs).bind fun x cs => ((den b).v ρ cs).bind fun y cs => (cmpD T O o x y cs).bind fun r cs => (match r with
    | .bl true => ((den c).v ρ cs).bind fun z cs => cmpD T O p y z cs
    | .bl false => .ok (.bl false) cs
    | _ => .bad)
  | .isn a => ofV fun ρ cs => ((den a).v ρ cs).bind fun x cs => .ok (.bl (match x with
    | .non => true
    | _ => false)) cs
  | .notn a => ofV fun ρ cs => ((den a).v ρ cs).bind fun x cs => .ok (.bl (match x with
    | .non => false
    | _ => true)) cs
  | .ifx c a b => ofVT (fun ρ cs => ((den c).t ρ cs).bind fun k cs => if k = true then (den a).v ρ cs else (den b).v ρ cs) (fun ρ cs => ((den c).t ρ cs).bind fun k cs => if k = true then (den a).t ρ cs else (den b).t ρ cs)
  | .nil => { noDen with o := fun _ cs => .ok none cs, as := fun _ cs => .ok [] cs, bs := fun _ cs => .ok [] cs, c := fun _ cs => .ok true cs, f := fun acc _ cs => .ok acc cs }
  | .cons a r => { noDen with
      as := fun ρ cs => ((den a).v ρ cs).bind fun x cs => ((den r).as ρ cs).bind fun xs cs => .ok (x :: xs) cs
      bs := fun ρ cs => ((den a).b ρ cs).bind fun x cs => ((den r).bs ρ cs).bind fun xs cs => .ok (x :: xs) cs
      f := fun acc ρ cs => ((den a).v ρ cs).bind fun x cs => (match x with
        | .str y => if (acc ++ y).length ≤ sizeLine then (den r).f (acc ++ y) ρ cs else .bad
        | _ => .bad) }
  | .star a r => { noDen with
      as := fun ρ cs => ((den a).b ρ cs).bind fun x cs => (match seqOf x cs with
        | some ds => ((den r).as ρ cs).bind fun xs cs => .ok (ds ++ xs) cs
        | none => .bad) }
  | .tup as => ofV fun ρ cs => ((den as).as ρ cs).bind fun ds cs => if ds.length ≤ sizeLine then .ok (.tup ds) cs else .bad
  | .lst as => ofV fun ρ cs => ((den as).as ρ cs).bind fun ds cs => if ds.length ≤ sizeLine then .ok (.lst ds) cs else .bad
  | .sub a i => ofV fun ρ cs => ((den a).b ρ cs).bind fun x cs => ((den i).v ρ cs).bind fun y cs => subD T O x y cs
  | .slice a lo hi => ofV fun ρ cs => ((den a).b ρ cs).bind fun x cs => ((den lo).o ρ cs).bind fun l cs => ((den hi).o ρ cs).bind fun h cs => (match deref x cs with
    | .lst ds => .ok (.lst (cutD ds l h)) cs
    | .tup ds => .ok (.tup (cutD ds l h)) cs
    | .scr ds => .ok (.lst (cutD ds l h)) cs
    | _ => .bad)
  | .rev a => ofV fun ρ cs => ((den a).b ρ cs).bind fun x cs => (match deref x cs with
    | .lst ds => .ok (.lst ds.reverse) cs
    | .tup ds => .ok (.tup ds.reverse) cs
    | _ => .bad)
  | .attr a j => ofV fun ρ cs => (baseA a (den a).v ρ cs).bind fun x cs => (match deref x cs with
    | .ins c fs => if okAt T c j = true then ofRes cs (fs.lookup j) else .bad
    | _ => .bad)
  | .prop a j => ofV fun ρ cs => ((den a).v ρ cs).bind fun x cs => (match clsOf x cs with
    | some c => (match (T.cls[c]?).bind fun k => k.props.lookup j with
      | some f => O false f [x] cs
      | none => .bad)
    | none => .bad)
  | .call f as => ofV fun ρ cs => ((den as).as ρ cs).bind fun ds cs => O false f ds cs
  | .callk f as kas perm => ofV fun ρ cs => ((den as).as ρ cs).bind fun ds cs => ((den kas).as ρ cs).bind fun ks cs => (match permD perm (ds ++ ks) with
    | some es => O false f es cs
    | none => .bad)
  | .new c as => ofV fun ρ cs => ((den as).as ρ cs).bind fun ds cs => (match T.cls[c]? with
    | some k => (match k.init with
      | some f => O true f ds cs
      | none => .bad)
    | none => .bad)
  | .newk c as kas perm => ofV fun ρ cs => ((den as).as ρ cs).bind fun ds cs => ((den kas).as ρ cs).bind fun ks cs => (match permD perm (ds ++ ks) with
    | some es => (match T.cls[c]? with
      | some k => (match k.init with
        | some f => O true f es cs
        | none => .bad)
      | none => .bad)
    | none => .bad)
  | .meth m o as => ofV fun ρ cs => ((den o).v ρ cs).bind fun x cs => (match methF T m x cs with
    | some f => ((den as).as ρ cs).bind fun ds cs => O false f (x :: ds) cs
    | none => .bad)
  | .methk m o as kas perm => ofV fun ρ cs => ((den o).v ρ cs).bind fun x cs => (match methF T m x cs with
    | some f => ((den as).as ρ cs).bind fun ds cs => ((den kas).as ρ cs).bind fun ks cs => (match permD perm (ds ++ ks) with
      | some es => O false f (x :: es) cs
      | none => .bad)
    | none => .bad)
  | .blt b as => ofV fun ρ cs => ((den as).bs ρ cs).bind fun ds cs => bltD T O b ds cs
  | .isi a ts => ofV fun ρ cs => ((den a).v ρ cs).bind fun x cs => isiD T ts x cs
  | .fmt a => ofV fun ρ cs => ((den a).v ρ cs).bind fun x cs => fmtD x cs
  | .fstr as => ofV fun ρ cs => ((den as).f Str.empty ρ cs).bind fun x cs => .ok (.str x) cs
  | .join a b => ofV fun ρ cs => ((den a).v ρ cs).bind fun x cs => (match x with
    | .str s => ((den b).b ρ cs).bind fun y cs => joinD s y cs
    | _ => .bad)
  | .split a b => ofV fun ρ cs => ((den a).v ρ cs).bind fun x cs => (match x with
    | .str s => ((den b).v ρ cs).bind fun y cs => splitD s y cs
    | _ => .bad)
  | .comp elt tg one src cond => ofV fun ρ cs => ((den src).it ρ cs).bind fun xs cs => (compF (turnD tg one (den cond).c (den elt).v ρ) [] xs cs).bind fun ds cs => .ok (.lst ds) cs
  | .rng a => { noDen with it := fun ρ cs => ((den a).v ρ cs).bind rngD }
  | .rng2 a b => { noDen with it := fun ρ cs => ((den a).v ρ cs).bind fun x cs => ((den b).v ρ cs).bind fun y cs => rng2D x y cs }
  | .enum a => { noDen with it := fun ρ cs => ((den a).v ρ cs).bind fun x cs => ofRes cs ((items x).map (enumD 0)) }
  | .zip a b => { noDen with it := fun ρ cs => ((den a).v ρ cs).bind fun x cs => ((den b).v ρ cs).bind fun y cs => (match items x, items y with
    | some xs, some ys => .ok ((xs.zip ys).map fun p => .tup [p.1, p.2]) cs
    | _, _ => .bad) }
/-! ### statements -/
inductive Flw where
  | nx (ρ : Env) | ret (d : D) | brk (ρ : Env) | cnt (ρ : Env)
def putA (j : Nat) (d : D) : List (Nat × D) → List (Nat × D)
  | [] => [(j, d)]
  | (k, x) :: r => if k = j then (k, d) :: r else (k, x) :: putA j d r
def setIt (ds : List D) (k : Int) (d : D) : Option (List D) := (ixN ds.length k).map fun j => ds.set j d
/-- what comes behind a statement, where it goes on -/
def thenF (k : Env → Cells → Res Flw) (f : Flw) (cs : Cells) : Res Flw := match f with
  | .nx ρ => k ρ cs
  | f => .ok f cs
@[simp] theorem thenF_nx (k : Env → Cells → Res Flw) (ρ : Env) (cs : Cells) : thenF k (.nx ρ) cs = k ρ cs := (rfl)
@[simp] theorem thenF_ret (k : Env → Cells → Res Flw) (d : D) (cs : Cells) : thenF k (.ret d) cs = .ok (.ret d) cs := (rfl)
@[simp] theorem thenF_brk (k : Env → Cells → Res Flw) (d : Env) (cs : Cells) : thenF k (.brk d) cs = .ok (.brk d) cs := (rfl)
@[simp] theorem thenF_cnt (k : Env → Cells → Res Flw) (d : Env) (cs : Cells) : thenF k (.cnt d) cs = .ok (.cnt d) cs := (rfl)
def forL (body : Env → Cells → Res Flw) (tg : List Nat) (one : Bool) : List D → Env → Cells → Res Flw
  | [], ρ, cs => .ok (.nx ρ) cs
  | x :: xs, ρ, cs => match setTg tg one x ρ with
    | none => .bad
    | some ρ => (body ρ cs).bind fun f cs => match f with
      | .nx ρ => forL body tg one xs ρ cs
      | .cnt ρ => forL body tg one xs ρ cs
      | .brk ρ => .ok (.nx ρ) cs
      | .ret d => .ok (.ret d) cs
def forF (body : Env → Cells → Res Flw) (tg : List Nat) (one : Bool) (xs : List D) (ρ : Env) (cs : Cells) (_w : Fx body := .mk) : Res Flw := forL body tg one xs ρ cs
def whileL (test : Env → Cells → Res Bool) (body : Env → Cells → Res Flw) : Nat → Env → Cells → Res Flw
  | 0, _, _ => .bad
  | n + 1, ρ, cs => (test ρ cs).bind fun t cs => if t then (body ρ cs).bind fun f cs => (match f with
      | .nx ρ => whileL test body n ρ cs
      | .cnt ρ => whileL test body n ρ cs
      | .brk ρ => .ok (.nx ρ) cs
      | .ret d => .ok (.ret d) cs) else .ok (.nx ρ) cs
def whileF (test : Env → Cells → Res Bool) (body : Env → Cells → Res Flw) (n : Nat) (ρ : Env) (cs : Cells) (_w : Fx test := .mk) (_u : Fx body := .mk) : Res Flw := whileL test body n ρ cs
def turns : Nat := 1000000
def sm : Sm → Env → Cells → Res Flw
  | .skip, ρ, cs => .ok (.nx ρ) cs
  | .seq a b, ρ, cs => (sm a ρ cs).bind (thenF fun ρ cs => sm b ρ cs)
  | .frz i b, ρ, cs => match ρ[i]? with
    | some (.own d) => sm b (ρ.set i (.val d)) cs
    | _ => sm b ρ cs
  | .set i e, ρ, cs => ((den T O e).v ρ cs).bind fun d cs => if i < ρ.length then .ok (.nx (ρ.set i (.val d))) cs else .bad
  | .own i as, ρ, cs => ((den T O as).as ρ cs).bind fun ds cs => if ds.length ≤ sizeLine ∧ i < ρ.length then .ok (.nx (ρ.set i (.own (.lst ds)))) cs else .bad
  | .setT is e, ρ, cs => ((den T O e).v ρ cs).bind fun d cs => (match setTg is false d ρ with
    | some ρ => .ok (.nx ρ) cs
    | none => .bad)
  | .par is as, ρ, cs => ((den T O as).as ρ cs).bind fun ds cs => (match setAll is ds ρ with
    | some ρ => .ok (.nx ρ) cs
    | none => .bad)
  | .setA i j e, ρ, cs => ((den T O e).v ρ cs).bind fun d cs => (match ρ[i]? with
      | some (.own (.ins c fs)) => if okAt T c j = true ∧ fs.length < 1000 then .ok (.nx (ρ.set i (.own (.ins c (putA j d fs))))) cs else .bad
      | some (.val (.cell n)) => (match cs[n]? with
        | some (.ins c fs) => if okAt T c j = true ∧ fs.length < 1000 then .ok (.nx ρ) (cs.set n (.ins c (putA j d fs))) else .bad
        | _ => .bad)
      | _ => .bad)
  | .setI v i e, ρ, cs => ((den T O e).v ρ cs).bind fun d cs => (match ρ[v]? with
    | some (.own (.lst ds)) => ((den T O i).v ρ cs).bind fun k cs => (match k with
      | .int k => (match setIt ds k d with
        | some ds => .ok (.nx (ρ.set v (.own (.lst ds)))) cs
        | none => .bad)
      | _ => .bad)
    | some (.val (.cell n)) => ((den T O i).v ρ cs).bind fun k cs => (match k with
      | .int k => (match cs[n]? with
        | some (.lst ds) => (match setIt ds k d with
          | some ds => .ok (.nx ρ) (cs.set n (.lst ds))
          | none => .bad)
        | _ => .bad)
      | _ => .bad)
    | _ => .bad)
  | .aug i op e, ρ, cs => (match getV ρ i with
    | some x => ((den T O e).v ρ cs).bind fun y cs => (augD T O op x y cs).bind fun d cs => .ok (.nx (ρ.set i (.val d))) cs
    | none => .bad)
  | .ex e, ρ, cs => ((den T O e).v ρ cs).bind fun _ cs => .ok (.nx ρ) cs
  | .app i e, ρ, cs => (match ρ[i]? with
    | some (.own (.lst ds)) => ((den T O e).v ρ cs).bind fun d cs => if ds.length < sizeLine then .ok (.nx (ρ.set i (.own (.lst (ds ++ [d]))))) cs else .bad
    | _ => .bad)
  | .ext i e, ρ, cs => (match ρ[i]? with
    | some (.own (.lst ds)) => ((den T O e).v ρ cs).bind fun d cs => (match items d with
      | some es => if ds.length + es.length ≤ sizeLine then .ok (.nx (ρ.set i (.own (.lst (ds ++ es))))) cs else .bad
      | none => .bad)
    | _ => .bad)
  | .ite c a b, ρ, cs => ((den T O c).t ρ cs).bind fun t cs => if t then sm a ρ cs else sm b ρ cs
  | .for_ tg one src body, ρ, cs => ((den T O src).it ρ cs).bind fun xs cs => forF (fun ρ cs => sm body ρ cs) tg one xs ρ cs
  | .while_ c body, ρ, cs => whileF (fun ρ cs => (den T O c).t ρ cs) (fun ρ cs => sm body ρ cs) turns ρ cs
  | .ret e, ρ, cs => ((den T O e).v ρ cs).bind fun d cs => .ok (.ret d) cs
  | .retC as, ρ, cs => ((den T O as).as ρ cs).bind fun ds cs => if ds.length ≤ sizeLine then .ok (.ret (.cell cs.length)) (cs ++ [.lst ds]) else .bad
  | .brk, ρ, cs => .ok (.brk ρ) cs
  | .cnt, ρ, cs => .ok (.cnt ρ) cs
  | .never, _, _ => .bad
end
def endF : Flw → Cells → Res D
  | .nx _, cs => .ok .non cs
  | .ret d, cs => .ok d cs
  | _, _ => .bad
/-- behind an __init__: what was made -/
def endI (mutb : Bool) : Flw → Cells → Res D
  | .nx ρ, cs => (match ρ[0]? with
    | some (Slot.own (D.ins c fs)) => if mutb then .ok (.cell cs.length) (cs ++ [.ins c fs]) else .ok (.ins c fs) cs
    | _ => .bad)
  | _, _ => .bad
def mutOf (T : Tab) (c : Nat) : Bool := match T.cls[c]? with
  | some k => k.mutb
  | none => false
/-- a function's call, so many calls deep -/
def run (T : Tab) : Nat → Orc
  | 0, _, _, _, _ => .bad
  | k + 1, false, f, args, cs => (match T.fns[f]? with
    | none => .bad
    | some F => (match F.ini with
      | some _ => .bad
      | none => (match freshE F (fillD F args) with
        | none => .bad
        | some ρ => (sm T (run T k) F.body ρ cs).bind endF)))
  | k + 1, true, f, args, cs => (match T.fns[f]? with
    | none => .bad
    | some F => (match F.ini with
      | none => .bad
      | some c => (match freshI F c (fillD { F with np := F.np - 1 } args) with
        | none => .bad
        | some ρ => (sm T (run T k) F.body ρ cs).bind (endI (mutOf T c)))))
end Dv
end
section
set_option Elab.async false
set_option linter.all false
set_option maxRecDepth 100000
set_option maxHeartbeats 4000000
/-! x != y where the class of x has its own __eq__ and object's __ne__. -/
namespace Dv
open PySem PySem.Spec PySem.Calls PyProof.Rows
section
variable {prog : Program} {w : World} {A : Around} {E : Value → Shared → Prop} {s : Shared} {K : PySem.W.Frag} {x C L f : Addr} {h₀ : Heap} {m : Str → Option Value} {ox : Obj} {od : Option Obj} {b tb : Value}
theorem ifBoundB {M : Model} {name : Str} {id T : String} {args : List Value} {Q : Option Value → Shared → Prop} (X : K.In s.heap) (I : PySem.W.InstAt s.heap x ox C od) (hs : PySem.W.findIn K (.ref C) name = some (some (.builtin id))) (S : PySem.Slot T name id)
    (h : wpAny M A (call (.builtin id) (.ref x :: args)) (fun v => Q (some v)) E s) : wpAny M A (callSpecialIfBound? (.ref x) name args) Q E s := by
  simp only [callSpecialIfBound?, bindSpecialIfBound?]
  refine wpAny_holding (wpAny_bind (wpAny_bind (wpAny_bind (I.type.here ((PySem.W.looks_findIn X hs).here ?_)))))
  simp only [S.bind]
  refine wpAny_bind (wpAny_askSetting (wpAny_ite ?_))
  have fin : wpAny M A (call (.builtin id) ([.ref x] ++ args) >>= fun v => pure (some v)) Q E s := wpAny_bind (wpAny_mono h (fun v s' h' => wpAny_pure h') fun _ _ h' => h')
  split
  · exact wpAny_bind (wpAny_pure (wpAny_pure fin))
  · exact wpAny_tryCatch (wpAny_bind (wpAny_pure (wpAny_pure fin)))
theorem check_own {M : Model} {id owner n : String} {rest : List Value} {Q : Unit → Shared → Prop} (X : K.In s.heap) (I : PySem.W.InstAt s.heap x ox C od) (hk : builtinKind id = some .slot) (hs : splitId id = some (owner, n))
    (ha : argsOk id ⟨.ref x :: rest, []⟩) (hm : PySem.W.mroIn K C (.type owner) = some true) (hq : Q () s) : wpAny M A (checkBuiltinCall id ⟨.ref x :: rest, []⟩) Q E s := by
  simp only [checkBuiltinCall, hk, hs]
  refine wpAny_bind ?_
  have L1 : PySem.W.Looks M s.heap (isInstance (.ref x) (.type owner)) true := I.type.andThen (PySem.W.looks_mroIn X hm)
  refine L1.here ?_
  rw [if_neg (by simp)]
  cases hsig : Manifest.signature? id with
  | none => exact wpAny_pure hq
  | some sig =>
    simp only [argsOk, hsig] at ha
    have h2 : Bind.checkArgs id sig ⟨.ref x :: rest, []⟩ = pure () := ha
    show wpAny M A (Bind.checkArgs id sig ⟨.ref x :: rest, []⟩) Q E _
    rw [h2]; exact wpAny_pure hq
/-- richCompare .NotEq: __eq__'s answer, turned -/
theorem ne_K {Q : Value → Shared → Prop} (hu : A.units + 1 < cLine) (X : K.In s.heap) (I : PySem.W.InstAt s.heap x ox C od) (hb : PySem.W.Looks (model prog w) s.heap (typeOf b) tb) (hn : PySem.W.notFirst K C tb = true)
    (hs : PySem.W.findIn K (.ref C) "__eq__" = some (some (.ref f))) (hf : PySem.W.isFn K (.ref f) = true) (hne : PySem.W.findIn K (.ref C) "__ne__" = some (some (.builtin "object.__ne__"))) (hm : PySem.W.mroIn K C (.type "object") = some true)
    (h : wpAny (model prog w) A.in1 (call (.ref f) [.ref x, b]) (fun v s' => ∃ k : Bool, v = .bool k ∧ Q (.bool (!k)) s') E s) : wpAny (model prog w) A (richCompare .NotEq (.ref x) b) Q E s := by
  have entry : wpAny (model prog w) A.in1 (Builtin.«object.__ne__» ⟨[.ref x, b], []⟩) (fun fin s' => ∃ v, fin = .done (.ret v) ∧ v ≠ .notImplemented ∧ Q v s') E s := by
    unfold Builtin.«object.__ne__»
    have sp : wpAny (model prog w) A.in1 (callSpecialIfBound? (.ref x) "__eq__" [b]) (fun r s' => ∃ k : Bool, r = some (.bool k) ∧ Q (.bool (!k)) s') E s := by
      refine PySem.W.ifBound_K X I hs hf (wpAny_mono h (fun v s' hv => ?_) fun _ _ e => e)
      obtain ⟨k, rfl, q⟩ := hv
      exact ⟨k, rfl, q⟩
    refine wpAny_bind (wpAny_of_eq (show _ = pure _ from rfl) ?_)
    refine wpAny_bind (wpAny_cRoomFor (by exact hu) ?_)
    refine wpAny_bind (wpAny_mono sp (fun r s' hr => ?_) fun _ _ e => e)
    obtain ⟨k, rfl, q⟩ := hr
    refine wpAny_bind (wpAny_truthy_bool ?_)
    exact wpAny_pure ⟨_, rfl, (fun z => nomatch z), q⟩
  have one : wpAny (model prog w) A (tryCompare (.ref x) "__ne__" b) (fun r s' => ∃ v, r = some v ∧ Q v s') E s := by
    unfold tryCompare
    refine wpAny_bind (ifBoundB X I hne F.cmp_object.ne (wpAny_call (codeAny_call_builtin F.cmp_object.ne.plain F.cmpEntry_ne (check_own X I F.cmpKind_ne F.cmpSplit_ne (F.cmpArgs_ne _ _) hm ?_))))
    refine wpAny_mono entry (fun fin s' z => ?_) fun _ _ e => e
    obtain ⟨v, rfl, hv, q⟩ := z
    show wpAny (model prog w) A (match some v with
      | some .notImplemented => pure none
      | none => pure none
      | some v => pure (some v)) _ E s'
    cases v <;> first | exact absurd rfl hv | exact wpAny_pure ⟨_, rfl, q⟩
  unfold richCompare
  simp only [oneThing_ref]
  refine wpAny_holding (wpAny_bind (wpAny_cRoomFor (Nat.lt_of_succ_lt hu) ?_))
  refine wpAny_bind (I.type.here (wpAny_bind (hb.here ?_)))
  split
  · rename_i q
    have e : PySem.W.subIn K tb (.ref C) = some false := by
      rcases Bool.or_eq_true_iff.mp hn with e | e
      · rw [beq_iff_eq.mp e] at q; simp at q
      · exact beq_iff_eq.mp e
    refine wpAny_bind ((PySem.W.looks_subIn X e).here ?_)
    simp only [Bool.false_eq_true, if_false]
    refine wpAny_bind (wpAny_mono one (fun r s' z => ?_) fun _ _ e => e)
    obtain ⟨v, rfl, hq⟩ := z
    exact wpAny_pure hq
  · refine wpAny_bind (wpAny_pure ?_)
    simp only [Bool.false_eq_true, if_false]
    refine wpAny_bind (wpAny_mono one (fun r s' z => ?_) fun _ _ e => e)
    obtain ⟨v, rfl, hq⟩ := z
    exact wpAny_pure hq
end
end Dv
end
section
set_option Elab.async false
set_option linter.all false
set_option maxRecDepth 100000
set_option maxHeartbeats 4000000
namespace Dv
open PySem L2
/-! ### how data lie in the heap -/
/-- the ghost: which objects never change any more; where the cells stand -/
structure Gh where
  fz : Addr → Prop
  io : List Addr
/-- the text's own: where its classes stand, what its attributes are called -/
structure Nm where
  ca : Nat → Addr
  at_ : Nat → Str
  fa : Nat → Addr
  mt : Nat → Str
  kw : Nat → Nat → List Str → List Nat → Bool
section
variable (K : PySem.W.Frag) (nm : Nm)
mutual
inductive Rep (g : Gh) (H : Hp) : D → V → Prop
  | non : Rep g H .non .non
  | bl (b : Bool) : Rep g H (.bl b) (.bl b)
  | int (i : Int) : Rep g H (.int i) (.int i)
  | str (x : Str) : Rep g H (.str x) (.str x)
  | tup {a : Addr} {vs : List V} {ds : List D} : g.fz a → H a = some (.tup vs) → Reps g H ds vs → Rep g H (.tup ds) (.ref a)
  | tupK {a : Addr} {vs : List V} {ds : List D} : (∀ H, SqT K H a vs) → Reps g H ds vs → Rep g H (.tup ds) (.ref a)
  | lst {a : Addr} {vs : List V} {ds : List D} : g.fz a → H a = some (.lst vs) → Reps g H ds vs → Rep g H (.lst ds) (.ref a)
  | scr {a : Addr} {o : Obj} {vs : List V} {ds : List D} : g.fz a → H a = some (.frz o (.lst vs)) → Reps g H ds vs → Rep g H (.scr ds) (.ref a)
  | scrK {a : Addr} {vs : List V} {ds : List D} : (∀ H, SqL K H a vs) → Reps g H ds vs → Rep g H (.scr ds) (.ref a)
  | ins {a dx : Addr} {c : Nat} {fs : List (Nat × D)} {vs : List (Str × V)} : g.fz a → H a = some (.ins (nm.ca c) dx vs) → Repf g H fs vs → Rep g H (.ins c fs) (.ref a)
  | cell {n : Nat} {a : Addr} : g.io[n]? = some a → Rep g H (.cell n) (.ref a)
inductive Reps (g : Gh) (H : Hp) : List D → List V → Prop
  | nil : Reps g H [] []
  | cons {d : D} {v : V} {ds : List D} {vs : List V} : Rep g H d v → Reps g H ds vs → Reps g H (d :: ds) (v :: vs)
inductive Repf (g : Gh) (H : Hp) : List (Nat × D) → List (Str × V) → Prop
  | nil : Repf g H [] []
  | cons {j : Nat} {d : D} {v : V} {fs : List (Nat × D)} {vs : List (Str × V)} : Rep g H d v → Repf g H fs vs → Repf g H ((j, d) :: fs) ((nm.at_ j, v) :: vs)
end
/-- what is there later: more objects, more cells; only cells have changed -/
structure Ext (g : Gh) (H : Hp) (g' : Gh) (H' : Hp) : Prop where
  io : ∃ t, g'.io = g.io ++ t ∧ ∀ a ∈ t, H a = none
  fz : ∀ a, g.fz a → g'.fz a
  fzn : ∀ a, g'.fz a → g.fz a ∨ H a = none
  keep : ∀ a o, H a = some o → a ∉ g.io → H' a = some o
  there : ∀ a, H' a = none → H a = none
end
section
variable {K : PySem.W.Frag} {nm : Nm} {g g' g2 : Gh} {H H' H2 : Hp}
theorem Ext.refl : Ext g H g H := ⟨⟨[], by simp, by simp⟩, fun _ h => h, fun _ h => .inl h, fun _ _ h _ => h, fun _ h => h⟩
theorem Ext.trans (e : Ext g H g' H') (f : Ext g' H' g2 H2) : Ext g H g2 H2 := by
  obtain ⟨t, e1, e2⟩ := e.io
  obtain ⟨u, f1, f2⟩ := f.io
  refine ⟨⟨t ++ u, by rw [f1, e1, List.append_assoc], fun a ha => ?_⟩, fun a h => f.fz a (e.fz a h), fun a h => ?_, fun a o h n => ?_, fun a h => e.there a (f.there a h)⟩
  · rcases List.mem_append.mp ha with h | h
    · exact e2 a h
    · exact e.there a (f2 a h)
  · rcases f.fzn a h with h | h
    · exact e.fzn a h
    · exact .inr (e.there a h)
  · have h1 := e.keep a o h n
    refine f.keep a o h1 fun hm => ?_
    rw [e1] at hm
    rcases List.mem_append.mp hm with q | q
    · exact n q
    · have := e2 a q
      rw [h] at this
      cases this
/-- the ghost goes with the heap -/
structure GOk (g : Gh) (H : Hp) : Prop where
  fzt : ∀ a, g.fz a → H a ≠ none
  iot : ∀ a ∈ g.io, H a ≠ none
  dis : ∀ a ∈ g.io, ¬ g.fz a
  nd : g.io.Nodup
theorem Ext.ioGet (e : Ext g H g' H') {n : Nat} {a : Addr} (h : g.io[n]? = some a) : g'.io[n]? = some a := by
  obtain ⟨t, e1, _⟩ := e.io
  rw [e1]
  have hn : n < g.io.length := by
    rcases Nat.lt_or_ge n g.io.length with q | q
    · exact q
    · rw [List.getElem?_eq_none q] at h
      cases h
  rw [List.getElem?_append_left hn, h]
theorem Ext.kf (e : Ext g H g' H') (ok : GOk g H) {a : Addr} {o : HO} (h : g.fz a) (q : H a = some o) : H' a = some o := e.keep a o q fun hm => ok.dis a hm h
mutual
theorem Rep.mono (e : Ext g H g' H') (ok : GOk g H) : ∀ {d : D} {v : V}, Rep K nm g H d v → Rep K nm g' H' d v
  | _, _, .non => .non
  | _, _, .bl b => .bl b
  | _, _, .int i => .int i
  | _, _, .str x => .str x
  | _, _, .tup h1 h2 h3 => .tup (e.fz _ h1) (e.kf ok h1 h2) (Reps.mono e ok h3)
  | _, _, .tupK h1 h3 => .tupK h1 (Reps.mono e ok h3)
  | _, _, .lst h1 h2 h3 => .lst (e.fz _ h1) (e.kf ok h1 h2) (Reps.mono e ok h3)
  | _, _, .scr h1 h2 h3 => .scr (e.fz _ h1) (e.kf ok h1 h2) (Reps.mono e ok h3)
  | _, _, .scrK h1 h3 => .scrK h1 (Reps.mono e ok h3)
  | _, _, .ins h1 h2 h3 => .ins (e.fz _ h1) (e.kf ok h1 h2) (Repf.mono e ok h3)
  | _, _, .cell h => .cell (e.ioGet h)
theorem Reps.mono (e : Ext g H g' H') (ok : GOk g H) : ∀ {ds : List D} {vs : List V}, Reps K nm g H ds vs → Reps K nm g' H' ds vs
  | _, _, .nil => .nil
  | _, _, .cons h t => .cons (Rep.mono e ok h) (Reps.mono e ok t)
theorem Repf.mono (e : Ext g H g' H') (ok : GOk g H) : ∀ {fs : List (Nat × D)} {vs : List (Str × V)}, Repf K nm g H fs vs → Repf K nm g' H' fs vs
  | _, _, .nil => .nil
  | _, _, .cons h t => .cons (Rep.mono e ok h) (Repf.mono e ok t)
end
theorem Reps.length : ∀ {ds : List D} {vs : List V}, Reps K nm g H ds vs → ds.length = vs.length
  | _, _, .nil => rfl
  | _, _, .cons _ t => by rw [List.length_cons, List.length_cons, t.length]
theorem Reps.append : ∀ {ds es : List D} {vs ws : List V}, Reps K nm g H ds vs → Reps K nm g H es ws → Reps K nm g H (ds ++ es) (vs ++ ws)
  | _, _, _, _, .nil, q => q
  | _, _, _, _, .cons h t, q => .cons h (t.append q)
theorem Reps.get : ∀ {ds : List D} {vs : List V} {i : Nat} {d : D}, Reps K nm g H ds vs → ds[i]? = some d → ∃ v, vs[i]? = some v ∧ Rep K nm g H d v
  | _, _, _, _, .nil, h => by simp at h
  | _, _, 0, _, .cons h t, e => by simp at e; subst e; exact ⟨_, rfl, h⟩
  | _, _, i + 1, _, .cons h t, e => by
    obtain ⟨v, h1, h2⟩ := Reps.get (i := i) t (by simpa using e)
    exact ⟨v, by simpa using h1, h2⟩
theorem Reps.take : ∀ {ds : List D} {vs : List V} (n : Nat), Reps K nm g H ds vs → Reps K nm g H (ds.take n) (vs.take n)
  | _, _, 0, _ => .nil
  | _, _, _ + 1, .nil => .nil
  | _, _, n + 1, .cons h t => .cons h (t.take n)
theorem Reps.drop : ∀ {ds : List D} {vs : List V} (n : Nat), Reps K nm g H ds vs → Reps K nm g H (ds.drop n) (vs.drop n)
  | _, _, 0, h => h
  | _, _, _ + 1, .nil => .nil
  | _, _, n + 1, .cons h t => t.drop n
theorem Reps.reverse : ∀ {ds : List D} {vs : List V}, Reps K nm g H ds vs → Reps K nm g H ds.reverse vs.reverse
  | _, _, .nil => .nil
  | _, _, .cons h t => by
    rw [List.reverse_cons, List.reverse_cons]
    exact t.reverse.append (.cons h .nil)
theorem Reps.set : ∀ {ds : List D} {vs : List V} (i : Nat) {d : D} {v : V}, Reps K nm g H ds vs → Rep K nm g H d v → Reps K nm g H (ds.set i d) (vs.set i v)
  | _, _, _, _, _, .nil, _ => .nil
  | _, _, 0, _, _, .cons _ t, r => .cons r t
  | _, _, i + 1, _, _, .cons h t, r => .cons h (t.set i r)
theorem Repf.length : ∀ {fs : List (Nat × D)} {vs : List (Str × V)}, Repf K nm g H fs vs → fs.length = vs.length
  | _, _, .nil => rfl
  | _, _, .cons _ t => by rw [List.length_cons, List.length_cons, t.length]
/-- the attributes' names are unlike -/
def NmOk (nm : Nm) : Prop := ∀ i j, nm.at_ i = nm.at_ j → i = j
theorem Repf.look (hn : NmOk nm) : ∀ {fs : List (Nat × D)} {vs : List (Str × V)} {j : Nat} {d : D}, Repf K nm g H fs vs → fs.lookup j = some d → ∃ v, vs.lookup (nm.at_ j) = some v ∧ Rep K nm g H d v
  | _, _, _, _, .nil, h => by simp at h
  | (i, x) :: fs, (_, v) :: vs, j, d, .cons h t, e => by
    by_cases q : j = i
    · subst q
      simp [List.lookup] at e
      subst e
      exact ⟨v, by simp [List.lookup], h⟩
    · have e2 : (j == i) = false := beq_eq_false_iff_ne.mpr q
      have e3 : (nm.at_ j == nm.at_ i) = false := beq_eq_false_iff_ne.mpr fun z => q (hn j i z)
      simp only [List.lookup, e2] at e
      simp only [List.lookup, e3]
      exact Repf.look hn t e
theorem Repf.put (hn : NmOk nm) : ∀ {fs : List (Nat × D)} {vs : List (Str × V)} {j : Nat} {d : D} {v : V}, Repf K nm g H fs vs → Rep K nm g H d v → Repf K nm g H (putA j d fs) (putF (nm.at_ j) v vs)
  | _, _, _, _, _, .nil, r => .cons r .nil
  | (i, x) :: fs, (_, y) :: vs, j, d, v, .cons h t, r => by
    by_cases q : i = j
    · subst q
      simp only [putA, putF, if_true]
      exact .cons r t
    · have e3 : ¬ nm.at_ i = nm.at_ j := fun z => q (hn i j z)
      simp only [putA, putF, if_neg q, if_neg e3]
      exact .cons h (Repf.put hn t r)
/-- attributes' names from a list; beyond it names that no text has -/
def mkAt (l : List Str) (j : Nat) : Str := l.getD j ⟨#[1114112 + j]⟩
theorem mkAt_inj {l : List Str} {ca fa : Nat → Addr} {mt : Nat → Str} {kw : Nat → Nat → List Str → List Nat → Bool} (h : l.Nodup) (h2 : ∀ x ∈ l, x.cps.all (· < 1114112) = true) : NmOk ⟨ca, mkAt l, fa, mt, kw⟩ := by
  have old : ∀ i, i < l.length → mkAt l i ∈ l := fun i hi => by
    unfold mkAt
    rw [List.getD_eq_getElem?_getD, List.getElem?_eq_getElem hi]
    exact List.getElem_mem hi
  have new : ∀ i, l.length ≤ i → mkAt l i = ⟨#[1114112 + i]⟩ := fun i hi => by
    unfold mkAt
    rw [List.getD_eq_getElem?_getD, List.getElem?_eq_none hi]
    rfl
  have bad : ∀ i, (⟨#[1114112 + i]⟩ : Str) ∉ l := fun i hm => by
    have := h2 _ hm
    simp at this
    omega
  intro i j e
  show i = j
  have e : mkAt l i = mkAt l j := e
  rcases Nat.lt_or_ge i l.length with hi | hi
  · rcases Nat.lt_or_ge j l.length with hj | hj
    · unfold mkAt at e
      rw [List.getD_eq_getElem?_getD, List.getElem?_eq_getElem hi, List.getD_eq_getElem?_getD, List.getElem?_eq_getElem hj] at e
      exact (List.getElem_inj h).mp e
    · rw [new j hj] at e
      exact absurd (e ▸ old i hi) (bad j)
  · rcases Nat.lt_or_ge j l.length with hj | hj
    · rw [new i hi] at e
      exact absurd (e ▸ old j hj) (bad i)
    · rw [new i hi, new j hj] at e
      injection e with e
      simp at e
      omega
/-! ### a thing that has one holder alone; cells; a frame's slots -/
/-- at v: data that nobody else holds -/
def Own (K : PySem.W.Frag) (nm : Nm) (g : Gh) (H : Hp) (d : D) (v : V) : Prop := ∃ a, v = .ref a ∧ ¬ g.fz a ∧ a ∉ g.io ∧ match d with
  | .lst ds => ∃ vs, H a = some (.lst vs) ∧ Reps K nm g H ds vs
  | .ins c fs => ∃ dx vs, H a = some (.ins (nm.ca c) dx vs) ∧ Repf K nm g H fs vs
  | _ => False
def CellOk (K : PySem.W.Frag) (nm : Nm) (g : Gh) (H : Hp) (a : Addr) : Cell → Prop
  | .lst ds => ∃ vs, H a = some (.lst vs) ∧ Reps K nm g H ds vs
  | .ins c fs => ∃ dx vs, H a = some (.ins (nm.ca c) dx vs) ∧ Repf K nm g H fs vs
structure CsOk (K : PySem.W.Frag) (nm : Nm) (g : Gh) (H : Hp) (cs : Cells) : Prop where
  ok : GOk g H
  len : cs.length = g.io.length
  at_ : ∀ (n : Nat) (c : Cell) (a : Addr), cs[n]? = some c → g.io[n]? = some a → CellOk K nm g H a c
def SlotOk (K : PySem.W.Frag) (nm : Nm) (g : Gh) (H : Hp) : Slot → Option (Option V) → Prop
  | .emp, _ => True
  | .val d, o => ∃ v, o = some (some v) ∧ Rep K nm g H d v
  | .own d, o => ∃ v, o = some (some v) ∧ Own K nm g H d v
structure EnvOk (K : PySem.W.Frag) (nm : Nm) (g : Gh) (H : Hp) (σ : L2.St) (ρ : Env) : Prop where
  len : σ.length = ρ.length
  sl : ∀ (i : Nat) (s : Slot), ρ[i]? = some s → SlotOk K nm g H s σ[i]?
  ap : ∀ (i j : Nat) (d e : D) (v : V), ρ[i]? = some (.own d) → ρ[j]? = some (.own e) → σ[i]? = some (some v) → σ[j]? = some (some v) → i = j
theorem Own.there {d : D} {a : Addr} (h : Own K nm g H d (.ref a)) : ∃ o, H a = some o := by
  obtain ⟨b, e, _, _, m⟩ := h
  cases e
  cases d with
  | lst ds => obtain ⟨vs, q, _⟩ := m; exact ⟨_, q⟩
  | ins c fs => obtain ⟨dx, vs, q, _⟩ := m; exact ⟨_, q⟩
  | _ => exact m.elim
theorem Own.mono (e : Ext g H g' H') (ok : GOk g H) {d : D} {v : V} (h : Own K nm g H d v) : Own K nm g' H' d v := by
  have h0 := h
  obtain ⟨a, rfl, h1, h2, m⟩ := h
  obtain ⟨o, ho⟩ := h0.there
  refine ⟨a, rfl, fun q => ?_, fun q => ?_, ?_⟩
  · rcases e.fzn a q with z | z
    · exact h1 z
    · rw [ho] at z; cases z
  · obtain ⟨t, e1, e2⟩ := e.io
    rw [e1] at q
    rcases List.mem_append.mp q with z | z
    · exact h2 z
    · rw [e2 a z] at ho; cases ho
  · cases d with
    | lst ds => obtain ⟨vs, q, r⟩ := m; exact ⟨vs, e.keep a _ q h2, r.mono e ok⟩
    | ins c fs => obtain ⟨dx, vs, q, r⟩ := m; exact ⟨dx, vs, e.keep a _ q h2, r.mono e ok⟩
    | _ => exact m.elim
theorem EnvOk.mono {σ : L2.St} {ρ : Env} (e : Ext g H g' H') (ok : GOk g H) (h : EnvOk K nm g H σ ρ) : EnvOk K nm g' H' σ ρ := by
  refine ⟨h.len, fun i s hs => ?_, h.ap⟩
  have := h.sl i s hs
  cases s with
  | emp => exact True.intro
  | val d => obtain ⟨v, q, r⟩ := this; exact ⟨v, q, r.mono e ok⟩
  | own d => obtain ⟨v, q, r⟩ := this; exact ⟨v, q, r.mono e ok⟩
/-- as it stands: a value, or data of one holder -/
def BRep (K : PySem.W.Frag) (nm : Nm) (g : Gh) (H : Hp) (d : D) (v : V) : Prop := Rep K nm g H d v ∨ ((∃ ds, d = .lst ds) ∧ Own K nm g H d v)
theorem BRep.mono (e : Ext g H g' H') (ok : GOk g H) {d : D} {v : V} (h : BRep K nm g H d v) : BRep K nm g' H' d v := by
  rcases h with h | h
  · exact .inl (h.mono e ok)
  · exact .inr ⟨h.1, h.2.mono e ok⟩
/-- a new object that never changes -/
def Gh.add (g : Gh) (a : Addr) : Gh := ⟨fun b => g.fz b ∨ b = a, g.io⟩
theorem ext_new {p : Addr} {o : HO} (h : H p = none) : Ext g H (g.add p) (upd H p o) := by
  refine ⟨⟨[], by simp [Gh.add], by simp⟩, fun a q => .inl q, fun a q => ?_, fun a u q _ => ?_, fun a q => ?_⟩
  · rcases q with q | q
    · exact .inl q
    · subst q; exact .inr h
  · rw [upd_ne (ne_of_none q h)]; exact q
  · by_cases e : a = p
    · subst e; exact h
    · rw [upd_ne e] at q; exact q
theorem gok_new {p : Addr} {o : HO} (h : H p = none) (ok : GOk g H) : GOk (g.add p) (upd H p o) := by
  refine ⟨fun a q => ?_, fun a q => ?_, fun a q z => ?_, ok.nd⟩
  · by_cases e : a = p
    · subst e; rw [upd_same]; simp
    · rw [upd_ne e]
      rcases q with q | q
      · exact ok.fzt a q
      · exact absurd q e
  · by_cases e : a = p
    · subst e; rw [upd_same]; simp
    · rw [upd_ne e]; exact ok.iot a q
  · rcases z with z | z
    · exact ok.dis a q z
    · subst z; exact ok.iot a q h
/-- a new object of which nothing is said yet -/
theorem ext_laid {p : Addr} {o : HO} (h : H p = none) : Ext g H g (upd H p o) := by
  refine ⟨⟨[], by simp, by simp⟩, fun a q => q, fun a q => .inl q, fun a u q _ => ?_, fun a q => ?_⟩
  · rw [upd_ne (ne_of_none q h)]; exact q
  · by_cases e : a = p
    · subst e; exact h
    · rw [upd_ne e] at q; exact q
theorem gok_laid {p : Addr} {o : HO} (h : H p = none) (ok : GOk g H) : GOk g (upd H p o) := by
  have k : ∀ a, H a ≠ none → upd H p o a ≠ none := fun a q => by
    by_cases e : a = p
    · subst e; exact absurd h q
    · rw [upd_ne e]; exact q
  exact ⟨fun a q => k a (ok.fzt a q), fun a q => k a (ok.iot a q), ok.dis, ok.nd⟩
theorem CellOk.mono (e : Ext g H g' H') (ok : GOk g H) {a : Addr} {c : Cell} (k : H' a = H a) (h : CellOk K nm g H a c) : CellOk K nm g' H' a c := by
  cases c with
  | lst ds => obtain ⟨vs, q, r⟩ := h; exact ⟨vs, k.trans q, r.mono e ok⟩
  | ins c fs => obtain ⟨dx, vs, q, r⟩ := h; exact ⟨dx, vs, k.trans q, r.mono e ok⟩
theorem CsOk.new {p : Addr} {o : HO} {cs : Cells} (h : H p = none) (c : CsOk K nm g H cs) : CsOk K nm (g.add p) (upd H p o) cs := by
  refine ⟨gok_new h c.ok, c.len, fun n x a hn ha => (c.at_ n x a hn ha).mono (ext_new h) c.ok ?_⟩
  exact upd_ne fun e => c.ok.iot a (List.mem_of_getElem? ha) (by rw [e]; exact h)
theorem CsOk.laid {p : Addr} {o : HO} {cs : Cells} (h : H p = none) (c : CsOk K nm g H cs) : CsOk K nm g (upd H p o) cs := by
  refine ⟨gok_laid h c.ok, c.len, fun n x a hn ha => (c.at_ n x a hn ha).mono (ext_laid h) c.ok ?_⟩
  exact upd_ne fun e => c.ok.iot a (List.mem_of_getElem? ha) (by rw [e]; exact h)
end
end Dv
end
section
set_option Elab.async false
set_option linter.all false
set_option maxRecDepth 100000
set_option maxHeartbeats 4000000
namespace Dv
open PySem L2
/-! ### what is wanted of a result -/
/-- an error in the air: its class, its own dict -/
def RepE (K : PySem.W.Frag) (nm : Nm) (g : Gh) (H : Hp) (e : D) (cls : Value) (dx : Option Addr) : Prop := match e with
  | .ins c fs => cls = .ref (nm.ca c) ∧ ((fs = [] ∧ dx = none) ∨ ∃ d vs, dx = some d ∧ g.fz d ∧ H d = some (.xd vs) ∧ Repf K nm g H fs vs)
  | _ => False
section
variable (K : PySem.W.Frag) (nm : Nm)
def Post {α β : Type} (W : XK) (R : Gh → Hp → α → β → Prop) (g : Gh) (H : Hp) (r : Res α) (Q : β → Hp → Prop) : Prop := match r with
  | .ok a cs => ∀ b g' H', Ext g H g' H' → CsOk K nm g' H' cs → R g' H' a b → Q b H'
  | .exc e cs => ∀ cls dx g' H', Ext g H g' H' → CsOk K nm g' H' cs → RepE K nm g' H' e cls dx → W cls dx H'
  | .bad => False
/-- a reading by what is meant -/
def tG {α β : Type} (W : XK) (R : Gh → Hp → α → β → Prop) (f : Env → Cells → Res α) : L2.St → Hp → (β → Hp → Prop) → Prop := fun σ H Q => ∃ g ρ cs, EnvOk K nm g H σ ρ ∧ CsOk K nm g H cs ∧ Post K nm W R g H (f ρ cs) Q
abbrev tV (W : XK) (f : Env → Cells → Res D) : TE := tG K nm W (Rep K nm) f
abbrev tBr (W : XK) (f : Env → Cells → Res D) : TE := tG K nm W (BRep K nm) f
abbrev tT (W : XK) (f : Env → Cells → Res Bool) : TT := tG K nm W (fun _ _ a b => a = b) f
abbrev tAs (W : XK) (f : Env → Cells → Res (List D)) : TA := tG K nm W (Reps K nm) f
inductive BReps (g : Gh) (H : Hp) : List D → List V → Prop
  | nil : BReps g H [] []
  | cons {d : D} {v : V} {ds : List D} {vs : List V} : BRep K nm g H d v → BReps g H ds vs → BReps g H (d :: ds) (v :: vs)
abbrev tBs (W : XK) (f : Env → Cells → Res (List D)) : TA := tG K nm W (BReps K nm) f
abbrev tO (W : XK) (f : Env → Cells → Res (Option Int)) : TO := tG K nm W (fun _ _ a b => a = b) f
/-- an operation on two values, by what is meant -/
def rD (W : XK) (Ra Rb : Gh → Hp → D → V → Prop) (h : D → D → Cells → Res D) : R2 := fun x y H Q => ∃ g cs a b, CsOk K nm g H cs ∧ Ra g H a x ∧ Rb g H b y ∧ Post K nm W (Rep K nm) g H (h a b cs) Q
end
section
variable {K : PySem.W.Frag} {nm : Nm} {W : XK} {g g' g2 : Gh} {H H' H2 : Hp} {α β γ δ : Type}
theorem BReps.mono (e : Ext g H g' H') (ok : GOk g H) : ∀ {ds : List D} {vs : List V}, BReps K nm g H ds vs → BReps K nm g' H' ds vs
  | _, _, .nil => .nil
  | _, _, .cons h t => .cons (h.mono e ok) (BReps.mono e ok t)
theorem Post.mono {R : Gh → Hp → α → β → Prop} {r : Res α} {Q : β → Hp → Prop} (h : Post K nm W R g H r Q) (e : Ext g H g' H') : Post K nm W R g' H' r Q := by
  cases r with
  | ok a cs => exact fun b g2 H2 e2 c r => h b g2 H2 (e.trans e2) c r
  | exc d cs => exact fun b dx g2 H2 e2 c r => h b dx g2 H2 (e.trans e2) c r
  | bad => exact h
theorem Post.imp {R : Gh → Hp → α → β → Prop} {r : Res α} {Q Q' : β → Hp → Prop} (h : Post K nm W R g H r Q) (k : ∀ b H', Q b H' → Q' b H') : Post K nm W R g H r Q' := by
  cases r with
  | ok a cs => exact fun b g2 H2 e2 c r => k b H2 (h b g2 H2 e2 c r)
  | exc d cs => exact h
  | bad => exact h
/-- one behind another -/
theorem Post.bind {R : Gh → Hp → α → β → Prop} {S : Gh → Hp → γ → δ → Prop} {r : Res α} {k : α → Cells → Res γ} {Q : δ → Hp → Prop} (h : Post K nm W S g H (r.bind k) Q) :
    Post K nm W R g H r fun b H1 => ∃ a g1 cs1, Ext g H g1 H1 ∧ CsOk K nm g1 H1 cs1 ∧ R g1 H1 a b ∧ Post K nm W S g1 H1 (k a cs1) Q := by
  cases r with
  | ok a cs => exact fun b g1 H1 e c q => ⟨a, g1, cs, e, c, q, Post.mono h e⟩
  | exc d cs => exact h
  | bad => exact h
theorem Post.ok {R : Gh → Hp → α → β → Prop} {a : α} {cs : Cells} {b : β} {Q : β → Hp → Prop} (h : Post K nm W R g H (.ok a cs) Q) (c : CsOk K nm g H cs) (r : R g H a b) : Q b H := h b g H .refl c r
theorem Post.okE {R : Gh → Hp → α → β → Prop} {a : α} {cs : Cells} {b : β} {Q : β → Hp → Prop} (h : Post K nm W R g H (.ok a cs) Q) (e : Ext g H g' H') (c : CsOk K nm g' H' cs) (r : R g' H' a b) : Q b H' := h b g' H' e c r
/-- a reading in a situation -/
theorem tG.of {R : Gh → Hp → α → β → Prop} {f : Env → Cells → Res α} {σ : L2.St} {ρ : Env} {cs : Cells} {Q : β → Hp → Prop} (en : EnvOk K nm g H σ ρ) (c : CsOk K nm g H cs) (h : Post K nm W R g H (f ρ cs) Q) : tG K nm W R f σ H Q := ⟨g, ρ, cs, en, c, h⟩
/-- two readings in a row -/
theorem tG.seq {R : Gh → Hp → α → β → Prop} {S : Gh → Hp → γ → δ → Prop} {f : Env → Cells → Res α} {k : Env → α → Cells → Res γ} {σ : L2.St} {Q : δ → Hp → Prop}
    (h : tG K nm W S (fun ρ cs => (f ρ cs).bind (k ρ)) σ H Q) : tG K nm W R f σ H fun b H1 => ∃ ρ a g1 cs1, EnvOk K nm g1 H1 σ ρ ∧ CsOk K nm g1 H1 cs1 ∧ R g1 H1 a b ∧ Post K nm W S g1 H1 (k ρ a cs1) Q := by
  obtain ⟨g, ρ, cs, en, c, p⟩ := h
  refine ⟨g, ρ, cs, en, c, Post.imp (Post.bind (R := R) p) ?_⟩
  rintro b H1 ⟨a, g1, cs1, e, c1, r, q⟩
  exact ⟨ρ, a, g1, cs1, en.mono e c.ok, c1, r, q⟩
end
/-! ### rules by what they ask -/
theorem _root_.L2.PE.imp {X : Cx} {e : Expr} {t t' : TE} (h : PE X e t) (k : ∀ σ H Q, t' σ H Q → t σ H Q) : PE X e t' := ⟨fun pins s σ H Q I q => h.run pins s σ H Q I (k σ H Q q)⟩
theorem _root_.L2.PT.imp {X : Cx} {e : Expr} {t t' : TT} (h : PT X e t) (k : ∀ σ H Q, t' σ H Q → t σ H Q) : PT X e t' := ⟨fun pins s σ H Q I q => h.run pins s σ H Q I (k σ H Q q)⟩
theorem _root_.L2.PW.imp {X : Cx} {e : Expr} {t t' : TT} (h : PW X e t) (k : ∀ σ H Q, t' σ H Q → t σ H Q) : PW X e t' := ⟨fun wh pins s σ H Q I q => h.run wh pins s σ H Q I (k σ H Q q)⟩
theorem _root_.L2.PA.imp {X : Cx} {e : List Expr} {t t' : TA} (h : PA X e t) (k : ∀ σ H Q, t' σ H Q → t σ H Q) : PA X e t' := ⟨fun pos pins s σ H Q I q => h.run pos pins s σ H Q I (k σ H Q q)⟩
theorem _root_.L2.PO.imp {X : Cx} {e : Option Expr} {t t' : TO} (h : PO X e t) (k : ∀ σ H Q, t' σ H Q → t σ H Q) : PO X e t' := ⟨fun pins s σ H Q I q => h.run pins s σ H Q I (k σ H Q q)⟩
theorem _root_.L2.PS.imp {X : Cx} {e : Stmt} {t t' : TS} (h : PS X e t) (k : ∀ D σ H, t' D σ H → t D σ H) : PS X e t' := ⟨fun pins s σ H D I q => h.run pins s σ H D I (k D σ H q)⟩
theorem _root_.L2.PSs.imp {X : Cx} {e : List Stmt} {t t' : TS} (h : PSs X e t) (k : ∀ D σ H, t' D σ H → t D σ H) : PSs X e t' := ⟨fun pins s σ H D I q => h.run pins s σ H D I (k D σ H q)⟩

section
variable {X : Cx} {nm : Nm} {W : XK} {a b c e : Expr} {fa fb fc : Env → Cells → Res D} {pos : Pos}
/-! ### names and constants -/
theorem d_var {i : Nat} {x : Str} (h : PE X (.Name x pos) (tVar i)) : PE X (.Name x pos) (tV X.K nm W fun ρ cs => ofRes cs (getV ρ i)) := h.imp fun σ H Q q => by
  obtain ⟨g, ρ, cs, en, c, p⟩ := q
  have p : Post X.K nm W (Rep X.K nm) g H (ofRes cs (getV ρ i)) Q := p
  unfold getV at p
  cases e1 : ρ[i]? with
  | none => rw [e1] at p; exact p.elim
  | some s =>
    rw [e1] at p
    have := en.sl i s e1
    cases s with
    | val d =>
      obtain ⟨v, e2, r⟩ := this
      exact ⟨v, e2, Post.ok p c r⟩
    | emp => exact p.elim
    | own d => exact p.elim
theorem d_varB {i : Nat} {x : Str} (h : PE X (.Name x pos) (tVar i)) : PE X (.Name x pos) (tBr X.K nm W fun ρ cs => ofRes cs (getB ρ i)) := h.imp fun σ H Q q => by
  obtain ⟨g, ρ, cs, en, c, p⟩ := q
  have p : Post X.K nm W (BRep X.K nm) g H (ofRes cs (getB ρ i)) Q := p
  unfold getB at p
  cases e1 : ρ[i]? with
  | none => rw [e1] at p; exact p.elim
  | some s =>
    rw [e1] at p
    have := en.sl i s e1
    cases s with
    | val d =>
      obtain ⟨v, e2, r⟩ := this
      exact ⟨v, e2, Post.ok p c (.inl r)⟩
    | emp => exact p.elim
    | own d =>
      obtain ⟨v, e2, r⟩ := this
      cases d with
      | lst ds => exact ⟨v, e2, Post.ok p c (.inr ⟨⟨_, rfl⟩, r⟩)⟩
      | _ => exact p.elim
theorem d_c {v : V} {d : D} (h : PE X e (tC v)) (r : ∀ g H, Rep X.K nm g H d v) : PE X e (tV X.K nm W fun _ cs => .ok d cs) := h.imp fun σ H Q q => by
  obtain ⟨g, ρ, cs, en, c, p⟩ := q
  exact Post.ok p c (r g H)
/-- a value read as it stands -/
theorem d_B (h : PE X e (tV X.K nm W fa)) : PE X e (tBr X.K nm W fa) := h.imp fun σ H Q q => by
  obtain ⟨g, ρ, cs, en, c, p⟩ := q
  refine ⟨g, ρ, cs, en, c, ?_⟩
  have p : Post X.K nm W (BRep X.K nm) g H (fa ρ cs) Q := p
  show Post X.K nm W (Rep X.K nm) g H (fa ρ cs) Q
  cases hr : fa ρ cs with
  | ok a cs' => rw [hr] at p; exact fun b g' H' e1 c1 r => p b g' H' e1 c1 (.inl r)
  | exc d cs' => rw [hr] at p; exact p
  | bad => rw [hr] at p; exact p
/-! ### two operands -/
theorem two {Ra Rb : Gh → Hp → D → V → Prop} {h : D → D → Cells → Res D} (ma : ∀ {g H g' H' d v}, Ext g H g' H' → GOk g H → Ra g H d v → Ra g' H' d v) {σ : L2.St} {H : Hp} {Q : VK}
    (q : tV X.K nm W (fun ρ cs => (fa ρ cs).bind fun x cs => (fb ρ cs).bind fun y cs => h x y cs) σ H Q) : tG X.K nm W Ra fa σ H fun x H1 => tG X.K nm W Rb fb σ H1 fun y H2 => rD X.K nm W Ra Rb h x y H2 Q := by
  obtain ⟨g, ρ, cs, en, c, p⟩ := q
  refine ⟨g, ρ, cs, en, c, (Post.bind (R := Ra) p).imp ?_⟩
  rintro x H1 ⟨dx, g1, cs1, e1, c1, r1, p1⟩
  refine ⟨g1, ρ, cs1, en.mono e1 c.ok, c1, (Post.bind (R := Rb) p1).imp ?_⟩
  rintro y H2 ⟨dy, g2, cs2, e2, c2, r2, p2⟩
  exact ⟨g2, cs2, dx, dy, c2, ma e2 c1.ok r1, r2, p2⟩
theorem d_bin {op : Operator} {h : D → D → Cells → Res D} (ho : OpR X (binaryOp op) (rD X.K nm W (Rep X.K nm) (Rep X.K nm) h)) (ha : PE X a (tV X.K nm W fa)) (hb : PE X b (tV X.K nm W fb)) :
    PE X (.BinOp a op b pos) (tV X.K nm W fun ρ cs => (fa ρ cs).bind fun x cs => (fb ρ cs).bind fun y cs => h x y cs) := (pe_op ho ha hb).imp fun _ _ _ q => two (fun e k r => r.mono e k) q
theorem d_cmp {op : CmpOp} {h : D → D → Cells → Res D} (ho : OpR X (compareOp op) (rD X.K nm W (Rep X.K nm) (Rep X.K nm) h)) (ha : PE X a (tV X.K nm W fa)) (hb : PE X b (tV X.K nm W fb)) (hm : behindInMarks op b = false) :
    PE X (.Compare a [op] [b] pos) (tV X.K nm W fun ρ cs => (fa ρ cs).bind fun x cs => (fb ρ cs).bind fun y cs => h x y cs) := (pe_cmpR ho ha hb hm).imp fun _ _ _ q => two (fun e k r => r.mono e k) q
theorem d_cmpB {op : CmpOp} {h : D → D → Cells → Res D} (ho : OpR X (compareOp op) (rD X.K nm W (BRep X.K nm) (BRep X.K nm) h)) (ha : PE X a (tBr X.K nm W fa)) (hb : PE X b (tBr X.K nm W fb)) (hm : behindInMarks op b = false) :
    PE X (.Compare a [op] [b] pos) (tV X.K nm W fun ρ cs => (fa ρ cs).bind fun x cs => (fb ρ cs).bind fun y cs => h x y cs) := (pe_cmpR ho ha hb hm).imp fun _ _ _ q => two (fun e k r => r.mono e k) q
end
end Dv
end
section
set_option Elab.async false
set_option linter.all false
set_option maxRecDepth 100000
set_option maxHeartbeats 4000000
namespace Dv
open PySem L2
/-! ### looking at a thing that is held -/
section
variable {K : PySem.W.Frag} {nm : Nm} {W : XK} {g g' g2 : Gh} {H H' H2 : Hp} {cs : Cells}
theorem deref_cell {n : Nat} {cs : Cells} : deref (.cell n) cs = match cs[n]? with
  | some (.lst ds) => .lst ds
  | some (.ins c fs) => .ins c fs
  | none => .cell n := rfl
theorem Rep.ref_lst {ds : List D} {v : V} (h : Rep K nm g H (.lst ds) v) : ∃ a vs, v = .ref a ∧ H a = some (.lst vs) ∧ Reps K nm g H ds vs ∧ g.fz a := by
  cases h with
  | lst h1 h2 h3 => exact ⟨_, _, rfl, h2, h3, h1⟩
theorem view_lst {d : D} {ds : List D} {v : V} (c : CsOk K nm g H cs) (h : BRep K nm g H d v) (e : deref d cs = .lst ds) : ∃ a vs, v = .ref a ∧ H a = some (.lst vs) ∧ Reps K nm g H ds vs := by
  cases d with
  | lst es =>
    have e : es = ds := by simpa [deref] using e
    subst e
    rcases h with h | ⟨_, a, rfl, _, _, vs, q, r⟩
    · obtain ⟨a, vs, h1, h2, h3, _⟩ := h.ref_lst
      exact ⟨a, vs, h1, h2, h3⟩
    · exact ⟨a, vs, rfl, q, r⟩
  | cell n =>
    rcases h with h | ⟨_, a, _, _, _, m⟩
    · cases h with
      | cell hg =>
        rename_i a
        rw [deref_cell] at e
        cases q : cs[n]? with
        | none => rw [q] at e; cases e
        | some x =>
          rw [q] at e
          have := c.at_ n x a q hg
          cases x with
          | lst es =>
            have e : es = ds := by simpa using e
            subst e
            obtain ⟨vs, h1, h2⟩ := this
            exact ⟨a, vs, rfl, h1, h2⟩
          | ins _ _ => cases e
    · exact m.elim
  | _ => simp [deref] at e
theorem view_tup {d : D} {ds : List D} {v : V} (h : BRep K nm g H d v) (e : deref d cs = .tup ds) : ∃ a vs, v = .ref a ∧ SqT K H a vs ∧ Reps K nm g H ds vs := by
  cases d with
  | tup es =>
    have e : es = ds := by simpa [deref] using e
    subst e
    rcases h with h | ⟨_, a, _, _, _, m⟩
    · cases h with
      | tup h1 h2 h3 => exact ⟨_, _, rfl, .of h2, h3⟩
      | tupK h1 h3 => exact ⟨_, _, rfl, h1 H, h3⟩
    · exact m.elim
  | cell n =>
    rw [deref_cell] at e
    cases q : cs[n]? with
    | none => rw [q] at e; cases e
    | some x => rw [q] at e; cases x <;> cases e
  | _ => simp [deref] at e
theorem tup_rep {d : D} {ds : List D} {v : V} (h : BRep K nm g H d v) (e : deref d cs = .tup ds) : Rep K nm g H (.tup ds) v := by
  cases d with
  | tup es =>
    have e : es = ds := by simpa [deref] using e
    subst e
    rcases h with h | ⟨_, a, _, _, _, m⟩
    · exact h
    · exact m.elim
  | cell n =>
    rw [deref_cell] at e
    cases q : cs[n]? with
    | none => rw [q] at e; cases e
    | some x => rw [q] at e; cases x <;> cases e
  | _ => simp [deref] at e
theorem cut_whole {α : Type} {xs : List α} {lo hi : Option Int} (h : HT.sIx xs.length 0 lo = 0 ∧ HT.sIx xs.length xs.length hi = xs.length) : cutG xs lo hi = xs := by
  unfold cutG
  rw [h.1, h.2]
  simp
theorem view_scr {d : D} {ds : List D} {v : V} (h : BRep K nm g H d v) (e : deref d cs = .scr ds) : ∃ a vs, v = .ref a ∧ SqL K H a vs ∧ Reps K nm g H ds vs := by
  cases d with
  | scr es =>
    have e : es = ds := by simpa [deref] using e
    subst e
    rcases h with h | ⟨_, a, _, _, _, m⟩
    · cases h with
      | scr h1 h2 h3 => exact ⟨_, _, rfl, .inl (.inr ⟨_, h2⟩), h3⟩
      | scrK h1 h3 => exact ⟨_, _, rfl, h1 _, h3⟩
    · exact m.elim
  | cell n =>
    rw [deref_cell] at e
    cases q : cs[n]? with
    | none => rw [q] at e; cases e
    | some x => rw [q] at e; cases x <;> cases e
  | _ => simp [deref] at e
theorem view_ins {d : D} {c : Nat} {fs : List (Nat × D)} {v : V} (co : CsOk K nm g H cs) (h : BRep K nm g H d v) (e : deref d cs = .ins c fs) : ∃ a dx vs, v = .ref a ∧ H a = some (.ins (nm.ca c) dx vs) ∧ Repf K nm g H fs vs := by
  cases d with
  | ins c' es =>
    obtain ⟨rfl, rfl⟩ : c' = c ∧ es = fs := by simpa [deref] using e
    rcases h with h | ⟨⟨_, z⟩, _⟩
    · cases h with
      | ins h1 h2 h3 => exact ⟨_, _, _, rfl, h2, h3⟩
    · cases z
  | cell n =>
    rcases h with h | ⟨_, a, _, _, _, m⟩
    · cases h with
      | cell hg =>
        rename_i a
        rw [deref_cell] at e
        cases q : cs[n]? with
        | none => rw [q] at e; cases e
        | some x =>
          rw [q] at e
          have := co.at_ n x a q hg
          cases x with
          | lst es => cases e
          | ins c' es =>
            obtain ⟨rfl, rfl⟩ : c' = c ∧ es = fs := by simpa using e
            obtain ⟨dx, vs, h1, h2⟩ := this
            exact ⟨a, dx, vs, rfl, h1, h2⟩
    · exact m.elim
  | _ => simp [deref] at e
/-- as an attribute's holder -/
def ARep (K : PySem.W.Frag) (nm : Nm) (g : Gh) (H : Hp) (d : D) (v : V) : Prop := Rep K nm g H d v ∨ Own K nm g H d v
theorem view_insA {d : D} {c : Nat} {fs : List (Nat × D)} {v : V} (co : CsOk K nm g H cs) (h : ARep K nm g H d v) (e : deref d cs = .ins c fs) : ∃ a dx vs, v = .ref a ∧ H a = some (.ins (nm.ca c) dx vs) ∧ Repf K nm g H fs vs := by
  rcases h with h | h
  · exact view_ins co (.inl h) e
  · obtain ⟨a, rfl, _, _, m⟩ := h
    cases d with
    | ins c' es =>
      obtain ⟨rfl, rfl⟩ : c' = c ∧ es = fs := by simpa [deref] using e
      obtain ⟨dx, vs, q, r⟩ := m
      exact ⟨a, dx, vs, rfl, q, r⟩
    | lst ds => simp [deref] at e
    | _ => exact m.elim
theorem view_seq {d : D} {ds : List D} {v : V} (c : CsOk K nm g H cs) (h : BRep K nm g H d v) (e : seqOf d cs = some ds) : ∃ a vs, v = .ref a ∧ (SqL K H a vs ∨ SqT K H a vs) ∧ Reps K nm g H ds vs := by
  unfold seqOf at e
  cases q : deref d cs with
  | tup es =>
    rw [q] at e
    cases e
    obtain ⟨a, vs, h1, h2, h3⟩ := view_tup h q
    exact ⟨a, vs, h1, .inr h2, h3⟩
  | lst es =>
    rw [q] at e
    cases e
    obtain ⟨a, vs, h1, h2, h3⟩ := view_lst c h q
    exact ⟨a, vs, h1, .inl (.of h2), h3⟩
  | _ => rw [q] at e; cases e
theorem view_int {d : D} {i : Int} {v : V} (h : BRep K nm g H d v) (e : d = .int i) : v = .int i := by
  subst e
  rcases h with h | ⟨_, _, _, _, _, m⟩
  · cases h; rfl
  · exact m.elim
theorem view_bl {d : D} {i : Bool} {v : V} (h : BRep K nm g H d v) (e : d = .bl i) : v = .bl i := by
  subst e
  rcases h with h | ⟨_, _, _, _, _, m⟩
  · cases h; rfl
  · exact m.elim
theorem view_str {d : D} {i : Str} {v : V} (h : BRep K nm g H d v) (e : d = .str i) : v = .str i := by
  subst e
  rcases h with h | ⟨_, _, _, _, _, m⟩
  · cases h; rfl
  · exact m.elim
theorem view_non {d : D} {v : V} (h : BRep K nm g H d v) (e : d = .non) : v = .non := by
  subst e
  rcases h with h | ⟨_, _, _, _, _, m⟩
  · cases h; rfl
  · exact m.elim
theorem Reps.atI {ds : List D} {vs : List V} {i : Int} {d : D} (r : Reps K nm g H ds vs) (h : L2.atI ds i = some d) : ∃ v, L2.atI vs i = some v ∧ Rep K nm g H d v := by
  unfold L2.atI at h ⊢
  rw [r.length] at h
  cases q : ixN vs.length i with
  | none => rw [q] at h; cases h
  | some j =>
    rw [q] at h
    exact r.get h
theorem Reps.cut {ds : List D} {vs : List V} (lo hi : Option Int) (r : Reps K nm g H ds vs) : Reps K nm g H (cutG ds lo hi) (cutV vs lo hi) := by
  unfold cutG cutV
  rw [r.length]
  exact (r.drop _).take _
theorem Reps.intsD : ∀ {ds : List D} {vs : List V} {ns : List Int}, Reps K nm g H ds vs → Dv.intsD ds = some ns → vs = ns.map V.int
  | _, _, ns, .nil, h => by simp [Dv.intsD] at h; subst h; rfl
  | .int i :: ds, _, ns, .cons h t, e => by
    simp only [Dv.intsD] at e
    cases q : Dv.intsD ds with
    | none => rw [q] at e; cases e
    | some ms =>
      rw [q] at e
      cases e
      cases h
      rw [t.intsD q]
      rfl
  | .non :: _, _, _, .cons _ _, e => by simp [Dv.intsD] at e
  | .bl _ :: _, _, _, .cons _ _, e => by simp [Dv.intsD] at e
  | .str _ :: _, _, _, .cons _ _, e => by simp [Dv.intsD] at e
  | .tup _ :: _, _, _, .cons _ _, e => by simp [Dv.intsD] at e
  | .lst _ :: _, _, _, .cons _ _, e => by simp [Dv.intsD] at e
  | .dic _ :: _, _, _, .cons _ _, e => by simp [Dv.intsD] at e
  | .ins _ _ :: _, _, _, .cons _ _, e => by simp [Dv.intsD] at e
  | .scr _ :: _, _, _, .cons _ _, e => by simp [Dv.intsD] at e
  | .cell _ :: _, _, _, .cons _ _, e => by simp [Dv.intsD] at e
theorem Reps.boolsD : ∀ {ds : List D} {vs : List V} {ns : List Bool}, Reps K nm g H ds vs → Dv.boolsD ds = some ns → vs = ns.map V.bl
  | _, _, ns, .nil, h => by simp [Dv.boolsD] at h; subst h; rfl
  | .bl i :: ds, _, ns, .cons h t, e => by
    simp only [Dv.boolsD] at e
    cases q : Dv.boolsD ds with
    | none => rw [q] at e; cases e
    | some ms =>
      rw [q] at e
      cases e
      cases h
      rw [t.boolsD q]
      rfl
  | .non :: _, _, _, .cons _ _, e => by simp [Dv.boolsD] at e
  | .int _ :: _, _, _, .cons _ _, e => by simp [Dv.boolsD] at e
  | .str _ :: _, _, _, .cons _ _, e => by simp [Dv.boolsD] at e
  | .tup _ :: _, _, _, .cons _ _, e => by simp [Dv.boolsD] at e
  | .lst _ :: _, _, _, .cons _ _, e => by simp [Dv.boolsD] at e
  | .dic _ :: _, _, _, .cons _ _, e => by simp [Dv.boolsD] at e
  | .ins _ _ :: _, _, _, .cons _ _, e => by simp [Dv.boolsD] at e
  | .scr _ :: _, _, _, .cons _ _, e => by simp [Dv.boolsD] at e
  | .cell _ :: _, _, _, .cons _ _, e => by simp [Dv.boolsD] at e
theorem Reps.strsD : ∀ {ds : List D} {vs : List V} {ns : List Str}, Reps K nm g H ds vs → Dv.strsD ds = some ns → vs = ns.map V.str
  | _, _, ns, .nil, h => by simp [Dv.strsD] at h; subst h; rfl
  | .str i :: ds, _, ns, .cons h t, e => by
    simp only [Dv.strsD] at e
    cases q : Dv.strsD ds with
    | none => rw [q] at e; cases e
    | some ms =>
      rw [q] at e
      cases e
      cases h
      rw [t.strsD q]
      rfl
  | .non :: _, _, _, .cons _ _, e => by simp [Dv.strsD] at e
  | .int _ :: _, _, _, .cons _ _, e => by simp [Dv.strsD] at e
  | .bl _ :: _, _, _, .cons _ _, e => by simp [Dv.strsD] at e
  | .tup _ :: _, _, _, .cons _ _, e => by simp [Dv.strsD] at e
  | .lst _ :: _, _, _, .cons _ _, e => by simp [Dv.strsD] at e
  | .dic _ :: _, _, _, .cons _ _, e => by simp [Dv.strsD] at e
  | .ins _ _ :: _, _, _, .cons _ _, e => by simp [Dv.strsD] at e
  | .scr _ :: _, _, _, .cons _ _, e => by simp [Dv.strsD] at e
  | .cell _ :: _, _, _, .cons _ _, e => by simp [Dv.strsD] at e
theorem Reps.strs : ∀ {ss : List Str}, Reps K nm g H (ss.map D.str) (ss.map V.str)
  | [] => .nil
  | s :: ss => .cons (.str s) Reps.strs
/-! ### new things -/
theorem new_tup {p : Addr} {ds : List D} {vs : List V} {Q : VK} (c : CsOk K nm g H cs) (r : Reps K nm g H ds vs) (hp : H p = none) (h : Post K nm W (Rep K nm) g H (.ok (.tup ds) cs) Q) : Q (.ref p) (upd H p (.tup vs)) :=
  h.okE (ext_new hp) (c.new hp) (.tup (.inr rfl) upd_same (r.mono (ext_new hp) c.ok))
theorem new_lst {p : Addr} {ds : List D} {vs : List V} {Q : VK} (c : CsOk K nm g H cs) (r : Reps K nm g H ds vs) (hp : H p = none) (h : Post K nm W (Rep K nm) g H (.ok (.lst ds) cs) Q) : Q (.ref p) (upd H p (.lst vs)) :=
  h.okE (ext_new hp) (c.new hp) (.lst (.inr rfl) upd_same (r.mono (ext_new hp) c.ok))
end
section
variable {X : Cx} {nm : Nm} {W : XK} {a b c e : Expr} {es : List Expr} {fa fb fc : Env → Cells → Res D} {pos : Pos}
/-! ### arguments -/
theorem d_nil : PA X [] (tAs X.K nm W fun _ cs => .ok [] cs) := pa_nil.imp fun σ H Q q => by
  obtain ⟨g, ρ, cs, en, c, p⟩ := q
  exact Post.ok p c .nil
theorem star_not {e : Expr} {es : List Expr} {env : PySem.Env} (h : ∀ x p, e ≠ .Starred x p) : starEach (e :: es) env = (false, eval e env) :: starEach es env := by
  cases e <;> first | rfl | exact absurd rfl (h _ _)
theorem d_cons {fs : Env → Cells → Res (List D)} (hn : ∀ x p, e ≠ .Starred x p) (ha : PE X e (tV X.K nm W fa)) (hr : PA X es (tAs X.K nm W fs)) :
    PA X (e :: es) (tAs X.K nm W fun ρ cs => (fa ρ cs).bind fun x cs => (fs ρ cs).bind fun xs cs => .ok (x :: xs) cs) := (pa_cons ha hr (star_not hn)).imp fun σ H Q q => by
  refine (fun (z : tG X.K nm W (Rep X.K nm) fa σ H _) => z) ?_
  obtain ⟨g, ρ, cs, en, c, p⟩ := q
  refine ⟨g, ρ, cs, en, c, (Post.bind (R := Rep X.K nm) p).imp ?_⟩
  rintro x H1 ⟨dx, g1, cs1, e1, c1, r1, p1⟩
  refine ⟨g1, ρ, cs1, en.mono e1 c.ok, c1, (Post.bind (R := Reps X.K nm) p1).imp ?_⟩
  rintro y H2 ⟨dy, g2, cs2, e2, c2, r2, p2⟩
  exact Post.ok p2 c2 (.cons (r1.mono e2 c1.ok) r2)
theorem d_nilB : PA X [] (tBs X.K nm W fun _ cs => .ok [] cs) := pa_nil.imp fun σ H Q q => by
  obtain ⟨g, ρ, cs, en, c, p⟩ := q
  exact Post.ok p c .nil
theorem d_consB {fs : Env → Cells → Res (List D)} (hn : ∀ x p, e ≠ .Starred x p) (ha : PE X e (tBr X.K nm W fa)) (hr : PA X es (tBs X.K nm W fs)) :
    PA X (e :: es) (tBs X.K nm W fun ρ cs => (fa ρ cs).bind fun x cs => (fs ρ cs).bind fun xs cs => .ok (x :: xs) cs) := (pa_cons ha hr (star_not hn)).imp fun σ H Q q => by
  refine (fun (z : tG X.K nm W (BRep X.K nm) fa σ H _) => z) ?_
  obtain ⟨g, ρ, cs, en, c, p⟩ := q
  refine ⟨g, ρ, cs, en, c, (Post.bind (R := BRep X.K nm) p).imp ?_⟩
  rintro x H1 ⟨dx, g1, cs1, e1, c1, r1, p1⟩
  refine ⟨g1, ρ, cs1, en.mono e1 c.ok, c1, (Post.bind (R := BReps X.K nm) p1).imp ?_⟩
  rintro y H2 ⟨dy, g2, cs2, e2, c2, r2, p2⟩
  exact Post.ok p2 c2 (.cons (r1.mono e2 c1.ok) r2)
/-! ### displays -/
theorem d_tup {x1 : Nat} {fs : Env → Cells → Res (List D)} (h : PA X es (tAs X.K nm W fs)) : PE X (.Tuple es x1 pos) (tV X.K nm W fun ρ cs => (fs ρ cs).bind fun ds cs => if ds.length ≤ sizeLine then .ok (.tup ds) cs else .bad) := (pe_tup h).imp fun σ H Q q => by
  obtain ⟨g, ρ, cs, en, c, p⟩ := q
  refine ⟨g, ρ, cs, en, c, (Post.bind (R := Reps X.K nm) p).imp ?_⟩
  rintro vs H1 ⟨ds, g1, cs1, e1, c1, r1, p1⟩
  split at p1
  · rename_i hz
    exact ⟨by rw [← r1.length]; exact hz, fun p hp => new_tup c1 r1 hp p1⟩
  · exact p1.elim
theorem d_lst {fs : Env → Cells → Res (List D)} (h : PA X es (tAs X.K nm W fs)) : PE X (.List es pos) (tV X.K nm W fun ρ cs => (fs ρ cs).bind fun ds cs => if ds.length ≤ sizeLine then .ok (.lst ds) cs else .bad) := (pe_lst h).imp fun σ H Q q => by
  obtain ⟨g, ρ, cs, en, c, p⟩ := q
  refine ⟨g, ρ, cs, en, c, (Post.bind (R := Reps X.K nm) p).imp ?_⟩
  rintro vs H1 ⟨ds, g1, cs1, e1, c1, r1, p1⟩
  split at p1
  · rename_i hz
    exact ⟨by rw [← r1.length]; exact hz, fun p hp => new_lst c1 r1 hp p1⟩
  · exact p1.elim
/-! ### slices -/
theorem d_oN : PO X none (tO X.K nm W fun _ cs => .ok none cs) := po_none.imp fun σ H Q q => by
  obtain ⟨g, ρ, cs, en, c, p⟩ := q
  exact Post.ok p c rfl
theorem d_oS (h : PE X e (tV X.K nm W fa)) : PO X (some e) (tO X.K nm W fun ρ cs => (fa ρ cs).bind fun x cs => (match x with
    | .int i => .ok (some i) cs
    | _ => .bad)) := (po_some h).imp fun σ H Q q => by
  obtain ⟨g, ρ, cs, en, c, p⟩ := q
  refine ⟨g, ρ, cs, en, c, (Post.bind (R := Rep X.K nm) p).imp ?_⟩
  rintro v H1 ⟨d, g1, cs1, e1, c1, r1, p1⟩
  cases d with
  | int i =>
    cases r1
    exact ⟨i, rfl, Post.ok p1 c1 rfl⟩
  | _ => exact p1.elim
theorem d_slice {lo hi : Option Expr} {fl fh : Env → Cells → Res (Option Int)} {p2 : Pos} (he : PE X e (tBr X.K nm W fa)) (hl : PO X lo (tO X.K nm W fl)) (hh : PO X hi (tO X.K nm W fh)) :
    PE X (.Subscript e (.Slice lo hi none p2) pos) (tV X.K nm W fun ρ cs => (fa ρ cs).bind fun x cs => (fl ρ cs).bind fun l cs => (fh ρ cs).bind fun h cs => (match deref x cs with
      | .lst ds => .ok (.lst (cutD ds l h)) cs
      | .tup ds => .ok (.tup (cutD ds l h)) cs
      | .scr ds => .ok (.lst (cutD ds l h)) cs
      | _ => .bad)) := (pe_slice (sl_list.or sl_tupA) he hl hh).imp fun σ H Q q => by
  obtain ⟨g, ρ, cs, en, c, p⟩ := q
  refine ⟨g, ρ, cs, en, c, (Post.bind (R := BRep X.K nm) p).imp ?_⟩
  rintro v H1 ⟨d, g1, cs1, e1, c1, r1, p1⟩
  refine ⟨g1, ρ, cs1, en.mono e1 c.ok, c1, (Post.bind (R := fun _ _ a b => a = b) p1).imp ?_⟩
  rintro l H2 ⟨l', g2, cs2, e2, c2, rfl, p2⟩
  refine ⟨g2, ρ, cs2, (en.mono e1 c.ok).mono e2 c1.ok, c2, (Post.bind (R := fun _ _ a b => a = b) p2).imp ?_⟩
  rintro h H3 ⟨h', g3, cs3, e3, c3, rfl, p3⟩
  have r3 := (r1.mono e2 c1.ok).mono e3 c2.ok
  cases q : deref d cs3 with
  | lst ds =>
    rw [q] at p3
    obtain ⟨a, vs, rfl, hs, rr⟩ := view_lst c3 r3 q
    exact .inl ⟨a, vs, rfl, .of hs, fun p hp => new_lst c3 (rr.cut l' h') hp p3⟩
  | tup ds =>
    rw [q] at p3
    obtain ⟨a, vs, rfl, hs, rr⟩ := view_tup r3 q
    have r4 := tup_rep r3 q
    refine .inr ⟨a, vs, rfl, hs, fun w => ?_, fun _ p hp => new_tup c3 (rr.cut l' h') hp p3⟩
    rw [← rr.length] at w
    have e : cutD ds l' h' = ds := cut_whole w
    have p3 : Post X.K nm W (Rep X.K nm) g3 H3 (.ok (.tup (cutD ds l' h')) cs3) Q := p3
    rw [e] at p3
    exact Post.ok p3 c3 r4
  | scr ds =>
    rw [q] at p3
    obtain ⟨a, vs, rfl, hs, rr⟩ := view_scr r3 q
    exact .inl ⟨a, vs, rfl, hs, fun p hp => new_lst c3 (rr.cut l' h') hp p3⟩
  | _ => rw [q] at p3; exact p3.elim
end
end Dv
end
section
set_option Elab.async false
set_option linter.all false
set_option maxRecDepth 100000
set_option maxHeartbeats 4000000
namespace Dv
open PySem L2
section
variable {K : PySem.W.Frag} {nm : Nm} {W : XK} {g g' g2 : Gh} {H H' H2 : Hp} {cs : Cells}
theorem Reps.isEmpty {ds : List D} {vs : List V} (h : Reps K nm g H ds vs) : ds.isEmpty = vs.isEmpty := by cases h <;> rfl
theorem tru_post {d : D} {v : V} {Q : Bool → Hp → Prop} (c : CsOk K nm g H cs) (r : BRep K nm g H d v) (p : Post K nm W (fun _ _ a b => a = b) g H (truth d cs) Q) : ∃ k, TruV K v H k ∧ Q k H := by
  unfold truth at p
  cases q : deref d cs with
  | non =>
    rw [q] at p
    have e : d = .non := by
      cases d with
      | cell n => rw [deref_cell] at q; cases z : cs[n]? with
        | none => rw [z] at q; cases q
        | some x => rw [z] at q; cases x <;> cases q
      | _ => simpa [deref] using q
    have := view_non r e
    subst this
    exact ⟨false, rfl, Post.ok p c rfl⟩
  | bl b =>
    rw [q] at p
    have e : d = .bl b := by
      cases d with
      | cell n => rw [deref_cell] at q; cases z : cs[n]? with
        | none => rw [z] at q; cases q
        | some x => rw [z] at q; cases x <;> cases q
      | _ => simpa [deref] using q
    have := view_bl r e
    subst this
    exact ⟨b, rfl, Post.ok p c rfl⟩
  | int i =>
    rw [q] at p
    have e : d = .int i := by
      cases d with
      | cell n => rw [deref_cell] at q; cases z : cs[n]? with
        | none => rw [z] at q; cases q
        | some x => rw [z] at q; cases x <;> cases q
      | _ => simpa [deref] using q
    have := view_int r e
    subst this
    exact ⟨i != 0, rfl, Post.ok p c rfl⟩
  | str x =>
    rw [q] at p
    have e : d = .str x := by
      cases d with
      | cell n => rw [deref_cell] at q; cases z : cs[n]? with
        | none => rw [z] at q; cases q
        | some x => rw [z] at q; cases x <;> cases q
      | _ => simpa [deref] using q
    have := view_str r e
    subst this
    have p : Post K nm W (fun _ _ a b => a = b) g H (if x.length ≤ sizeLine then .ok ((x.length : Int) != 0) cs else .bad) Q := p
    split at p
    · rename_i hz
      exact ⟨_, ⟨hz, rfl⟩, Post.ok p c rfl⟩
    · exact p.elim
  | tup ds =>
    rw [q] at p
    obtain ⟨a, vs, rfl, h1, h2⟩ := view_tup r q
    exact ⟨_, .inr (.inl ⟨vs, h1, by rw [h2.isEmpty]⟩), Post.ok p c rfl⟩
  | lst ds =>
    rw [q] at p
    obtain ⟨a, vs, rfl, h1, h2⟩ := view_lst c r q
    exact ⟨_, .inl ⟨vs, .of h1, by rw [h2.isEmpty]⟩, Post.ok p c rfl⟩
  | dic kvs =>
    rw [q] at p
    have e : d = .dic kvs := by
      cases d with
      | cell n => rw [deref_cell] at q; cases z : cs[n]? with
        | none => rw [z] at q; cases q
        | some x => rw [z] at q; cases x <;> cases q
      | _ => simpa [deref] using q
    subst e
    rcases r with r | ⟨_, _, _, _, _, m⟩
    · cases r
    · exact m.elim
  | ins _ _ => rw [q] at p; exact p.elim
  | cell _ => rw [q] at p; exact p.elim
  | scr _ => rw [q] at p; exact p.elim
end
/-! ### an expression and what it means -/
structure DE (X : Cx) (nm : Nm) (W : XK) (e : Expr) (n : Den) : Prop where
  v : PE X e (tV X.K nm W n.v)
  b : PE X e (tBr X.K nm W n.b)
  t : PT X e (tT X.K nm W n.t)
section
variable {X : Cx} {nm : Nm} {W : XK} {a b c e : Expr} {es : List Expr} {fa fb fc : Env → Cells → Res D} {pos : Pos} {na nb nc : Den}
def Plain (e : Expr) : Bool := match e with
  | .UnaryOp .Not _ _ => false
  | .BoolOp _ _ _ => false
  | .IfExp _ _ _ _ => false
  | .Compare _ _ _ _ => false
  | _ => true
theorem plain_true (h : Plain e = true) (env : PySem.Env) : ∀ whole, isTrue e env whole = (do let v ← whole; standAt e.pos; holding [v] (truthy v)) := by
  intro whole
  cases e with
  | UnaryOp op x p => cases op <;> first | rfl | exact absurd h (by simp [Plain])
  | BoolOp op x p => simp [Plain] at h
  | IfExp _ _ _ _ => simp [Plain] at h
  | Compare _ _ _ _ => simp [Plain] at h
  | _ => rfl
/-- a test by its value's truth -/
theorem d_t (hp : Plain e = true) (h : PE X e (tV X.K nm W fa)) : PT X e (tT X.K nm W fun ρ cs => (fa ρ cs).bind fun x cs => truth x cs) := (pt_truth h (plain_true hp X.env)).imp fun σ H Q q => by
  obtain ⟨g, ρ, cs, en, c, p⟩ := q
  refine ⟨g, ρ, cs, en, c, (Post.bind (R := Rep X.K nm) p).imp ?_⟩
  rintro v H1 ⟨d, g1, cs1, e1, c1, r1, p1⟩
  exact tru_post c1 (.inl r1) p1
theorem DE.of (hp : Plain e = true) (h : PE X e (tV X.K nm W fa)) : DE X nm W e (ofV fa) := ⟨h, d_B h, d_t hp h⟩
theorem DE.ofB (hp : Plain e = true) (h : PE X e (tV X.K nm W fa)) (hb : PE X e (tBr X.K nm W fb)) : DE X nm W e (ofVB fa fb) := ⟨h, hb, d_t hp h⟩
/-! ### tests -/
theorem d_not (h : DE X nm W a na) : DE X nm W (.UnaryOp .Not a pos) (ofVT (fun ρ cs => (na.v ρ cs).bind fun x cs => (truth x cs).bind fun b cs => .ok (.bl (!b)) cs) (fun ρ cs => (na.t ρ cs).bind fun b cs => .ok (!b) cs)) := by
  have hv : PE X (.UnaryOp .Not a pos) (tV X.K nm W fun ρ cs => (na.v ρ cs).bind fun x cs => (truth x cs).bind fun b cs => .ok (.bl (!b)) cs) := (pe_notT h.v).imp fun σ H Q q => by
    obtain ⟨g, ρ, cs, en, c, p⟩ := q
    refine ⟨g, ρ, cs, en, c, (Post.bind (R := Rep X.K nm) p).imp ?_⟩
    rintro v H1 ⟨x, g1, cs1, e1, c1, r1, p1⟩
    obtain ⟨k, hk, k', g2, cs2, e2, c2, rfl, p2⟩ := tru_post c1 (.inl r1) (Post.bind (R := fun _ _ a b => a = b) p1)
    exact ⟨_, hk, Post.ok p2 c2 (.bl _)⟩
  refine ⟨hv, d_B hv, (pt_not h.t).imp fun σ H Q q => ?_⟩
  obtain ⟨g, ρ, cs, en, c, p⟩ := q
  refine ⟨g, ρ, cs, en, c, (Post.bind (R := fun _ _ a b => a = b) p).imp ?_⟩
  rintro k H1 ⟨k', g1, cs1, e1, c1, rfl, p1⟩
  exact Post.ok p1 c1 rfl
/-- a row of and, or -/
structure DW (X : Cx) (nm : Nm) (W : XK) (e : Expr) (n : Den) : Prop where
  v : PE X e (tV X.K nm W n.v)
  t : PW X e (tT X.K nm W n.t)
theorem DW.de (h : DW X nm W e n) (hb : n.b = n.v) : DE X nm W e n := ⟨h.v, by rw [hb]; exact d_B h.v, h.t.pt⟩
theorem d_and1 (h : DE X nm W a na) : DW X nm W (.BoolOp .And [a] pos) na := ⟨pe_one h.v, pw_and1 h.t⟩
theorem d_or1 (h : DE X nm W a na) : DW X nm W (.BoolOp .Or [a] pos) na := ⟨pe_one h.v, pw_or1 h.t⟩
theorem d_and {rest : List Expr} (ha : DE X nm W a na) (hb : DW X nm W (.BoolOp .And (b :: rest) pos) nb) : DW X nm W (.BoolOp .And (a :: b :: rest) pos)
    (ofVT (fun ρ cs => (na.v ρ cs).bind fun x cs => (truth x cs).bind fun k cs => if k = true then nb.v ρ cs else .ok x cs) (fun ρ cs => (na.t ρ cs).bind fun k cs => if k = true then nb.t ρ cs else .ok false cs)) := by
  refine ⟨(pe_andT ha.v hb.v).imp fun σ H Q q => ?_, (pw_and ha.t hb.t).imp fun σ H Q q => ?_⟩
  · obtain ⟨g, ρ, cs, en, c, p⟩ := q
    refine ⟨g, ρ, cs, en, c, (Post.bind (R := Rep X.K nm) p).imp ?_⟩
    rintro v H1 ⟨x, g1, cs1, e1, c1, r1, p1⟩
    obtain ⟨k, hk, k', g2, cs2, e2, c2, rfl, p2⟩ := tru_post c1 (.inl r1) (Post.bind (R := fun _ _ a b => a = b) p1)
    refine ⟨_, hk, ?_⟩
    cases k' with
    | true => exact ⟨g2, ρ, cs2, (en.mono e1 c.ok).mono e2 c1.ok, c2, p2⟩
    | false => exact Post.ok p2 c2 (r1.mono e2 c1.ok)
  · obtain ⟨g, ρ, cs, en, c, p⟩ := q
    refine ⟨g, ρ, cs, en, c, (Post.bind (R := fun _ _ a b => a = b) p).imp ?_⟩
    rintro k H1 ⟨k', g1, cs1, e1, c1, rfl, p1⟩
    cases k' with
    | true => exact ⟨g1, ρ, cs1, en.mono e1 c.ok, c1, p1⟩
    | false => exact Post.ok p1 c1 rfl
theorem d_or {rest : List Expr} (ha : DE X nm W a na) (hb : DW X nm W (.BoolOp .Or (b :: rest) pos) nb) : DW X nm W (.BoolOp .Or (a :: b :: rest) pos)
    (ofVT (fun ρ cs => (na.v ρ cs).bind fun x cs => (truth x cs).bind fun k cs => if k = true then .ok x cs else nb.v ρ cs) (fun ρ cs => (na.t ρ cs).bind fun k cs => if k = true then .ok true cs else nb.t ρ cs)) := by
  refine ⟨(pe_orT ha.v hb.v).imp fun σ H Q q => ?_, (pw_or ha.t hb.t).imp fun σ H Q q => ?_⟩
  · obtain ⟨g, ρ, cs, en, c, p⟩ := q
    refine ⟨g, ρ, cs, en, c, (Post.bind (R := Rep X.K nm) p).imp ?_⟩
    rintro v H1 ⟨x, g1, cs1, e1, c1, r1, p1⟩
    obtain ⟨k, hk, k', g2, cs2, e2, c2, rfl, p2⟩ := tru_post c1 (.inl r1) (Post.bind (R := fun _ _ a b => a = b) p1)
    refine ⟨_, hk, ?_⟩
    cases k' with
    | false => exact ⟨g2, ρ, cs2, (en.mono e1 c.ok).mono e2 c1.ok, c2, p2⟩
    | true => exact Post.ok p2 c2 (r1.mono e2 c1.ok)
  · obtain ⟨g, ρ, cs, en, c, p⟩ := q
    refine ⟨g, ρ, cs, en, c, (Post.bind (R := fun _ _ a b => a = b) p).imp ?_⟩
    rintro k H1 ⟨k', g1, cs1, e1, c1, rfl, p1⟩
    cases k' with
    | false => exact ⟨g1, ρ, cs1, en.mono e1 c.ok, c1, p1⟩
    | true => exact Post.ok p1 c1 rfl
theorem pt_ifx {tc ta tb : TT} (hc : PT X c tc) (ha : PT X a ta) (hb : PT X b tb) : PT X (.IfExp c a b pos) (fun σ H Q => tc σ H fun k H1 => if k = true then ta σ H1 Q else tb σ H1 Q) := by
  refine ⟨fun pins s σ H Q I h => ?_⟩
  show wpAny (model X.prog X.w) X.A (isTrue c X.env (eval c X.env) >>= fun k => if k = true then isTrue a X.env (eval a X.env) else isTrue b X.env (eval b X.env)) _ _ s
  refine wpAny_bind (thn (hc.run pins s σ H _ I h) fun d s1 ⟨H1, I1, q1⟩ => ?_)
  cases d with
  | true => exact ha.run pins s1 σ H1 Q I1 q1
  | false => exact hb.run pins s1 σ H1 Q I1 q1
theorem d_ifx (hc : DE X nm W c nc) (ha : DE X nm W a na) (hb : DE X nm W b nb) : DE X nm W (.IfExp c a b pos)
    (ofVT (fun ρ cs => (nc.t ρ cs).bind fun k cs => if k = true then na.v ρ cs else nb.v ρ cs) (fun ρ cs => (nc.t ρ cs).bind fun k cs => if k = true then na.t ρ cs else nb.t ρ cs)) := by
  have hv : PE X (.IfExp c a b pos) (tV X.K nm W fun ρ cs => (nc.t ρ cs).bind fun k cs => if k = true then na.v ρ cs else nb.v ρ cs) := (pe_ifExp hc.t ha.v hb.v).imp fun σ H Q q => by
    obtain ⟨g, ρ, cs, en, c, p⟩ := q
    refine ⟨g, ρ, cs, en, c, (Post.bind (R := fun _ _ a b => a = b) p).imp ?_⟩
    rintro k H1 ⟨k', g1, cs1, e1, c1, rfl, p1⟩
    cases k' with
    | true => exact ⟨g1, ρ, cs1, en.mono e1 c.ok, c1, p1⟩
    | false => exact ⟨g1, ρ, cs1, en.mono e1 c.ok, c1, p1⟩
  refine ⟨hv, d_B hv, (pt_ifx hc.t ha.t hb.t).imp fun σ H Q q => ?_⟩
  obtain ⟨g, ρ, cs, en, c, p⟩ := q
  refine ⟨g, ρ, cs, en, c, (Post.bind (R := fun _ _ a b => a = b) p).imp ?_⟩
  rintro k H1 ⟨k', g1, cs1, e1, c1, rfl, p1⟩
  cases k' with
  | true => exact ⟨g1, ρ, cs1, en.mono e1 c.ok, c1, p1⟩
  | false => exact ⟨g1, ρ, cs1, en.mono e1 c.ok, c1, p1⟩
/-- a reading that gives a value, then its truth -/
theorem to_bool {h : Env → Cells → Res D} {σ : L2.St} {H : Hp} {Q : Bool → Hp → Prop} (hb : ∀ ρ cs d cs', h ρ cs = .ok d cs' → ∃ k, d = .bl k) (q : tT X.K nm W (fun ρ cs => (h ρ cs).bind fun x cs => truth x cs) σ H Q) : tV X.K nm W h σ H fun x H' => ∃ k, x = .bl k ∧ Q k H' := by
  obtain ⟨g, ρ, cs, en, c, p⟩ := q
  refine ⟨g, ρ, cs, en, c, ?_⟩
  have p : Post X.K nm W (fun _ _ a b => a = b) g H ((h ρ cs).bind fun x cs => truth x cs) Q := p
  show Post X.K nm W (Rep X.K nm) g H (h ρ cs) _
  cases e : h ρ cs with
  | ok d cs' =>
    obtain ⟨k, rfl⟩ := hb ρ cs d cs' e
    rw [e] at p
    intro v g' H' e1 c1 r
    cases r
    exact ⟨k, rfl, p k g' H' e1 c1 rfl⟩
  | exc d cs' => rw [e] at p; exact p
  | bad => rw [e] at p; exact p
theorem bind2_bl {fa fb : Env → Cells → Res D} {h : D → D → Cells → Res D} (hbl : ∀ x y cs d cs', h x y cs = .ok d cs' → ∃ k, d = .bl k) (ρ : Env) (cs : Cells) (d : D) (cs' : Cells) (e : ((fa ρ cs).bind fun x cs => (fb ρ cs).bind fun y cs => h x y cs) = .ok d cs') : ∃ k, d = .bl k := by
  cases e1 : fa ρ cs with
  | ok x cs1 =>
    rw [e1] at e
    have e : ((fb ρ cs1).bind fun y cs => h x y cs) = .ok d cs' := e
    cases e2 : fb ρ cs1 with
    | ok y cs2 => rw [e2] at e; exact hbl _ _ _ _ _ e
    | exc _ _ => rw [e2] at e; cases e
    | bad => rw [e2] at e; cases e
  | exc _ _ => rw [e1] at e; cases e
  | bad => rw [e1] at e; cases e
/-- a comparison -/
theorem d_cmpE {op : CmpOp} {h : D → D → Cells → Res D} (ho : OpR X (compareOp op) (rD X.K nm W (Rep X.K nm) (Rep X.K nm) h)) (ha : DE X nm W a na) (hb : DE X nm W b nb) (hm : behindInMarks op b = false)
    (hbl : ∀ x y cs d cs', h x y cs = .ok d cs' → ∃ k, d = .bl k) : DE X nm W (.Compare a [op] [b] pos) (ofV fun ρ cs => (na.v ρ cs).bind fun x cs => (nb.v ρ cs).bind fun y cs => h x y cs) := by
  have hv := d_cmp (pos := pos) ho ha.v hb.v hm
  exact ⟨hv, d_B hv, (pt_cmpR ho ha.v hb.v hm).imp fun σ H Q q => two (fun e k r => r.mono e k) (to_bool (fun ρ cs d cs' e => bind2_bl hbl ρ cs d cs' e) q)⟩
theorem d_cmpBE {op : CmpOp} {h : D → D → Cells → Res D} (ho : OpR X (compareOp op) (rD X.K nm W (BRep X.K nm) (BRep X.K nm) h)) (ha : DE X nm W a na) (hb : DE X nm W b nb) (hm : behindInMarks op b = false)
    (hbl : ∀ x y cs d cs', h x y cs = .ok d cs' → ∃ k, d = .bl k) : DE X nm W (.Compare a [op] [b] pos) (ofV fun ρ cs => (na.b ρ cs).bind fun x cs => (nb.b ρ cs).bind fun y cs => h x y cs) := by
  have hv := d_cmpB (pos := pos) ho ha.b hb.b hm
  exact ⟨hv, d_B hv, (pt_cmpR ho ha.b hb.b hm).imp fun σ H Q q => two (fun e k r => r.mono e k) (to_bool (fun ρ cs d cs' e => bind2_bl hbl ρ cs d cs' e) q)⟩
end
end Dv
end
section
set_option Elab.async false
set_option linter.all false
set_option maxRecDepth 100000
set_option maxHeartbeats 4000000
namespace Dv
open PySem L2
/-! ### what the walk asks of the text -/
structure Top (T : Tab) (nm : Nm) (K : PySem.W.Frag) : Prop where
  nmok : NmOk nm
  cls : ∀ (c : Nat) (k : Cl), T.cls[c]? = some k → Cls K (nm.ca c)
  at_ : ∀ (c : Nat) (k : Cl) (j : Nat), T.cls[c]? = some k → j ∈ k.atr → NoAttr K (nm.ca c) (nm.at_ j)
  met : ∀ (c : Nat) (k : Cl) (m f : Nat), T.cls[c]? = some k → k.meths.lookup m = some f → Meth K (nm.ca c) (nm.mt m) (nm.fa f)
  mkr : ∀ (c : Nat) (k : Cl) (f : Nat), T.cls[c]? = some k → k.init = some f → Mk K (nm.ca c) (nm.fa f)
  prp : ∀ (c : Nat) (k : Cl) (j f : Nat), T.cls[c]? = some k → k.props.lookup j = some f → ∃ p, PropOf K (nm.ca c) (nm.at_ j) p (nm.fa f)
  sf : ∀ (c : Nat) (k : Cl), T.cls[c]? = some k → PySem.W.selfFirst K (nm.ca c) = true
  insT : ∀ (c : Nat) (k : Cl), T.cls[c]? = some k → PySem.W.findIn K (.ref (nm.ca c)) "__class__" = some (some (.builtin "object.__class__")) ∧ PySem.W.specialIn K (.builtin "object.__class__") "__get__" = some (some (.builtin "getset_descriptor.__get__")) ∧
    PySem.W.takesIn K (.builtin "object.__class__") = some true ∧ PySem.W.mroIn K (nm.ca c) (.type "object") = some true
  kCC : ∀ (c c' : Nat) (k k' : Cl), T.cls[c]? = some k → T.cls[c']? = some k' → PySem.W.kitOne K (.ref (nm.ca c)) (.ref (nm.ca c')) = some (k.anc.contains c')
  kCB : ∀ (c : Nat) (k : Cl) (t : String), T.cls[c]? = some k → t ∈ ["int", "bool", "str", "list", "tuple", "dict"] → PySem.W.kitOne K (.ref (nm.ca c)) (.type t) = some false
  kBC : ∀ (c : Nat) (k : Cl) (t : String), T.cls[c]? = some k → t ∈ ["NoneType", "bool", "int", "str", "tuple", "list", "dict"] → PySem.W.kitOne K (.type t) (.ref (nm.ca c)) = some false
  noi : ∀ (c : Nat) (k : Cl), T.cls[c]? = some k → PySem.W.noIn K (nm.ca c) (Operator.info .Add).2 = true
  mtat : ∀ (m j : Nat), nm.mt m ≠ nm.at_ j
  nosq : ∀ (c : Nat) (k : Cl), T.cls[c]? = some k → PySem.W.noSeq K (nm.ca c) = true
  fni : ∀ (c : Nat) (k : Cl) (m f : Nat), T.cls[c]? = some k → k.meths.lookup m = some f → PySem.W.fnIn K (nm.fa f) = true
  ne : ∀ (c : Nat) (k : Cl) (f : Nat), T.cls[c]? = some k → k.meths.lookup nEq = some f → PySem.W.findIn K (.ref (nm.ca c)) "__ne__" = some (some (.builtin "object.__ne__")) ∧ PySem.W.mroIn K (nm.ca c) (.type "object") = some true
  nfT : ∀ (c : Nat) (k : Cl) (t : String), T.cls[c]? = some k → t ∈ ["NoneType", "bool", "int", "str", "tuple", "list", "dict"] → PySem.W.notFirst K (nm.ca c) (.type t) = true
  nfC : ∀ (c : Nat) (k : Cl) (c' : Nat) (k' : Cl), T.cls[c]? = some k → T.cls[c']? = some k' → PySem.W.notFirst K (nm.ca c) (.ref (nm.ca c')) = true
  dn : nm.mt nEq = "__eq__" ∧ nm.mt nAdd = "__add__" ∧ nm.mt nInv = "__invert__" ∧ nm.mt nStr = "__str__" ∧ nm.mt nLen = "__len__" ∧ nm.mt nIter = "__iter__" ∧ nm.mt nBool = "__bool__" ∧ nm.mt nCont = "__contains__" ∧
    nm.mt nGet = "__getitem__" ∧ nm.mt nCall = "__call__" ∧ nm.mt nOr = "__or__" ∧ nm.mt nAnd = "__and__" ∧ nm.mt nSub = "__sub__"
/-- so near that a call has room -/
def Near (A A' : Around) : Prop := A' = A ∨ A' = A.in1 ∨ A' = A.in1.in1
/-- a call of a def of the text with data -/
def CallsOk (X : Cx) (nm : Nm) (W : XK) (O : Orc) : Prop := ∀ (f : Nat) (A' : Around) (pins : List (Addr × Obj)) (s : Shared) (σ : L2.St) (H : Hp) (us : List Value) (vs : List V) (ds : List D) (cs : Cells) (g : Gh) (Q : VK), Near X.A A' →
  Inv X pins σ H s → Vals vs us → CsOk X.K nm g H cs → Reps X.K nm g H ds vs → Post X.K nm W (Rep X.K nm) g H (O false f ds cs) Q → wpAny (model X.prog X.w) A' (call (.ref (nm.fa f)) us) (EP X pins σ Q) X.xe s
/-- a def's promise -/
def spO (K : PySem.W.Frag) (nm : Nm) (W : XK) (O : Orc) (f : Nat) : Sp := fun vs H Q E => E = W ∧ ∃ g cs ds, CsOk K nm g H cs ∧ Reps K nm g H ds vs ∧ Post K nm W (Rep K nm) g H (O false f ds cs) Q
/-- an __init__'s: its self a new thing -/
def spI (K : PySem.W.Frag) (nm : Nm) (W : XK) (O : Orc) (c f : Nat) : Sp := fun vs H2 Q E => E = W ∧ ∃ x dx vs' H g cs ds, vs = .ref x :: vs' ∧ H x = none ∧ H dx = none ∧ dx ≠ x ∧ H2 = upd (upd H dx (.own x)) x (.ins (nm.ca c) dx []) ∧
  CsOk K nm g H cs ∧ Reps K nm g H ds vs' ∧ Post K nm W (Rep K nm) g H (O true f ds cs) (fun v H' => v = .ref x → Q .non H')
/-- a promise by positional values and keywords -/
def FnK (P : Program) (w : World) (K : PySem.W.Frag) (mg : Str → Option Value) (base : Heap) (CX : CXT) (k : Nat) (f : Addr) (n : Nat) (ks : List Str) (perm : List Nat) (sp : Sp) : Prop :=
  ∀ (A : Around) (outer : List PySem.Env) (s : Shared) (H : Hp) (us ws : List Value) (vs zs ys : List V) (Q : VK) (E : XK), Room k A → Env0 P w K mg base A outer s H → Vals vs us → Vals zs ws → vs.length = n → zs.length = ks.length → permD perm (vs ++ zs) = some ys → sp ys H Q E →
    codeAny (model P w) A (.call (.ref f) ⟨us, ks.zip ws⟩) (CR CX outer P w H s Q E) s
/-- a perm behind self -/
def permS (perm : List Nat) : List Nat := 0 :: perm.map (· + 1)
/-- the text's defs -/
structure Fns (T : Tab) (X : Cx) (nm : Nm) (W : XK) (O : Orc) : Prop where
  ex : ∃ (CX : CXT) (k : Nat), Room (k + 3) X.A ∧ Passes CX X W ∧ Passes CX X.nox W ∧ (∀ f, FnR X.prog X.w X.K X.mg X.base CX k (nm.fa f) (spO X.K nm W O f)) ∧ (∀ c k' f, T.cls[c]? = some k' → k'.init = some f → FnR X.prog X.w X.K X.mg X.base CX k (nm.fa f) (spI X.K nm W O c f)) ∧
    (∀ f n ks perm, nm.kw f n ks perm = true → FnK X.prog X.w X.K X.mg X.base CX k (nm.fa f) n ks perm (spO X.K nm W O f))
structure Ctx (T : Tab) (O : Orc) (nm : Nm) (X : Cx) (W : XK) : Prop where
  top : Top T nm X.K
  calm : X.calm = true
  nd : X.N.Nodup
  room : Room 1 X.A
  calls : CallsOk X nm W O
  fns : Fns T X nm W O
theorem cmpBack {X : Cx} {pins : List (Addr × Obj)} {σ : L2.St} {Q : VK} {v : Value} {s : Shared} (h : EP X pins σ Q v s) : PySem.W.CmpBack (EP X pins σ Q) v s := by
  obtain ⟨x, H', I, r, q⟩ := h
  cases v with
  | notImplemented => cases x <;> first | (cases r; done) | (obtain ⟨_, e⟩ := r; cases e)
  | _ => exact ⟨x, H', I, r, q⟩
section
variable {T : Tab} {O : Orc} {nm : Nm} {X : Cx} {W : XK} {g : Gh} {H : Hp} {cs : Cells} {pins : List (Addr × Obj)} {σ : L2.St} {s : Shared}
theorem inst_at {c : Nat} {fs : List (Nat × D)} {d : D} {v : V} {u : Value} (I : Inv X pins σ H s) (co : CsOk X.K nm g H cs) (r : BRep X.K nm g H d v) (rv : RelV v u) (e : deref d cs = .ins c fs) : ∃ a ox od, u = .ref a ∧ PySem.W.InstAt s.heap a ox (nm.ca c) od ∧ ox.data = .plain := by
  obtain ⟨a, dx, vs, rfl, h1, _⟩ := view_ins co r e
  cases rv
  obtain ⟨mA, ob, _⟩ := ins_get I.hok h1
  obtain ⟨od, J, _⟩ := ob.look
  exact ⟨a, _, _, rfl, J, rfl⟩
theorem clsOf_ins {d : D} {c : Nat} (h : clsOf d cs = some c) : ∃ fs, deref d cs = .ins c fs := by
  unfold clsOf at h
  cases q : deref d cs with
  | ins c' fs => rw [q] at h; cases h; exact ⟨fs, rfl⟩
  | _ => rw [q] at h; cases h
/-- a value, as soon as it is nobody's alone -/
theorem BRep.rep {d : D} {v : V} (h : BRep X.K nm g H d v) (hl : ∀ ds, d ≠ .lst ds) : Rep X.K nm g H d v := by
  rcases h with h | ⟨⟨ds, e⟩, _⟩
  · exact h
  · exact absurd e (hl ds)
/-- a method that Python asks for: what callM's Post gives -/
theorem callM_post {m : Nat} {d : D} {args : List D} {R : Gh → Hp → D → V → Prop} {Q : VK} (p : Post X.K nm W R g H (callM T O m d args cs) Q) : ∃ c fs f, deref d cs = .ins c fs ∧ methOf T c m = some f ∧ Post X.K nm W R g H (O false f (d :: args) cs) Q := by
  unfold callM at p
  cases q : clsOf d cs with
  | none => rw [q] at p; exact p.elim
  | some c =>
    rw [q] at p
    obtain ⟨fs, e⟩ := clsOf_ins q
    have p : Post X.K nm W R g H (match methOf T c m with
      | some f => O false f (d :: args) cs
      | none => .bad) Q := p
    cases q2 : methOf T c m with
    | none => rw [q2] at p; exact p.elim
    | some f =>
      rw [q2] at p
      exact ⟨c, fs, f, e, q2, p⟩
theorem methOf_ok {c m f : Nat} (C : Top T nm X.K) (h : methOf T c m = some f) : ∃ k, T.cls[c]? = some k ∧ Meth X.K (nm.ca c) (nm.mt m) (nm.fa f) := by
  unfold methOf at h
  cases q : T.cls[c]? with
  | none => rw [q] at h; cases h
  | some k => rw [q] at h; exact ⟨k, rfl, C.met c k m f q h⟩
end
section
variable {T : Tab} {O : Orc} {nm : Nm} {X : Cx} {W : XK}
/-- x op y where the class of x has a method for it, y of the same class -/
theorem own_bin {op : Operator} {m : Nat} (C : Ctx T O nm X W) (hm : nm.mt m = PySem.dunder op.info.2) {g : Gh} {H : Hp} {cs : Cells} {a b : D} {x y : V} {v u : Value} {Q : VK} {pins : List (Addr × Obj)} {σ : L2.St} {s : Shared}
    (I : Inv X pins σ H s) (co : CsOk X.K nm g H cs) (ra : Rep X.K nm g H a x) (rb : Rep X.K nm g H b y) (rv : RelV x v) (ru : RelV y u) (hc : clsOf a cs = clsOf b cs) (p : Post X.K nm W (Rep X.K nm) g H (callM T O m a [b] cs) Q) :
    wpAny (model X.prog X.w) X.A (binaryOp op v u) (EP X pins σ Q) X.xe s := by
  obtain ⟨c, fs, f, e, e2, p⟩ := callM_post p
  obtain ⟨k, hk, M⟩ := methOf_ok C.top e2
  obtain ⟨ad, ox, od, rfl, J, _⟩ := inst_at I co (.inl ra) rv e
  have hb : ∃ fs', deref b cs = .ins c fs' := by
    have : clsOf a cs = some c := by unfold clsOf; rw [e]
    rw [this] at hc
    exact clsOf_ins hc.symm
  obtain ⟨fs', e'⟩ := hb
  obtain ⟨ad', ox', od', rfl, J', _⟩ := inst_at I co (.inl rb) ru e'
  obtain ⟨mm, F⟩ := I.fr
  refine PySem.W.binop_K F I.ok.mod.kin J J'.type (C.top.sf c k hk) (by rw [← hm]; exact M.at_) M.fn ?_
  refine wpAny_mono (C.calls f _ pins s σ H [.ref ad, .ref ad'] [x, y] [a, b] cs g Q (.inl rfl) I (.cons rv (.cons ru .nil)) co (.cons ra (.cons rb .nil)) p) (fun _ _ z => cmpBack z) fun _ _ z => z
/-! ### + and its like -/
theorem o_add (C : Ctx T O nm X W) : OpR X (binaryOp .Add) (rD X.K nm W (Rep X.K nm) (Rep X.K nm) (binD T O .add)) := by
  intro pins s σ H x y v u Q I rv ru h
  obtain ⟨g, cs, a, b, co, ra, rb, p⟩ := h
  unfold binD at p
  cases a with
  | int i =>
    cases b with
    | int j =>
      have e1 := view_int (.inl ra) rfl
      have e2 := view_int (.inl rb) rfl
      subst e1 e2
      exact op_add pins s σ H _ _ v u Q I rv ru ⟨i, j, rfl, rfl, Post.ok p co (.int _)⟩
    | _ => exact p.elim
  | str i =>
    cases b with
    | str j =>
      have e1 := view_str (.inl ra) rfl
      have e2 := view_str (.inl rb) rfl
      subst e1 e2
      have p : Post X.K nm W (Rep X.K nm) g H (if i.length + j.length ≤ sizeLine then .ok (.str (i ++ j)) cs else .bad) Q := p
      split at p
      · rename_i hz
        exact op_add_str pins s σ H _ _ v u Q I rv ru ⟨i, j, rfl, rfl, hz, Post.ok p co (.str _)⟩
      · exact p.elim
    | _ => exact p.elim
  | lst xs =>
    cases b with
    | lst ys =>
      have p : Post X.K nm W (Rep X.K nm) g H (if xs.length + ys.length ≤ sizeLine then .ok (.lst (xs ++ ys)) cs else .bad) Q := p
      split at p
      · rename_i hz
        obtain ⟨a1, vs1, rfl, h1, r1⟩ := view_lst co (.inl ra) rfl
        obtain ⟨a2, vs2, rfl, h2, r2⟩ := view_lst co (.inl rb) rfl
        rw [r1.length, r2.length] at hz
        exact op_cat pins s σ H _ _ v u Q I rv ru ⟨a1, a2, vs1, vs2, rfl, rfl, h1, h2, hz, fun q hq => new_lst co (r1.append r2) hq p⟩
      · exact p.elim
    | _ => exact p.elim
  | tup xs =>
    cases b with
    | tup ys =>
      have p : Post X.K nm W (Rep X.K nm) g H (if xs.length + ys.length ≤ sizeLine then .ok (.tup (xs ++ ys)) cs else .bad) Q := p
      split at p
      · rename_i hz
        obtain ⟨a1, vs1, rfl, h1, r1⟩ := view_tup (.inl ra) (cs := cs) rfl
        obtain ⟨a2, vs2, rfl, h2, r2⟩ := view_tup (.inl rb) (cs := cs) rfl
        rw [r1.length, r2.length] at hz
        refine op_catA pins s σ H _ _ v u Q I rv ru ⟨a1, a2, vs1, vs2, rfl, rfl, h1, h2, hz, fun e => ?_, fun _ e => ?_, fun _ _ q hq => new_tup co (r1.append r2) hq p⟩
        · subst e
          cases r1
          exact Post.ok p co rb
        · subst e
          cases r2
          rw [List.append_nil] at p
          exact Post.ok p co ra
      · exact p.elim
    | _ => exact p.elim
  | ins c fs =>
    cases b with
    | ins c' fs' =>
      have p : Post X.K nm W (Rep X.K nm) g H (if c' = c then callM T O nAdd (.ins c fs) [.ins c' fs'] cs else .bad) Q := p
      split at p
      · rename_i ec
        subst ec
        exact own_bin C (op := .Add) (m := nAdd) (by rw [C.top.dn.2.1]; decide +kernel) I co ra rb rv ru rfl p
      · exact p.elim
    | _ => exact p.elim
  | _ => exact p.elim
theorem o_sub (C : Ctx T O nm X W) : OpR X (binaryOp .Sub) (rD X.K nm W (Rep X.K nm) (Rep X.K nm) (binD T O .sub)) := by
  intro pins s σ H x y v u Q I rv ru h
  obtain ⟨g, cs, a, b, co, ra, rb, p⟩ := h
  unfold binD at p
  cases a with
  | int i =>
    cases b with
    | int j =>
      have e1 := view_int (.inl ra) rfl
      have e2 := view_int (.inl rb) rfl
      subst e1 e2
      exact op_sub pins s σ H _ _ v u Q I rv ru ⟨i, j, rfl, rfl, Post.ok p co (.int _)⟩
    | _ => exact p.elim
  | ins c fs =>
    cases b with
    | ins c' fs' =>
      have p : Post X.K nm W (Rep X.K nm) g H (if c' = c then callM T O nSub (.ins c fs) [.ins c' fs'] cs else .bad) Q := p
      split at p
      · rename_i ec
        subst ec
        exact own_bin C (op := .Sub) (m := nSub) (by rw [C.top.dn.2.2.2.2.2.2.2.2.2.2.2.2]; decide +kernel) I co ra rb rv ru rfl p
      · exact p.elim
    | _ => exact p.elim
  | _ => exact p.elim
/-- two ints under a condition -/
theorem o_ints {op : Operator} {h : D → D → Cells → Res D} {C C' : Int → Int → Prop} [∀ i j, Decidable (C i j)] {f : Int → Int → Int} (ho : OpR X (binaryOp op) (rI C' fun i j => .int (f i j))) (w : ∀ i j, C i j → C' i j)
    (e : ∀ i j cs, h (.int i) (.int j) cs = if C i j then .ok (.int (f i j)) cs else .bad) (e2 : ∀ a b cs, (¬ ∃ i j, a = .int i ∧ b = .int j) → h a b cs = .bad) : OpR X (binaryOp op) (rD X.K nm W (Rep X.K nm) (Rep X.K nm) h) := by
  intro pins s σ H x y v u Q I rv ru q
  obtain ⟨g, cs, a, b, co, ra, rb, p⟩ := q
  by_cases z : ∃ i j, a = .int i ∧ b = .int j
  · obtain ⟨i, j, rfl, rfl⟩ := z
    have e1 := view_int (.inl ra) rfl
    have e2 := view_int (.inl rb) rfl
    subst e1 e2
    rw [e] at p
    split at p
    · rename_i hc
      exact ho pins s σ H _ _ v u Q I rv ru ⟨i, j, rfl, rfl, w i j hc, Post.ok p co (.int _)⟩
    · exact p.elim
  · rw [e2 a b cs z] at p
    exact p.elim
theorem o_mul : OpR X (binaryOp .Mult) (rD X.K nm W (Rep X.K nm) (Rep X.K nm) (binD T O .mul)) := by
  refine o_ints (C := fun i j => okMul i j = true) op_mul (fun i j h => okMul_iff.mp h) (fun i j cs => rfl) fun a b cs h => ?_
  unfold binD
  cases a <;> first | rfl | (cases b <;> first | rfl | exact absurd ⟨_, _, rfl, rfl⟩ h)
theorem o_fdiv : OpR X (binaryOp .FloorDiv) (rD X.K nm W (Rep X.K nm) (Rep X.K nm) (binD T O .fdiv)) := by
  refine o_ints (C := fun i j => okDiv j = true) op_fdivW (fun i j h => okDiv_ok h i) (fun i j cs => rfl) fun a b cs h => ?_
  unfold binD
  cases a <;> first | rfl | (cases b <;> first | rfl | exact absurd ⟨_, _, rfl, rfl⟩ h)
theorem o_mod : OpR X (binaryOp .Mod) (rD X.K nm W (Rep X.K nm) (Rep X.K nm) (binD T O .mod)) := by
  refine o_ints op_mod (fun i j h => h) (fun i j cs => rfl) fun a b cs h => ?_
  unfold binD
  cases a <;> first | rfl | (cases b <;> first | rfl | exact absurd ⟨_, _, rfl, rfl⟩ h)
theorem o_pow : OpR X (binaryOp .Pow) (rD X.K nm W (Rep X.K nm) (Rep X.K nm) (binD T O .pow)) := by
  refine o_ints (C := fun i j => okPow i j = true) op_pow (fun i j h => okPow_iff.mp h) (fun i j cs => rfl) fun a b cs h => ?_
  unfold binD
  cases a <;> first | rfl | (cases b <;> first | rfl | exact absurd ⟨_, _, rfl, rfl⟩ h)
/-! ### comparisons -/
theorem o_cmpI {op : Cop} {op' : CmpOp} {f : Int → Int → Bool} (ho : OpR X (compareOp op') (rI0 fun i j => .bl (f i j))) (e : ∀ i j cs, cmpI op (.int i) (.int j) cs = .ok (.bl (f i j)) cs)
    {pins : List (Addr × Obj)} {s : Shared} {σ : L2.St} {H : Hp} {x y : V} {v u : Value} {Q : VK} {g : Gh} {cs : Cells} {a b : D} (I : Inv X pins σ H s) (rv : RelV x v) (ru : RelV y u) (co : CsOk X.K nm g H cs) (ra : BRep X.K nm g H a x) (rb : BRep X.K nm g H b y)
    (p : Post X.K nm W (Rep X.K nm) g H (cmpI op a b cs) Q) : wpAny (model X.prog X.w) X.A (compareOp op' v u) (EP X pins σ Q) X.xe s := by
  by_cases z : ∃ i j, a = .int i ∧ b = .int j
  · obtain ⟨i, j, rfl, rfl⟩ := z
    have e1 := view_int ra rfl
    have e2 := view_int rb rfl
    subst e1 e2
    rw [e] at p
    exact ho pins s σ H _ _ v u Q I rv ru ⟨i, j, rfl, rfl, Post.ok p co (.bl _)⟩
  · have : cmpI op a b cs = .bad := by
      unfold cmpI
      cases op <;> first | rfl | (cases a <;> first | rfl | (cases b <;> first | rfl | exact absurd ⟨_, _, rfl, rfl⟩ z))
    rw [this] at p
    exact p.elim
theorem cmpI_bl {op : Cop} {a b : D} {cs cs' : Cells} {d : D} (h : cmpI op a b cs = .ok d cs') : ∃ k, d = .bl k := by
  unfold cmpI at h
  split at h <;> first | (cases h; done) | (injection h with h _; exact ⟨_, h.symm⟩)
mutual
theorem dp_of {g : Gh} {H : Hp} : ∀ {d : D} {v : V} {x : PyData}, Rep X.K nm g H d v → toPy d = some x → Dp X.K H v x
  | _, _, _, .non, e => by simp [toPy] at e; subst e; exact .non
  | _, _, _, .bl b, e => by simp [toPy] at e; subst e; exact .bl b
  | _, _, _, .int b, e => by simp [toPy] at e; subst e; exact .int b
  | _, _, _, .str b, e => by simp [toPy] at e; subst e; exact .str b
  | .tup ds, _, x, .tup h1 h2 h3, e => by
    simp only [toPy] at e
    cases q : toPys ds with
    | none => rw [q] at e; cases e
    | some xs => rw [q] at e; cases e; exact .tup (.of h2) (dps_of h3 q)
  | .tup ds, _, x, .tupK h1 h3, e => by
    simp only [toPy] at e
    cases q : toPys ds with
    | none => rw [q] at e; cases e
    | some xs => rw [q] at e; cases e; exact .tup (h1 H) (dps_of h3 q)
  | .lst ds, _, x, .lst h1 h2 h3, e => by
    simp only [toPy] at e
    cases q : toPys ds with
    | none => rw [q] at e; cases e
    | some xs => rw [q] at e; cases e; exact .lst (.of h2) (dps_of h3 q)
  | _, _, _, .scr _ _ _, e => by simp [toPy] at e
  | _, _, _, .scrK _ _, e => by simp [toPy] at e
  | _, _, _, .ins _ _ _, e => by simp [toPy] at e
  | _, _, _, .cell _, e => by simp [toPy] at e
theorem dps_of {g : Gh} {H : Hp} : ∀ {ds : List D} {vs : List V} {xs : List PyData}, Reps X.K nm g H ds vs → toPys ds = some xs → DpAll X.K H vs xs
  | _, _, _, .nil, e => by simp [toPys] at e; subst e; exact .nil
  | d :: ds, _, xs, .cons h t, e => by
    simp only [toPys] at e
    cases q : toPy d with
    | none => rw [q] at e; cases e
    | some y =>
      cases q2 : toPys ds with
      | none => rw [q, q2] at e; cases e
      | some ys => rw [q, q2] at e; cases e; exact .cons (dp_of h q) (dps_of t q2)
end
theorem dpB_of {g : Gh} {H : Hp} {d : D} {v : V} {x : PyData} (h : BRep X.K nm g H d v) (e : toPy d = some x) : Dp X.K H v x := by
  rcases h with h | ⟨⟨ds, rfl⟩, a, rfl, _, _, vs, q, r⟩
  · exact dp_of h e
  · simp only [toPy] at e
    cases q2 : toPys ds with
    | none => rw [q2] at e; cases e
    | some xs => rw [q2] at e; cases e; exact .lst (.of q) (dps_of r q2)
/-- == and != of data -/
theorem eqP_eq {a b : D} {cs : Cells} : (∃ x y, toPy a = some x ∧ toPy b = some y ∧ SeqAt.shaped x = true ∧ SeqAt.shaped y = true ∧ eqP a b cs = .ok (PyData.eqv x y) cs) ∨ eqP a b cs = .bad := by
  unfold eqP
  cases e1 : toPy a with
  | none => exact .inr rfl
  | some x =>
    cases e2 : toPy b with
    | none => exact .inr rfl
    | some y =>
      by_cases h : SeqAt.shaped x = true ∧ SeqAt.shaped y = true
      · exact .inl ⟨x, y, rfl, rfl, h.1, h.2, by simp only [if_pos h]⟩
      · exact .inr (by simp only [if_neg h])
section
variable {pins : List (Addr × Obj)} {s : Shared} {σ : L2.St} {H : Hp} {x y : V} {v u : Value} {Q : VK} {g : Gh} {cs : Cells} {a b : D}
theorem eqP_run (hu : X.A.units + 64 < cLine) (I : Inv X pins σ H s) (rv : RelV x v) (ru : RelV y u) (co : CsOk X.K nm g H cs) (ra : BRep X.K nm g H a x) (rb : BRep X.K nm g H b y) (p : Post X.K nm W (Rep X.K nm) g H ((eqP a b cs).bind fun r cs => .ok (.bl r) cs) Q) :
    wpAny (model X.prog X.w) X.A (compareOp .Eq v u) (EP X pins σ Q) X.xe s := by
  rcases eqP_eq (a := a) (b := b) (cs := cs) with ⟨d, e, h1, h2, h3, h4, h5⟩ | h5
  · rw [h5] at p
    exact op_eqD hu pins s σ H _ _ v u Q I rv ru ⟨d, e, dpB_of ra h1, dpB_of rb h2, h3, h4, Post.ok p co (.bl _)⟩
  · rw [h5] at p
    exact p.elim
theorem neP_run (hu : X.A.units + 64 < cLine) (I : Inv X pins σ H s) (rv : RelV x v) (ru : RelV y u) (co : CsOk X.K nm g H cs) (ra : BRep X.K nm g H a x) (rb : BRep X.K nm g H b y) (p : Post X.K nm W (Rep X.K nm) g H ((eqP a b cs).bind fun r cs => .ok (.bl (!r)) cs) Q) :
    wpAny (model X.prog X.w) X.A (compareOp .NotEq v u) (EP X pins σ Q) X.xe s := by
  rcases eqP_eq (a := a) (b := b) (cs := cs) with ⟨d, e, h1, h2, h3, h4, h5⟩ | h5
  · rw [h5] at p
    exact op_neD hu pins s σ H _ _ v u Q I rv ru ⟨d, e, dpB_of ra h1, dpB_of rb h2, h3, h4, Post.ok p co (.bl _)⟩
  · rw [h5] at p
    exact p.elim
end
end
end Dv
end
section
set_option Elab.async false
set_option linter.all false
set_option maxRecDepth 100000
set_option maxHeartbeats 4000000
namespace Dv
open PySem L2
section
variable {T : Tab} {O : Orc} {nm : Nm} {X : Cx} {W : XK}
section
variable {pins : List (Addr × Obj)} {s : Shared} {σ : L2.St} {H : Hp} {x y : V} {v u : Value} {Q : VK} {g : Gh} {cs : Cells} {a b : D}
theorem deref_id {d e : D} (h : deref d cs = e) (h1 : ∀ ds, e ≠ .lst ds) (h2 : ∀ c fs, e ≠ .ins c fs) (h3 : ∀ n, e ≠ .cell n) : d = e := by
  cases d with
  | cell n =>
    rw [deref_cell] at h
    cases q : cs[n]? with
    | none => rw [q] at h; exact absurd h.symm (h3 n)
    | some c =>
      rw [q] at h
      cases c with
      | lst ds => exact absurd h.symm (h1 ds)
      | ins c fs => exact absurd h.symm (h2 c fs)
  | _ => simpa [deref] using h
/-- the type of a value -/
def tyVal (nm : Nm) (d : D) (cs : Cells) : Value := match deref d cs with
  | .non => .type "NoneType"
  | .bl _ => .type "bool"
  | .int _ => .type "int"
  | .str _ => .type "str"
  | .tup _ => .type "tuple"
  | .lst _ => .type "list"
  | .dic _ => .type "dict"
  | .ins c _ => .ref (nm.ca c)
  | _ => .none
theorem looks_ty (C : Top T nm X.K) {M : Model} (I : Inv X pins σ H s) (co : CsOk X.K nm g H cs) (r : BRep X.K nm g H a x) (rv : RelV x v) (h : tyOk T a cs = true) : PySem.W.Looks M s.heap (typeOf v) (tyVal nm a cs) := by
  unfold tyVal
  unfold tyOk at h
  cases q : deref a cs with
  | non =>
    have e := view_non r (deref_id q (fun _ z => nomatch z) (fun _ _ z => nomatch z) (fun _ z => nomatch z))
    subst e; cases rv
    exact .of_pure rfl
  | bl b =>
    have e := view_bl r (deref_id q (fun _ z => nomatch z) (fun _ _ z => nomatch z) (fun _ z => nomatch z))
    subst e; cases rv
    exact .of_pure rfl
  | int b =>
    have e := view_int r (deref_id q (fun _ z => nomatch z) (fun _ _ z => nomatch z) (fun _ z => nomatch z))
    subst e; obtain ⟨t, rfl⟩ := rv
    exact .of_pure rfl
  | str b =>
    have e := view_str r (deref_id q (fun _ z => nomatch z) (fun _ _ z => nomatch z) (fun _ z => nomatch z))
    subst e; obtain ⟨t, rfl⟩ := rv
    exact .of_pure rfl
  | tup ds =>
    obtain ⟨ad, vs, rfl, h1, _⟩ := view_tup r q
    cases rv
    obtain ⟨its, _, ⟨o, ho, hc, _⟩, _⟩ := I.tuple h1
    exact hc ▸ (PySem.W.Looks.ld ho).andThen .now
  | lst ds =>
    obtain ⟨ad, vs, rfl, h1, _⟩ := view_lst co r q
    cases rv
    obtain ⟨its, _, ⟨o, _, ho, hc, _⟩, _⟩ := I.list (SqL.of h1)
    exact hc ▸ (PySem.W.Looks.ld ho).andThen .now
  | dic kvs =>
    have e := deref_id q (fun _ z => nomatch z) (fun _ _ z => nomatch z) (fun _ z => nomatch z)
    subst e
    rcases r with r | ⟨⟨_, z⟩, _⟩
    · cases r
    · cases z
  | ins c fs =>
    obtain ⟨ad, ox, od, rfl, J, _⟩ := inst_at I co r rv q
    exact J.type
  | cell n => rw [q] at h; cases h
  | scr ds => rw [q] at h; cases h
theorem not_first (C : Top T nm X.K) {c : Nat} {k : Cl} (hk : T.cls[c]? = some k) (h : tyOk T b cs = true) : PySem.W.notFirst X.K (nm.ca c) (tyVal nm b cs) = true := by
  unfold tyVal
  unfold tyOk at h
  cases q : deref b cs with
  | non => exact C.nfT c k _ hk (by decide)
  | bl _ => exact C.nfT c k _ hk (by decide)
  | int _ => exact C.nfT c k _ hk (by decide)
  | str _ => exact C.nfT c k _ hk (by decide)
  | tup _ => exact C.nfT c k _ hk (by decide)
  | lst _ => exact C.nfT c k _ hk (by decide)
  | dic _ => exact C.nfT c k _ hk (by decide)
  | ins c' fs =>
    rw [q] at h
    obtain ⟨k', hk'⟩ := Option.isSome_iff_exists.mp h
    exact C.nfC c k c' k' hk hk'
  | cell n => rw [q] at h; cases h
  | scr ds => rw [q] at h; cases h
theorem bind_isBl {r : Res D} {γ : Type} {R : Gh → Hp → γ → V → Prop} {k : Bool → Cells → Res γ} (p : Post X.K nm W R g H ((r.bind isBl).bind k) Q) :
    Post X.K nm W (Rep X.K nm) g H r fun v' H1 => ∃ b g1 cs1, v' = .bl b ∧ Ext g H g1 H1 ∧ CsOk X.K nm g1 H1 cs1 ∧ Post X.K nm W R g1 H1 (k b cs1) Q := by
  cases r with
  | ok d cs' =>
    intro v' g1 H1 e1 c1 r1
    cases d with
    | bl b =>
      cases r1
      have p : Post X.K nm W R g H (k b cs') Q := p
      exact ⟨b, g1, cs', rfl, e1, c1, Post.mono p e1⟩
    | _ => exact p.elim
  | exc d cs' => exact p
  | bad => exact p
/-- x == y by x's own method -/
theorem eqO_run (C : Ctx T O nm X W) (I : Inv X pins σ H s) (rv : RelV x v) (ru : RelV y u) (co : CsOk X.K nm g H cs) (ra : Rep X.K nm g H a x) (rb : Rep X.K nm g H b y)
    (p : Post X.K nm W (Rep X.K nm) g H ((eqO T O a b cs).bind fun r cs => .ok (.bl r) cs) Q) : wpAny (model X.prog X.w) X.A (compareOp .Eq v u) (EP X pins σ Q) X.xe s := by
  unfold eqO at p
  split at p
  · rename_i ht
    obtain ⟨c, fs, f, e, e2, p⟩ := callM_post (R := Rep X.K nm) (bind_isBl p)
    obtain ⟨k, hk, M⟩ := methOf_ok C.top e2
    obtain ⟨ad, ox, od, rfl, J, _⟩ := inst_at I co (.inl ra) rv e
    obtain ⟨mm, F⟩ := I.fr
    refine PySem.W.cmp_ofEq (PySem.W.cmp_K (op := .Eq) C.room.units0 F I.ok.mod.kin J (looks_ty C.top I co (.inl rb) ru ht) (not_first C.top hk ht) (by rw [show (cmpInfo .Eq).2.1 = ("__eq__" : Str) from rfl, ← C.top.dn.1]; exact M.at_) M.fn ?_)
    refine wpAny_mono (C.calls f _ pins s σ H [.ref ad, u] [x, y] [a, b] cs g _ (.inl rfl) I (.cons rv (.cons ru .nil)) co (.cons ra (.cons rb .nil)) p) (fun v' s' z => cmpBack ?_) fun _ _ z => z
    obtain ⟨w, H', I', r', b', g1, cs1, rfl, e1, c1, p1⟩ := z
    exact ⟨_, H', I', r', Post.ok p1 c1 (.bl _)⟩
  · exact p.elim
theorem neO_run (C : Ctx T O nm X W) (I : Inv X pins σ H s) (rv : RelV x v) (ru : RelV y u) (co : CsOk X.K nm g H cs) (ra : Rep X.K nm g H a x) (rb : Rep X.K nm g H b y)
    (p : Post X.K nm W (Rep X.K nm) g H ((eqO T O a b cs).bind fun r cs => .ok (.bl (!r)) cs) Q) : wpAny (model X.prog X.w) X.A (compareOp .NotEq v u) (EP X pins σ Q) X.xe s := by
  unfold eqO at p
  split at p
  · rename_i ht
    obtain ⟨c, fs, f, e, e2, p⟩ := callM_post (R := Rep X.K nm) (bind_isBl p)
    obtain ⟨k, hk, M⟩ := methOf_ok C.top e2
    obtain ⟨ad, ox, od, rfl, J, _⟩ := inst_at I co (.inl ra) rv e
    have hm : k.meths.lookup nEq = some f := by
      have := e2
      unfold methOf at this
      rw [hk] at this
      exact this
    obtain ⟨hne, hob⟩ := C.top.ne c k f hk hm
    refine PySem.W.cmp_ofNotEq (ne_K (by have := C.room.units; omega) I.kIn J (looks_ty C.top I co (.inl rb) ru ht) (not_first C.top hk ht) (by rw [← C.top.dn.1]; exact M.at_) M.fn hne hob ?_)
    refine wpAny_mono (C.calls f _ pins s σ H [.ref ad, u] [x, y] [a, b] cs g _ (.inr (.inl rfl)) I (.cons rv (.cons ru .nil)) co (.cons ra (.cons rb .nil)) p) (fun v' s' z => ?_) fun _ _ z => z
    obtain ⟨w, H', I', r', b', g1, cs1, rfl, e1, c1, p1⟩ := z
    exact ⟨b', r', .bl (!b'), H', I', rfl, Post.ok p1 c1 (.bl _)⟩
  · exact p.elim
/-! ### in -/
theorem flat_ok {d : D} {w z : V} (r : Rep X.K nm g H d w) (e : flatD d = some z) : w = z ∧ flatV z = true := by
  cases d <;> first | (cases e; done) | skip
  all_goals (cases e; cases r; exact ⟨rfl, rfl⟩)
theorem flats_ok : ∀ {ds : List D} {ws zs : List V}, Reps X.K nm g H ds ws → flats ds = some zs → ws = zs ∧ zs.all flatV = true
  | [], _, _, .nil, e => by cases e; exact ⟨rfl, rfl⟩
  | d :: ds, _, zs, .cons h t, e => by
    simp only [flats] at e
    cases q : flatD d with
    | none => rw [q] at e; cases e
    | some z1 =>
      cases q2 : flats ds with
      | none => rw [q, q2] at e; cases e
      | some zs1 =>
        rw [q, q2] at e
        cases e
        obtain ⟨rfl, h1⟩ := flat_ok h q
        obtain ⟨rfl, h2⟩ := flats_ok t q2
        exact ⟨rfl, by rw [List.all_cons, h1, h2]; rfl⟩
theorem flatB_ok {d : D} {w z : V} (r : BRep X.K nm g H d w) (e : flatD d = some z) : w = z ∧ flatV z = true := flat_ok (r.rep (fun ds h => by subst h; cases e)) e
theorem in1_run {neg : Bool} (I : Inv X pins σ H s) (rv : RelV x v) (ru : RelV y u) (co : CsOk X.K nm g H cs) (ra : BRep X.K nm g H a x) (rb : BRep X.K nm g H b y)
    (p : Post X.K nm W (Rep X.K nm) g H (ofRes cs ((isIn1 a (deref b cs)).map fun r => D.bl (if neg = true then !r else r))) Q) : wpAny (model X.prog X.w) X.A (compareOp (if neg = true then .NotIn else .In) v u) (EP X pins σ Q) X.xe s := by
  have seq : ∀ {ds : List D} {ad : Addr} {vs : List V}, y = .ref ad → (SqL X.K H ad vs ∨ SqT X.K H ad vs) → Reps X.K nm g H ds vs → Post X.K nm W (Rep X.K nm) g H (ofRes cs ((match flatD a, flats ds with
      | some x, some xs => some (inV x xs)
      | _, _ => none).map fun r => D.bl (if neg = true then !r else r))) Q → wpAny (model X.prog X.w) X.A (compareOp (if neg = true then .NotIn else .In) v u) (EP X pins σ Q) X.xe s := by
    intro ds ad vs ey hs hr p
    cases q1 : flatD a with
    | none => rw [q1] at p; exact p.elim
    | some z1 =>
      cases q2 : flats ds with
      | none => rw [q1, q2] at p; exact p.elim
      | some zs =>
        rw [q1, q2] at p
        obtain ⟨rfl, f1⟩ := flatB_ok ra q1
        obtain ⟨rfl, f2⟩ := flats_ok hr q2
        have p : Post X.K nm W (Rep X.K nm) g H (.ok (.bl (if neg = true then !inV x vs else inV x vs)) cs) Q := p
        cases neg with
        | false => exact op_in_seq pins s σ H _ _ v u Q I rv ru ⟨ad, vs, ey, hs, f1, f2, Post.ok p co (.bl _)⟩
        | true => exact op_notIn_seq pins s σ H _ _ v u Q I rv ru ⟨ad, vs, ey, hs, f1, f2, Post.ok p co (.bl _)⟩
  cases q : deref b cs with
  | str z =>
    have e := view_str rb (deref_id q (fun _ z => nomatch z) (fun _ _ z => nomatch z) (fun _ z => nomatch z))
    subst e
    rw [q] at p
    cases a with
    | str c =>
      have e := view_str ra rfl
      subst e
      obtain ⟨⟨l⟩⟩ := c
      have no : ∀ l : List Nat, l.length ≠ 1 → isIn1 (D.str ⟨⟨l⟩⟩) (.str z) = none := fun l hl => by
        show (if (⟨l⟩ : Array Nat).size = 1 then _ else none) = none
        rw [if_neg (by simpa using hl)]
      cases l with
      | nil => rw [no [] (by decide)] at p; exact p.elim
      | cons n r =>
        cases r with
        | cons m r => rw [no (n :: m :: r) (by simp)] at p; exact p.elim
        | nil =>
          have e : isIn1 (D.str ⟨⟨[n]⟩⟩) (.str z) = some (decide (n ∈ z.cps.toList)) := rfl
          rw [e] at p
          cases neg with
          | false => exact op_in_sign pins s σ H _ _ v u Q I rv ru ⟨n, z, rfl, rfl, Post.ok (a := D.bl (decide (n ∈ z.cps.toList))) p co (.bl _)⟩
          | true => exact op_notIn_sign pins s σ H _ _ v u Q I rv ru ⟨n, z, rfl, rfl, Post.ok (a := D.bl (!decide (n ∈ z.cps.toList))) p co (.bl _)⟩
    | _ => exact p.elim
  | lst ds =>
    rw [q] at p
    obtain ⟨ad, vs, e, h1, h2⟩ := view_lst co rb q
    exact seq e (.inl (.of h1)) h2 p
  | tup ds =>
    rw [q] at p
    obtain ⟨ad, vs, e, h1, h2⟩ := view_tup rb q
    exact seq e (.inr h1) h2 p
  | _ => rw [q] at p; exact p.elim
end
end
end Dv
end
section
set_option Elab.async false
set_option linter.all false
set_option maxRecDepth 100000
set_option maxHeartbeats 4000000
namespace Dv
open PySem L2
section
variable {T : Tab} {O : Orc} {nm : Nm} {X : Cx} {W : XK}
section
variable {pins : List (Addr × Obj)} {s : Shared} {σ : L2.St} {H : Hp} {x y : V} {v u : Value} {Q : VK} {g : Gh} {cs : Cells} {a b : D}
theorem clsOf_none {d : D} (h : clsOf d cs = none) : ∀ c fs, deref d cs ≠ .ins c fs := by
  intro c fs e
  unfold clsOf at h
  rw [e] at h
  cases h
theorem tru_run {d : D} {w : V} {r : Value} {f : Bool → V} {Q : VK} {g : Gh} {H : Hp} {cs : Cells} {s : Shared} {k : Bool → Cells → Res D} (I : Inv X pins σ H s) (co : CsOk X.K nm g H cs) (rd : Rep X.K nm g H d w) (rv : RelV w r)
    (p : Post X.K nm W (Rep X.K nm) g H ((truth d cs).bind k) Q) {P : Bool → Shared → Prop} {A : Around} {E : Value → Shared → Prop}
    (h : ∀ b s' g1 cs1 H1, Inv X pins σ H1 s' → CsOk X.K nm g1 H1 cs1 → Post X.K nm W (Rep X.K nm) g1 H1 (k b cs1) Q → P b s') : wpAny (model X.prog X.w) X.A (truthy r) P X.xe s := by
  obtain ⟨b, hb, k', g2, cs2, e2, c2, rfl, p2⟩ := tru_post co (.inl rd) (Post.bind (R := fun _ _ a b => a = b) p)
  refine thn (tru_ok pins s σ H w r (fun c H2 => c = k' ∧ H2 = H) I rv ⟨k', hb, rfl, rfl⟩) fun c s2 hc => ?_
  obtain ⟨H2, I2, rfl, rfl⟩ := hc
  exact h _ s2 g2 cs2 _ I2 c2 p2
/-- x in y by y's own method -/
theorem inO_run (C : Ctx T O nm X W) (I : Inv X pins σ H s) (rv : RelV x v) (ru : RelV y u) (co : CsOk X.K nm g H cs) (ra : Rep X.K nm g H a x) (rb : Rep X.K nm g H b y) (neg : Bool)
    (p : Post X.K nm W (Rep X.K nm) g H ((callM T O nCont b [a] cs).bind fun r cs => (truth r cs).bind fun k cs => .ok (.bl (if neg = true then !k else k)) cs) Q) : wpAny (model X.prog X.w) X.A (compareOp (if neg = true then .NotIn else .In) v u) (EP X pins σ Q) X.xe s := by
  obtain ⟨c, fs, f, e, e2, p⟩ := callM_post (R := Rep X.K nm) (Post.bind (R := Rep X.K nm) p)
  obtain ⟨k, hk, M⟩ := methOf_ok C.top e2
  obtain ⟨ad, ox, od, rfl, J, _⟩ := inst_at I co (.inl rb) ru e
  obtain ⟨mm, F⟩ := I.fr
  have hs : PySem.W.findIn X.K (.ref (nm.ca c)) "__contains__" = some (some (.ref (nm.fa f))) := by rw [← C.top.dn.2.2.2.2.2.2.2.1]; exact M.at_
  have z := C.calls f _ pins s σ H [.ref ad, v] [y, x] [b, a] cs g _ (.inl rfl) I (.cons ru (.cons rv .nil)) co (.cons rb (.cons ra .nil)) p
  cases neg with
  | false =>
    refine PySem.W.in_K F I.ok.mod.kin J hs M.fn (wpAny_mono z (fun r s' q => ?_) fun _ _ z => z)
    obtain ⟨w, H', I', r', d, g1, cs1, e1, c1, rd, p1⟩ := q
    exact tru_run (f := fun _ => .non) (A := X.A) (E := X.xe) I' c1 rd r' p1 fun b s2 g2 cs2 H2 I2 c2 p2 => ⟨.bl b, H2, I2, rfl, Post.ok p2 c2 (.bl _)⟩
  | true =>
    refine PySem.W.notIn_K F I.ok.mod.kin J hs M.fn (wpAny_mono z (fun r s' q => ?_) fun _ _ z => z)
    obtain ⟨w, H', I', r', d, g1, cs1, e1, c1, rd, p1⟩ := q
    exact tru_run (f := fun _ => .non) (A := X.A) (E := X.xe) I' c1 rd r' p1 fun b s2 g2 cs2 H2 I2 c2 p2 => ⟨.bl (!b), H2, I2, rfl, Post.ok p2 c2 (.bl _)⟩
end
def copOp : Cop → CmpOp
  | .eq => .Eq
  | .ne => .NotEq
  | .lt => .Lt
  | .le => .LtE
  | .gt => .Gt
  | .ge => .GtE
  | .isin => .In
  | .notin => .NotIn
theorem o_cmp (C : Ctx T O nm X W) (op : Cop) : OpR X (compareOp (copOp op)) (rD X.K nm W (Rep X.K nm) (Rep X.K nm) (cmpD T O op)) := by
  intro pins s σ H x y v u Q I rv ru h
  obtain ⟨g, cs, a, b, co, ra, rb, p⟩ := h
  have hu : X.A.units + 64 < cLine := C.room.units
  cases op with
  | eq =>
    have p : Post X.K nm W (Rep X.K nm) g H ((eqD T O a b cs).bind fun r cs => .ok (.bl r) cs) Q := p
    unfold eqD at p
    cases q : clsOf a cs with
    | none => rw [q] at p; exact eqP_run hu I rv ru co (.inl ra) (.inl rb) p
    | some c => rw [q] at p; exact eqO_run C I rv ru co ra rb p
  | ne =>
    have p : Post X.K nm W (Rep X.K nm) g H ((eqD T O a b cs).bind fun r cs => .ok (.bl (!r)) cs) Q := p
    unfold eqD at p
    cases q : clsOf a cs with
    | none => rw [q] at p; exact neP_run hu I rv ru co (.inl ra) (.inl rb) p
    | some c => rw [q] at p; exact neO_run C I rv ru co ra rb p
  | isin =>
    have p : Post X.K nm W (Rep X.K nm) g H (match clsOf b cs with
      | some _ => (callM T O nCont b [a] cs).bind fun r cs => (truth r cs).bind fun k cs => .ok (.bl k) cs
      | none => ofRes cs ((isIn1 a (deref b cs)).map .bl)) Q := p
    cases q : clsOf b cs with
    | none => rw [q] at p; exact in1_run (neg := false) I rv ru co (.inl ra) (.inl rb) p
    | some c => rw [q] at p; exact inO_run C I rv ru co ra rb false p
  | notin =>
    have p : Post X.K nm W (Rep X.K nm) g H (match clsOf b cs with
      | some _ => (callM T O nCont b [a] cs).bind fun r cs => (truth r cs).bind fun k cs => .ok (.bl (!k)) cs
      | none => ofRes cs ((isIn1 a (deref b cs)).map fun r => .bl (!r))) Q := p
    cases q : clsOf b cs with
    | none => rw [q] at p; exact in1_run (neg := true) I rv ru co (.inl ra) (.inl rb) p
    | some c => rw [q] at p; exact inO_run C I rv ru co ra rb true p
  | lt => exact o_cmpI (op := .lt) op_lt (fun _ _ _ => rfl) I rv ru co (.inl ra) (.inl rb) p
  | le => exact o_cmpI (op := .le) op_le (fun _ _ _ => rfl) I rv ru co (.inl ra) (.inl rb) p
  | gt => exact o_cmpI (op := .gt) op_gt (fun _ _ _ => rfl) I rv ru co (.inl ra) (.inl rb) p
  | ge => exact o_cmpI (op := .ge) op_ge (fun _ _ _ => rfl) I rv ru co (.inl ra) (.inl rb) p
theorem o_cmpB (C : Ctx T O nm X W) (op : Cop) : OpR X (compareOp (copOp op)) (rD X.K nm W (BRep X.K nm) (BRep X.K nm) (cmpBD op)) := by
  intro pins s σ H x y v u Q I rv ru h
  obtain ⟨g, cs, a, b, co, ra, rb, p⟩ := h
  have hu : X.A.units + 64 < cLine := C.room.units
  cases op with
  | eq => exact eqP_run hu I rv ru co ra rb p
  | ne => exact neP_run hu I rv ru co ra rb p
  | isin => exact in1_run (neg := false) I rv ru co ra rb p
  | notin => exact in1_run (neg := true) I rv ru co ra rb p
  | lt => exact o_cmpI (op := .lt) op_lt (fun _ _ _ => rfl) I rv ru co ra rb p
  | le => exact o_cmpI (op := .le) op_le (fun _ _ _ => rfl) I rv ru co ra rb p
  | gt => exact o_cmpI (op := .gt) op_gt (fun _ _ _ => rfl) I rv ru co ra rb p
  | ge => exact o_cmpI (op := .ge) op_ge (fun _ _ _ => rfl) I rv ru co ra rb p
theorem bind_bl {α : Type} {r : Res α} {f : α → D} (hf : ∀ a, ∃ k, f a = .bl k) {d : D} {cs' : Cells} (h : (r.bind fun a cs => .ok (f a) cs) = .ok d cs') : ∃ k, d = .bl k := by
  cases r with
  | ok a cs =>
    obtain ⟨k, e⟩ := hf a
    injection h with h1 _
    exact ⟨k, by rw [← h1, e]⟩
  | exc _ _ => cases h
  | bad => cases h
theorem ofRes_bl {cs cs' : Cells} {o : Option Bool} {f : Bool → D} (hf : ∀ a, ∃ k, f a = .bl k) {d : D} (h : ofRes cs (o.map f) = .ok d cs') : ∃ k, d = .bl k := by
  cases o with
  | none => cases h
  | some b =>
    obtain ⟨k, e⟩ := hf b
    injection h with h1 _
    exact ⟨k, by rw [← h1, e]⟩
theorem in_bl {r : Res D} {f : Bool → D} (hf : ∀ a, ∃ k, f a = .bl k) {d : D} {cs' : Cells} (h : (r.bind fun x cs => (truth x cs).bind fun k cs => .ok (f k) cs) = .ok d cs') : ∃ k, d = .bl k := by
  cases r with
  | ok a cs => exact bind_bl hf h
  | exc _ _ => cases h
  | bad => cases h
theorem cmpD_bl {op : Cop} (a b : D) (cs : Cells) (d : D) (cs' : Cells) (h : cmpD T O op a b cs = .ok d cs') : ∃ k, d = .bl k := by
  cases op with
  | eq => exact bind_bl (fun a => ⟨a, rfl⟩) h
  | ne => exact bind_bl (fun a => ⟨!a, rfl⟩) h
  | isin =>
    simp only [cmpD] at h
    split at h
    · exact in_bl (fun a => ⟨a, rfl⟩) h
    · exact ofRes_bl (fun a => ⟨a, rfl⟩) h
  | notin =>
    simp only [cmpD] at h
    split at h
    · exact in_bl (fun a => ⟨!a, rfl⟩) h
    · exact ofRes_bl (fun a => ⟨!a, rfl⟩) h
  | lt => exact cmpI_bl (op := .lt) h
  | le => exact cmpI_bl (op := .le) h
  | gt => exact cmpI_bl (op := .gt) h
  | ge => exact cmpI_bl (op := .ge) h
theorem cmpBD_bl {op : Cop} (a b : D) (cs : Cells) (d : D) (cs' : Cells) (h : cmpBD op a b cs = .ok d cs') : ∃ k, d = .bl k := by
  cases op with
  | eq => exact bind_bl (fun a => ⟨a, rfl⟩) h
  | ne => exact bind_bl (fun a => ⟨!a, rfl⟩) h
  | isin => exact ofRes_bl (fun a => ⟨a, rfl⟩) h
  | notin => exact ofRes_bl (fun a => ⟨!a, rfl⟩) h
  | lt => exact cmpI_bl (op := .lt) h
  | le => exact cmpI_bl (op := .le) h
  | gt => exact cmpI_bl (op := .gt) h
  | ge => exact cmpI_bl (op := .ge) h
section
variable {a b c e : Expr} {es : List Expr} {fa fb fc : Env → Cells → Res D} {pos : Pos} {na nb nc : Den}
/-! ### a chain of two comparisons -/
theorem d_chain {op op' : CmpOp} {h h' : D → D → Cells → Res D} (ho : OpR X (compareOp op) (rD X.K nm W (Rep X.K nm) (Rep X.K nm) h)) (ho' : OpR X (compareOp op') (rD X.K nm W (Rep X.K nm) (Rep X.K nm) h')) (ha : DE X nm W a na) (hb : DE X nm W b nb) (hc : DE X nm W c nc)
    (hbl : ∀ x y cs d cs', h x y cs = .ok d cs' → ∃ k, d = .bl k) (hbl' : ∀ x y cs d cs', h' x y cs = .ok d cs' → ∃ k, d = .bl k) (hm : lastMarks [op, op'] [b, c] = false) :
    DE X nm W (.Compare a [op, op'] [b, c] pos) (ofV fun ρ cs => (na.v ρ cs).bind fun x cs => (nb.v ρ cs).bind fun y cs => (h x y cs).bind fun r cs => (match r with
      | .bl true => (nc.v ρ cs).bind fun z cs => h' y z cs
      | .bl false => .ok (.bl false) cs
      | _ => .bad)) := by
  have main : ∀ σ H Q, tV X.K nm W (fun ρ cs => (na.v ρ cs).bind fun x cs => (nb.v ρ cs).bind fun y cs => (h x y cs).bind fun r cs => (match r with
      | .bl true => (nc.v ρ cs).bind fun z cs => h' y z cs
      | .bl false => .ok (.bl false) cs
      | _ => .bad)) σ H Q → tChain (rD X.K nm W (Rep X.K nm) (Rep X.K nm) h) (rD X.K nm W (Rep X.K nm) (Rep X.K nm) h') (tV X.K nm W na.v) (tV X.K nm W nb.v) (tV X.K nm W nc.v) σ H Q := by
    intro σ H Q q
    obtain ⟨g, ρ, cs, en, c, p⟩ := q
    refine ⟨g, ρ, cs, en, c, (Post.bind (R := Rep X.K nm) p).imp ?_⟩
    rintro x H1 ⟨dx, g1, cs1, e1, c1, r1, p1⟩
    have en1 := en.mono e1 c.ok
    refine ⟨g1, ρ, cs1, en1, c1, (Post.bind (R := Rep X.K nm) p1).imp ?_⟩
    rintro y H2 ⟨dy, g2, cs2, e2, c2, r2, p2⟩
    have en2 := en1.mono e2 c1.ok
    refine ⟨g2, cs2, dx, dy, c2, r1.mono e2 c1.ok, r2, ?_⟩
    cases hr : h dx dy cs2 with
    | ok d cs3 =>
      obtain ⟨k, rfl⟩ := hbl _ _ _ _ _ hr
      rw [hr] at p2
      intro z g3 H3 e3 c3 r3
      cases r3
      refine ⟨k, rfl, ?_⟩
      cases k with
      | true =>
        have p2 : Post X.K nm W (Rep X.K nm) g2 H2 ((nc.v ρ cs3).bind fun z cs => h' dy z cs) Q := p2
        refine ⟨g3, ρ, cs3, en2.mono e3 c2.ok, c3, (Post.bind (R := Rep X.K nm) (Post.mono p2 e3)).imp ?_⟩
        rintro z H4 ⟨dz, g4, cs4, e4, c4, r4, p4⟩
        exact ⟨g4, cs4, dy, dz, c4, (r2.mono e3 c2.ok).mono e4 c3.ok, r4, p4⟩
      | false => exact Post.okE (a := D.bl false) p2 e3 c3 (.bl _)
    | exc d cs3 => rw [hr] at p2; exact p2
    | bad => rw [hr] at p2; exact p2
  have hv : PE X (.Compare a [op, op'] [b, c] pos) (tV X.K nm W _) := (pe_chain ho ho' ha.v hb.v hc.v hm).imp main
  refine ⟨hv, d_B hv, (pt_chain ho ho' ha.v hb.v hc.v hm).imp fun σ H Q q => main σ H _ (to_bool (fun ρ cs d cs' e => ?_) q)⟩
  cases e1 : na.v ρ cs with
  | ok x cs1 =>
    rw [e1] at e
    have e : ((nb.v ρ cs1).bind fun y cs => (h x y cs).bind fun r cs => (match r with
      | .bl true => (nc.v ρ cs).bind fun z cs => h' y z cs
      | .bl false => .ok (.bl false) cs
      | _ => .bad)) = .ok d cs' := e
    cases e2 : nb.v ρ cs1 with
    | ok y cs2 =>
      rw [e2] at e
      have e : ((h x y cs2).bind fun r cs => (match r with
        | .bl true => (nc.v ρ cs).bind fun z cs => h' y z cs
        | .bl false => .ok (.bl false) cs
        | _ => .bad)) = .ok d cs' := e
      cases e3 : h x y cs2 with
      | ok r cs3 =>
        obtain ⟨k, rfl⟩ := hbl _ _ _ _ _ e3
        rw [e3] at e
        cases k with
        | true =>
          have e : ((nc.v ρ cs3).bind fun z cs => h' y z cs) = .ok d cs' := e
          cases e4 : nc.v ρ cs3 with
          | ok z cs4 => rw [e4] at e; exact hbl' _ _ _ _ _ e
          | exc _ _ => rw [e4] at e; cases e
          | bad => rw [e4] at e; cases e
        | false =>
          have e : Res.ok (D.bl false) cs3 = .ok d cs' := e
          injection e with e _
          exact ⟨false, e.symm⟩
      | exc _ _ => rw [e3] at e; cases e
      | bad => rw [e3] at e; cases e
    | exc _ _ => rw [e2] at e; cases e
    | bad => rw [e2] at e; cases e
  | exc _ _ => rw [e1] at e; cases e
  | bad => rw [e1] at e; cases e
/-! ### one operand -/
theorem d_isN (ha : DE X nm W a na) {j : Nat} {pos' : Pos} : DE X nm W (.Compare a [.Is] [.Constant .none j pos'] pos) (ofV fun ρ cs => (na.v ρ cs).bind fun x cs => .ok (.bl (match x with
    | .non => true
    | _ => false)) cs) := by
  have k : ∀ {g : Gh} {H : Hp} {x : D} {v : V}, Rep X.K nm g H x v → (match x with | .non => true | _ => false) = decide (v = .non) := fun r => by cases r <;> rfl
  have main : ∀ σ H Q, tV X.K nm W (fun ρ cs => (na.v ρ cs).bind fun x cs => .ok (.bl (match x with
    | .non => true
    | _ => false)) cs) σ H Q → tIsN (tV X.K nm W na.v) σ H Q := by
    intro σ H Q q
    obtain ⟨g, ρ, cs, en, c, p⟩ := q
    refine ⟨g, ρ, cs, en, c, (Post.bind (R := Rep X.K nm) p).imp ?_⟩
    rintro x H1 ⟨dx, g1, cs1, e1, c1, r1, p1⟩
    rw [k r1] at p1
    exact Post.ok p1 c1 (.bl _)
  have hv := (pe_cmp (pos := pos) (pc_isN (j := j) (pos' := pos') ha.v)).imp main
  refine ⟨hv, d_B hv, (pt_cmp (pc_isN ha.v)).imp fun σ H Q q => main σ H _ (to_bool (fun ρ cs d cs' e => bind_bl (fun a => ⟨_, rfl⟩) e) q)⟩
theorem d_notN (ha : DE X nm W a na) {j : Nat} {pos' : Pos} : DE X nm W (.Compare a [.IsNot] [.Constant .none j pos'] pos) (ofV fun ρ cs => (na.v ρ cs).bind fun x cs => .ok (.bl (match x with
    | .non => false
    | _ => true)) cs) := by
  have k : ∀ {g : Gh} {H : Hp} {x : D} {v : V}, Rep X.K nm g H x v → (match x with | .non => false | _ => true) = !decide (v = .non) := fun r => by cases r <;> rfl
  have main : ∀ σ H Q, tV X.K nm W (fun ρ cs => (na.v ρ cs).bind fun x cs => .ok (.bl (match x with
    | .non => false
    | _ => true)) cs) σ H Q → tNotN (tV X.K nm W na.v) σ H Q := by
    intro σ H Q q
    obtain ⟨g, ρ, cs, en, c, p⟩ := q
    refine ⟨g, ρ, cs, en, c, (Post.bind (R := Rep X.K nm) p).imp ?_⟩
    rintro x H1 ⟨dx, g1, cs1, e1, c1, r1, p1⟩
    rw [k r1] at p1
    exact Post.ok p1 c1 (.bl _)
  have hv := (pe_cmp (pos := pos) (pc_notN (j := j) (pos' := pos') ha.v)).imp main
  refine ⟨hv, d_B hv, (pt_cmp (pc_notN ha.v)).imp fun σ H Q q => main σ H _ (to_bool (fun ρ cs d cs' e => bind_bl (fun a => ⟨_, rfl⟩) e) q)⟩
/-! ### items -/
theorem d_neg (ha : DE X nm W a na) : DE X nm W (.UnaryOp .USub a pos) (ofV fun ρ cs => (na.v ρ cs).bind fun x cs => (match x with
    | .int i => .ok (.int (-i)) cs
    | _ => .bad)) := .of rfl ((pe_un un_neg ha.v).imp fun σ H Q q => by
  obtain ⟨g, ρ, cs, en, c, p⟩ := q
  refine ⟨g, ρ, cs, en, c, (Post.bind (R := Rep X.K nm) p).imp ?_⟩
  rintro x H1 ⟨dx, g1, cs1, e1, c1, r1, p1⟩
  cases dx with
  | int i => cases r1; exact ⟨i, rfl, Post.ok (a := D.int (-i)) p1 c1 (.int _)⟩
  | _ => exact p1.elim)
/-- ~x by x's own method -/
theorem d_inv (C : Ctx T O nm X W) (ha : DE X nm W a na) : DE X nm W (.UnaryOp .Invert a pos) (ofV fun ρ cs => (na.v ρ cs).bind fun x cs => callM T O nInv x [] cs) := .of rfl (by
  refine (pe_un (r := fun x H Q => ∃ g cs d, CsOk X.K nm g H cs ∧ Rep X.K nm g H d x ∧ Post X.K nm W (Rep X.K nm) g H (callM T O nInv d [] cs) Q) ?_ ha.v).imp fun σ H Q q => ?_
  · intro pins s σ H x v Q I rv h
    obtain ⟨g, cs, d, co, rd, p⟩ := h
    obtain ⟨c, fs, f, e, e2, p⟩ := callM_post p
    obtain ⟨k, hk, M⟩ := methOf_ok C.top e2
    obtain ⟨ad, ox, od, rfl, J, _⟩ := inst_at I co (.inl rd) rv e
    obtain ⟨mm, F⟩ := I.fr
    exact PySem.W.ksp_inv F I.ok.mod.kin J (by rw [← C.top.dn.2.2.1]; exact M.at_) M.fn (C.calls f _ pins s σ H [.ref ad] [x] [d] cs g Q (.inl rfl) I (.cons rv .nil) co (.cons rd .nil) p)
  · obtain ⟨g, ρ, cs, en, c, p⟩ := q
    refine ⟨g, ρ, cs, en, c, (Post.bind (R := Rep X.K nm) p).imp ?_⟩
    rintro x H1 ⟨dx, g1, cs1, e1, c1, r1, p1⟩
    exact ⟨g1, cs1, dx, c1, r1, p1⟩)
end
end
end Dv
end
section
set_option Elab.async false
set_option linter.all false
set_option maxRecDepth 100000
set_option maxHeartbeats 4000000
namespace Dv
open PySem PySem.Spec PyProof.Rows L2
section
variable {T : Tab} {O : Orc} {nm : Nm} {X : Cx} {W : XK} {a b c e : Expr} {es : List Expr} {fa fb fc : Env → Cells → Res D} {pos : Pos} {na nb nc : Den}
/-! ### subscripts -/
def plainSl (b : Expr) : Bool := match b with
  | .Slice _ _ _ _ => false
  | _ => true
theorem plainSl_ix (h : plainSl b = true) : PlainIx b := by
  intro o i
  cases b <;> first | rfl | (exact absurd h (by simp [plainSl]))
theorem plainSl_own (h : plainSl b = true) (o i : Value) : subscripted b true o i = runValue (.builtin "lifetime.subscript" ⟨[o, i], []⟩) := by
  cases b <;> first | rfl | (exact absurd h (by simp [plainSl]))
theorem d_sub (C : Ctx T O nm X W) (ha : PE X a (tBr X.K nm W fa)) (hb : PE X b (tV X.K nm W fb)) (hs : plainSl b = true) :
    PE X (.Subscript a b pos) (tV X.K nm W fun ρ cs => (fa ρ cs).bind fun x cs => (fb ρ cs).bind fun y cs => subD T O x y cs) := by
  refine ⟨fun pins s σ H Q I h => ?_⟩
  have h := two (Ra := BRep X.K nm) (Rb := Rep X.K nm) (fun e k r => r.mono e k) h
  refine Subscript_ (binT ha hb I h fun v u s2 x y H2 I2 rx ry q => ?_)
  obtain ⟨g, cs, da, db, co, ra, rb, p⟩ := q
  unfold subD at p
  cases q : deref da cs with
  | lst ds =>
    rw [q] at p
    cases db with
    | int k =>
      have p : Post X.K nm W (Rep X.K nm) g H2 (ofRes cs (atD ds k)) Q := p
      obtain ⟨a1, vs, rfl, h1, h2⟩ := view_lst co ra q
      cases q3 : atD ds k with
      | none => rw [q3] at p; exact p.elim
      | some d =>
        rw [q3] at p
        obtain ⟨w, e1, e2⟩ := h2.atI q3
        have e3 := view_int (.inl rb) rfl
        subst e3
        exact ix_list a b pins s2 σ H2 _ _ v u Q I2 rx ry ⟨a1, vs, k, w, rfl, rfl, .of h1, e1, Post.ok p co e2⟩ (plainSl_ix hs _ _)
    | _ => exact p.elim
  | tup ds =>
    rw [q] at p
    cases db with
    | int k =>
      have p : Post X.K nm W (Rep X.K nm) g H2 (ofRes cs (atD ds k)) Q := p
      obtain ⟨a1, vs, rfl, h1, h2⟩ := view_tup ra q
      cases q3 : atD ds k with
      | none => rw [q3] at p; exact p.elim
      | some d =>
        rw [q3] at p
        obtain ⟨w, e1, e2⟩ := h2.atI q3
        have e3 := view_int (.inl rb) rfl
        subst e3
        exact ix_tup a b pins s2 σ H2 _ _ v u Q I2 rx ry ⟨a1, vs, k, w, rfl, rfl, h1, e1, Post.ok p co e2⟩ (plainSl_ix hs _ _)
    | _ => exact p.elim
  | ins c fs =>
    rw [q] at p
    have p : Post X.K nm W (Rep X.K nm) g H2 (callM T O nGet da [db] cs) Q := p
    have ra2 : Rep X.K nm g H2 da x := ra.rep fun ds e => by subst e; simp [deref] at q
    obtain ⟨c', fs', f, e, e2, p⟩ := callM_post p
    obtain ⟨k, hk, M⟩ := methOf_ok C.top e2
    obtain ⟨ad, ox, od, rfl, J, _⟩ := inst_at I2 co (.inl ra2) rx e
    obtain ⟨mm, F⟩ := I2.fr
    exact PySem.W.sub_K F I2.ok.mod.kin J (by rw [← C.top.dn.2.2.2.2.2.2.2.2.1]; exact M.at_) (C.top.fni c' k nGet f hk (by
      unfold methOf at e2; rw [hk] at e2; exact e2)) M.fn
      (C.calls f _ pins s2 σ H2 [.ref ad, u] [x, y] [da, db] cs g Q (.inr (.inl rfl)) I2 (.cons rx (.cons ry .nil)) co (.cons ra2 (.cons rb .nil)) p) (plainSl_own hs _ _)
  | _ => rw [q] at p; exact p.elim
/-! ### x[::-1] -/
theorem d_rev {k : Nat} {p1 p2 p3 : Pos} (ha : PE X a (tBr X.K nm W fa)) : PE X (.Subscript a (.Slice none none (some (.UnaryOp .USub (.Constant (.int 1) k p1) p2)) p3) pos) (tV X.K nm W fun ρ cs => (fa ρ cs).bind fun x cs => (match deref x cs with
    | .lst ds => .ok (.lst ds.reverse) cs
    | .tup ds => .ok (.tup ds.reverse) cs
    | _ => .bad)) := (pe_revA ha).imp fun σ H Q q => by
  obtain ⟨g, ρ, cs, en, c, p⟩ := q
  refine ⟨g, ρ, cs, en, c, (Post.bind (R := BRep X.K nm) p).imp ?_⟩
  rintro v H1 ⟨d, g1, cs1, e1, c1, r1, p1⟩
  cases q : deref d cs1 with
  | lst ds =>
    rw [q] at p1
    obtain ⟨a, vs, rfl, hs, rr⟩ := view_lst c1 r1 q
    exact ⟨a, vs, rfl, .inl ⟨.of hs, fun p hp => new_lst c1 rr.reverse hp p1⟩⟩
  | tup ds =>
    rw [q] at p1
    obtain ⟨a, vs, rfl, hs, rr⟩ := view_tup r1 q
    exact ⟨a, vs, rfl, .inr ⟨hs, fun p hp => new_tup c1 rr.reverse hp p1⟩⟩
  | _ => rw [q] at p1; exact p1.elim
/-! ### attributes -/
def noSup (e : Expr) : Bool := match e with
  | .Call (.Name id _) [] [] _ => id != ("super" : Str)
  | _ => true
theorem noSup_base {f : Str} {env : PySem.Env} {w : Sem Value} (h : noSup e = true) : attributeBase e f env w = w := by
  unfold noSup at h
  split at h
  · exact abase_call h
  · rename_i hn
    unfold attributeBase
    split
    · exact absurd rfl (hn _ _ _)
    · rfl
theorem d_attr {T : Tab} (C : Top T nm X.K) {j : Nat} {f : Str} (hf : nm.at_ j = f) (hb : noSup a = true) (ha : PE X a (tG X.K nm W (ARep X.K nm) fa)) : PE X (.Attribute a f pos) (tV X.K nm W fun ρ cs => (fa ρ cs).bind fun x cs => (match deref x cs with
    | .ins c fs => if okAt T c j = true then ofRes cs (fs.lookup j) else .bad
    | _ => .bad)) := (pe_fld ha (noSup_base hb)).imp fun σ H Q q => by
  subst hf
  obtain ⟨g, ρ, cs, en, c, p⟩ := q
  refine ⟨g, ρ, cs, en, c, (Post.bind (R := ARep X.K nm) p).imp ?_⟩
  rintro v H1 ⟨d, g1, cs1, e1, c1, r1, p1⟩
  cases q : deref d cs1 with
  | ins cc fs =>
    rw [q] at p1
    have p1 : Post X.K nm W (Rep X.K nm) g1 H1 (if okAt T cc j = true then ofRes cs1 (fs.lookup j) else .bad) Q := p1
    split at p1
    · rename_i ok
      unfold okAt at ok
      cases hk : T.cls[cc]? with
      | none => rw [hk] at ok; cases ok
      | some k =>
        rw [hk] at ok
        have hm : j ∈ k.atr := by simpa using ok
        obtain ⟨ad, dx, vs, rfl, h1, h2⟩ := view_insA c1 r1 q
        cases q3 : fs.lookup j with
        | none => rw [q3] at p1; exact p1.elim
        | some x =>
          rw [q3] at p1
          obtain ⟨w, l1, l2⟩ := h2.look C.nmok q3
          exact ⟨ad, _, dx, vs, w, rfl, h1, C.cls cc k hk, C.at_ cc k j hk hm, l1, Post.ok p1 c1 l2⟩
    · exact p1.elim
  | _ => rw [q] at p1; exact p1.elim
theorem arep_of (h : PE X e (tV X.K nm W fa)) : PE X e (tG X.K nm W (ARep X.K nm) fa) := h.imp fun σ H Q q => by
  obtain ⟨g, ρ, cs, en, c, p⟩ := q
  refine ⟨g, ρ, cs, en, c, ?_⟩
  have p : Post X.K nm W (ARep X.K nm) g H (fa ρ cs) Q := p
  show Post X.K nm W (Rep X.K nm) g H (fa ρ cs) Q
  cases hr : fa ρ cs with
  | ok a cs' => rw [hr] at p; exact fun b g' H' e1 c1 r => p b g' H' e1 c1 (.inl r)
  | exc d cs' => rw [hr] at p; exact p
  | bad => rw [hr] at p; exact p
theorem arep_var {i : Nat} {x : Str} (h : PE X (.Name x pos) (tVar i)) : PE X (.Name x pos) (tG X.K nm W (ARep X.K nm) fun ρ cs => ofRes cs (getA ρ i)) := h.imp fun σ H Q q => by
  obtain ⟨g, ρ, cs, en, c, p⟩ := q
  have p : Post X.K nm W (ARep X.K nm) g H (ofRes cs (getA ρ i)) Q := p
  unfold getA at p
  cases e1 : ρ[i]? with
  | none => rw [e1] at p; exact p.elim
  | some s =>
    rw [e1] at p
    have := en.sl i s e1
    cases s with
    | val d =>
      obtain ⟨v, e2, r⟩ := this
      exact ⟨v, e2, Post.ok p c (.inl r)⟩
    | emp => exact p.elim
    | own d =>
      obtain ⟨v, e2, r⟩ := this
      cases d with
      | ins cc ds => exact ⟨v, e2, Post.ok p c (.inr r)⟩
      | _ => exact p.elim
/-! ### properties -/
theorem prop_run {CX : CXT} {k : Nat} {C p g a dx : Addr} {fs : List (Str × V)} {f : Str} {sp : Sp} {E : XK} {pins : List (Addr × Obj)} {σ : L2.St} {H : Hp} {s : Shared} {Q : VK} {bb : Bool} {E' : Value → Shared → Prop} (I : L2.Inv X pins σ H s) (ea : H a = some (.ins C dx fs)) (c : Cls X.K C) (hp : PropOf X.K C f p g)
    (F : FnR X.prog X.w X.K X.mg X.base CX k g sp) (hr : Room (k + 1) X.A) (hx : Passes CX X.nox E) (h : sp [.ref a] H Q E) :
    wpAny (model X.prog X.w) X.A (getAttr (.ref a) f bb) (EP X pins σ Q) E' s := by
  obtain ⟨mA, OO, _, _, _, _⟩ := ins_get I.hok ea
  obtain ⟨od, J, _⟩ := OO.look
  obtain ⟨rest, hrec⟩ := hp.rec_
  have I1 := I.tok (s.toks + 1)
  have hc : (PySem.W.clsIn X.K C).isSome = true := by
    obtain ⟨cd, hc, _⟩ := PySem.W.any_some c.hd
    rw [hc]
    rfl
  refine PySem.W.get_bind I.kIn J (PySem.W.plainGet_of (c.get f)).1 (PySem.W.findObj_data hc hp.at_ hp.get hp.tak) (PySem.W.plainGet_of (c.get f)).2 (wpAny_call (PySem.W.prop_get (s := { s with toks := s.toks + 1 }) I.kIn hrec ?_))
  refine codeAny_mono (F X.A.in1 X.stack { s with toks := s.toks + 1 } H [.ref a] [.ref a] Q E hr.in1 I1.env0.in1 (.cons rfl .nil) h) fun r s' hq => ?_
  cases r with
  | error er => exact False.elim (hx pins σ H { s with toks := s.toks + 1 } er s' (I1.wish _) hq)
  | ok fl =>
    cases fl with
    | ret u =>
      obtain ⟨v, H', I3, rv, q3⟩ := I1.after hq
      show wpAny _ _ (handedOut u) _ _ _
      rw [PySem.W.handedOut_of (handed_of rv)]
      exact wpAny_pure ⟨v, H', I3, rv, q3⟩
    | next => exact False.elim hq
    | brk => exact False.elim hq
    | cont => exact False.elim hq
theorem d_prop (C : Ctx T O nm X W) {j : Nat} {f : Str} (hf : nm.at_ j = f) (hb : noSup a = true) (ha : PE X a (tV X.K nm W fa)) : PE X (.Attribute a f pos) (tV X.K nm W fun ρ cs => (fa ρ cs).bind fun x cs => (match clsOf x cs with
    | some c => (match (T.cls[c]?).bind fun k => k.props.lookup j with
      | some f => O false f [x] cs
      | none => .bad)
    | none => .bad)) := by
  subst hf
  refine ⟨fun pins s σ H Q I h => ?_⟩
  obtain ⟨g, ρ, cs, en, c, p⟩ := h
  refine attr_of (noSup_base hb) (thn (ha.run pins s σ H _ I ⟨g, ρ, cs, en, c, Post.bind (R := Rep X.K nm) p⟩) fun u s1 ⟨x, H1, I1, rx, d, g1, cs1, e1, c1, r1, p1⟩ => ?_)
  cases q : clsOf d cs1 with
  | none => rw [q] at p1; exact p1.elim
  | some cc =>
    rw [q] at p1
    have p1 : Post X.K nm W (Rep X.K nm) g1 H1 (match (T.cls[cc]?).bind fun k => k.props.lookup j with
      | some f => O false f [d] cs1
      | none => .bad) Q := p1
    cases hk : T.cls[cc]? with
    | none => rw [hk] at p1; exact p1.elim
    | some k =>
      rw [hk] at p1
      have p1 : Post X.K nm W (Rep X.K nm) g1 H1 (match k.props.lookup j with
        | some f => O false f [d] cs1
        | none => .bad) Q := p1
      cases hl : k.props.lookup j with
      | none => rw [hl] at p1; exact p1.elim
      | some f =>
        rw [hl] at p1
        obtain ⟨fs, e⟩ := clsOf_ins q
        obtain ⟨ad, dx, vs, rfl, h1, _⟩ := view_ins c1 (.inl r1) e
        obtain rfl : u = Value.ref ad := rx
        obtain ⟨pp, hp⟩ := C.top.prp cc k j f hk hl
        obtain ⟨CX, n, hr, hx, hxn, hF, _, _⟩ := C.fns.ex
        exact prop_run I1 h1 (C.top.cls cc k hk) hp (hF f) (hr.mono (Nat.le_add_right (n + 1) 2)) hxn ⟨rfl, g1, cs1, [d], c1, .cons r1 .nil, p1⟩
end
end Dv
end
section
set_option Elab.async false
set_option linter.all false
set_option maxRecDepth 100000
set_option maxHeartbeats 4000000
namespace Dv
open PySem PySem.Spec PyProof.Rows L2
section
variable {T : Tab} {O : Orc} {nm : Nm} {X : Cx} {W : XK} {a b c e : Expr} {es : List Expr} {fa fb fc : Env → Cells → Res D} {pos : Pos} {na nb nc : Den}
/-! ### starred -/
theorem view_star {K : PySem.W.Frag} {g : Gh} {H : Hp} {cs : Cells} {d : D} {ds : List D} {v : V} (c : CsOk K nm g H cs) (h : BRep K nm g H d v) (e : seqOf d cs = some ds) : ∃ a vs, v = .ref a ∧ (SqT K H a vs ∨ SqL K H a vs) ∧ Reps K nm g H ds vs := by
  obtain ⟨a, vs, h1, h2, h3⟩ := view_seq c h e
  exact ⟨a, vs, h1, h2.symm, h3⟩
theorem d_star {p : Pos} {fs : Env → Cells → Res (List D)} (ha : PE X e (tBr X.K nm W fa)) (hr : PA X es (tAs X.K nm W fs)) :
    PA X (.Starred e p :: es) (tAs X.K nm W fun ρ cs => (fa ρ cs).bind fun x cs => (match seqOf x cs with
      | some ds => (fs ρ cs).bind fun xs cs => .ok (ds ++ xs) cs
      | none => .bad)) := (StX.pa_star ha hr).imp fun σ H Q q => by
  refine (fun (z : tG X.K nm W (BRep X.K nm) fa σ H _) => z) ?_
  obtain ⟨g, ρ, cs, en, c, p⟩ := q
  refine ⟨g, ρ, cs, en, c, (Post.bind (R := BRep X.K nm) p).imp ?_⟩
  rintro x H1 ⟨dx, g1, cs1, e1, c1, r1, p1⟩
  cases q : seqOf dx cs1 with
  | none => rw [q] at p1; exact p1.elim
  | some ds =>
    rw [q] at p1
    have p1 : Post X.K nm W (Reps X.K nm) g1 H1 ((fs ρ cs1).bind fun xs cs => .ok (ds ++ xs) cs) Q := p1
    obtain ⟨a, vs, rfl, h1, h2⟩ := view_star c1 r1 q
    refine ⟨a, vs, rfl, h1, g1, ρ, cs1, en.mono e1 c.ok, c1, (Post.bind (R := Reps X.K nm) p1).imp ?_⟩
    rintro y H2 ⟨dy, g2, cs2, e2, c2, r2, p2⟩
    exact Post.ok p2 c2 ((h2.mono e2 c1.ok).append r2)
/-! ### a call's arguments -/
/-- handing on values -/
def AC (X : Cx) (es : List Expr) (t : TA) : Prop := ∀ (f : Value) (first : List Value) (pos : Pos) (pins : List (Addr × Obj)) (s : Shared) (σ : L2.St) (H : Hp) (Q : Value → Shared → Prop), PySem.W.keepIn X.K f = true → L2.Inv X pins σ H s →
  (t σ H fun vs H1 => ∀ us s1, L2.Inv X pins σ H1 s1 → Vals vs us → wpAny (model X.prog X.w) X.A (call f (first ++ us)) Q X.xe s1) → wpAny (model X.prog X.w) X.A (callWith pos f first (backTo pos (starEach es X.env)) []) Q X.xe s
def isStar (e : Expr) : Bool := match e with
  | .Starred _ _ => true
  | _ => false
theorem isStar_not (h : isStar e = false) : ∀ x p, e ≠ .Starred x p := by
  intro x p q
  subst q
  cases h
theorem any_star (pos : Pos) (env : PySem.Env) : ∀ es : List Expr, (backTo pos (starEach es env)).any (·.1) = es.any isStar
  | [] => rfl
  | e :: es => by
    have ih := any_star pos env es
    unfold backTo at ih ⊢
    cases e <;> simp_all [starEach, isStar]
theorem AC.nil : AC X [] (tAs X.K nm W fun _ cs => .ok [] cs) := by
  intro f first pos pins s σ H Q hk I q
  obtain ⟨g, ρ, cs, en, c, p⟩ := q
  exact PySem.W.callWith_K0 I.kIn hk (Post.ok p c .nil [] s I .nil)
theorem AC.cons {t : TA} (hn : isStar e = false) (h : PA X (e :: es) t) : AC X (e :: es) t := by
  intro f first pos pins s σ H Q hk I q
  have he : starEach (e :: es) X.env = (false, eval e X.env) :: starEach es X.env := star_not (isStar_not hn)
  have z := thn (h.run pos pins s σ H _ I q) (Q' := fun us s1 => X.K.In s1.heap ∧ wpAny (model X.prog X.w) X.A (call f (first ++ us)) Q X.xe s1) fun us s1 ⟨vs, H1, I1, r, q⟩ => ⟨I1.kIn, q us s1 I1 r⟩
  cases hst : es.any isStar with
  | false => exact PySem.W.callWith_K (h₀ := X.base) I.ok.mod.kin hk z he (by rw [any_star, hst])
  | true => exact PySem.W.callWith_S2 (h₀ := X.base) I.ok.mod.kin hk z he (by rw [any_star, hst])
/-- a lone star -/
theorem AC.lone {p : Pos} (he : PE X e (tBr X.K nm W fa)) : AC X [.Starred e p] (tAs X.K nm W fun ρ cs => (fa ρ cs).bind fun x cs => (match seqOf x cs with
      | some ds => (Res.ok [] cs).bind fun xs cs => .ok (ds ++ xs) cs
      | none => .bad)) := by
  intro f first pos pins s σ H Q hk I q
  obtain ⟨g, ρ, cs, en, c, p⟩ := q
  refine PySem.W.callWith_S (h₀ := X.base) I.ok.mod.kin hk (thn (he.run pins s σ H _ I ⟨g, ρ, cs, en, c, Post.bind (R := BRep X.K nm) p⟩) fun v s1 ⟨y, H1, I1, ry, d, g1, cs1, e1, c1, r1, p1⟩ => ?_) rfl
  cases q : seqOf d cs1 with
  | none => rw [q] at p1; exact p1.elim
  | some ds =>
    rw [q] at p1
    have p1 : Post X.K nm W (Reps X.K nm) g1 H1 (.ok (ds ++ []) cs1) _ := p1
    rw [List.append_nil] at p1
    obtain ⟨a, vs, rfl, h1, h2⟩ := view_star c1 r1 q
    obtain rfl : v = Value.ref a := ry
    exact StX.star_any I1 h1 fun us s2 I2 rv => ⟨I2.kIn, Post.ok p1 c1 h2 us s2 I2 rv⟩
/-! ### f(..), C(..) -/
theorem tAs_imp {K : PySem.W.Frag} {f : Env → Cells → Res (List D)} {σ : L2.St} {H : Hp} {Q Q' : List V → Hp → Prop} (h : tAs K nm W f σ H Q) (k : ∀ vs H', Q vs H' → Q' vs H') : tAs K nm W f σ H Q' := by
  obtain ⟨g, ρ, cs, en, c, p⟩ := h
  exact ⟨g, ρ, cs, en, c, p.imp k⟩
/-- a call by values -/
theorem pe_callV {x : Str} {p : Pos} {v : Addr} {fs : Env → Cells → Res (List D)} {r : List V → Hp → VK → Prop} (hg : Gl X x) (hm : X.mg x = some (.ref v)) (hk : PySem.W.keepIn X.K (.ref v) = true) (hc : CallR X (.ref v) r) (ha : AC X es (tAs X.K nm W fs)) (hd : (x == ("__debug__" : Str)) = false) :
    PE X (.Call (.Name x p) es [] pos) (tCB r (tAs X.K nm W fs)) := by
  refine ⟨fun pins s σ H Q I h => ?_⟩
  refine wpAny_Call_Name_kw (ld_glob I hg hm ?_ hd)
  exact ha (.ref v) [] pos pins s σ H _ hk I (tAs_imp h fun vs H1 q us s1 I1 r => hc pins s1 σ H1 vs us Q I1 r q)
/-- what a def does with data -/
def rFn (X : Cx) (nm : Nm) (W : XK) (f : List D → Cells → Res D) : List V → Hp → VK → Prop := fun vs H Q => ∃ g cs ds, CsOk X.K nm g H cs ∧ Reps X.K nm g H ds vs ∧ Post X.K nm W (Rep X.K nm) g H (f ds cs) Q
theorem call_fn (C : Ctx T O nm X W) (f : Nat) : CallR X (.ref (nm.fa f)) (rFn X nm W (O false f)) := fun pins s σ H xs us Q I r ⟨g, cs, ds, co, rs, p⟩ => C.calls f _ pins s σ H us xs ds cs g Q (.inl rfl) I r co rs p
theorem call_new (C : Ctx T O nm X W) {c f : Nat} {k : Cl} (hk : T.cls[c]? = some k) (hf : k.init = some f) : CallR X (.ref (nm.ca c)) (rFn X nm W (O true f)) := by
  intro pins s σ H xs us Q I r ⟨g, cs, ds, co, rs, p⟩
  obtain ⟨CX, n, hr, hx, hxn, hF, hN, _⟩ := C.fns.ex
  refine StX.run_makeR (C.top.mkr c k f hk hf) (hN c k f hk hf) (hr.mono (Nat.le_add_right (n + 1) 2)) hx I r fun x dx h1 h2 h3 => ?_
  exact ⟨rfl, x, dx, xs, H, g, cs, ds, rfl, h1, h2, h3, rfl, co, rs, p.imp fun v H' q e => ⟨rfl, by rw [← e]; exact q⟩⟩
theorem d_args {fs : Env → Cells → Res (List D)} {f : List D → Cells → Res D} (h : PE X e (tCB (rFn X nm W f) (tAs X.K nm W fs))) : PE X e (tV X.K nm W fun ρ cs => (fs ρ cs).bind fun ds cs => f ds cs) := h.imp fun σ H Q q => by
  obtain ⟨g, ρ, cs, en, c, p⟩ := q
  refine ⟨g, ρ, cs, en, c, (Post.bind (R := Reps X.K nm) p).imp ?_⟩
  rintro x H1 ⟨dx, g1, cs1, e1, c1, r1, p1⟩
  exact ⟨g1, cs1, dx, c1, r1, p1⟩
theorem d_call (C : Ctx T O nm X W) {x : Str} {p : Pos} {f : Nat} {fs : Env → Cells → Res (List D)} (hg : Gl X x) (hm : X.mg x = some (.ref (nm.fa f))) (hk : PySem.W.keepIn X.K (.ref (nm.fa f)) = true) (ha : AC X es (tAs X.K nm W fs)) (hd : (x == ("__debug__" : Str)) = false) :
    PE X (.Call (.Name x p) es [] pos) (tV X.K nm W fun ρ cs => (fs ρ cs).bind fun ds cs => O false f ds cs) := d_args (pe_callV hg hm hk (call_fn C f) ha hd)
theorem d_new (C : Ctx T O nm X W) {x : Str} {p : Pos} {c : Nat} {fs : Env → Cells → Res (List D)} (hg : Gl X x) (hm : X.mg x = some (.ref (nm.ca c))) (ha : AC X es (tAs X.K nm W fs)) (hd : (x == ("__debug__" : Str)) = false) (hki : ∃ k f, T.cls[c]? = some k ∧ k.init = some f) :
    PE X (.Call (.Name x p) es [] pos) (tV X.K nm W fun ρ cs => (fs ρ cs).bind fun ds cs => (match T.cls[c]? with
    | some k => (match k.init with
      | some f => O true f ds cs
      | none => .bad)
    | none => .bad)) := by
  obtain ⟨k, f, h1, h2⟩ := hki
  have := d_args (pe_callV (pos := pos) (p := p) hg hm (C.top.mkr c k f h1 h2).kp (call_new C h1 h2) ha hd)
  rw [h1]
  cases k
  cases h2
  exact this
/-! ### o.m(..) -/
theorem mc_form {o : Expr} {m : Str} {apos pos : Pos} {env : PySem.Env} (hb : noSup o = true) (hs : es.any isStar = false) (hl : es.length < 30) (hp : (apos.endLine == pos.line) = true) : eval (.Call (.Attribute o m apos) es [] pos) env = (do
      let ov ← eval o env
      standAt apos.atName
      let (f, first) ← holding [ov] (getMethod ov m (do return (← importBound o env).getD true))
      callWith pos f first (backTo pos (starEach es env)) (backToKw pos (keywordEach [] env))) := by
  refine mcall_of (noSup_base hb) fun ov => ?_
  have hall : (backTo pos (starEach es env)).all (fun x => !x.1) = true := by
    have := any_star pos env es
    rw [hs] at this
    rw [List.all_eq_not_any_not]
    simp only [Bool.not_not]
    rw [this]
    rfl
  have hf : methodCallForm (es.length + ([] : List Keyword).length) (backTo pos (starEach es env)) (backToKw pos (keywordEach [] env)) = true := by
    unfold methodCallForm
    rw [hall]
    simp [backToKw, keywordEach]
    omega
  unfold methodCall
  rw [hf]
  have h2 : methodCallPos true o env apos pos = pure pos := by
    unfold methodCallPos
    rw [hp]
    rfl
  rw [h2]
  rfl
theorem repf_nom {K : PySem.W.Frag} {g : Gh} {H : Hp} {m : Str} (hn : ∀ j, m ≠ nm.at_ j) : ∀ {fs : List (Nat × D)} {vs : List (Str × V)}, Repf K nm g H fs vs → vs.lookup m = none
  | _, _, .nil => rfl
  | (j, _) :: _, _, .cons h t => by
    have e : (m == nm.at_ j) = false := beq_eq_false_iff_ne.mpr (hn j)
    simp only [List.lookup, e]
    exact repf_nom hn t
/-- behind the receiver: its class's method -/
theorem meth_run (C : Ctx T O nm X W) {m : Nat} {α : Type} {R : Gh → Hp → α → V → Prop} {pl : Sem Bool} {x : D} {v : V} {u : Value} {cs : Cells} {g : Gh} {H : Hp} {pins : List (Addr × Obj)} {σ : L2.St} {s : Shared} {k : Nat → Res α} {Q : VK} {Q' : Value × List Value → Shared → Prop}
    (I : L2.Inv X pins σ H s) (co : CsOk X.K nm g H cs) (r : Rep X.K nm g H x v) (rv : RelV v u) (p : Post X.K nm W R g H (match methF T m x cs with
      | some f => k f
      | none => .bad) Q)
    (h : ∀ f, Post X.K nm W R g H (k f) Q → (∃ c, PySem.W.keepIn X.K (.ref (nm.fa f)) = true ∧ methOf T c m = some f) → Q' (.ref (nm.fa f), [u]) s) : wpAny (model X.prog X.w) X.A (getMethod u (nm.mt m) pl) Q' X.xe s := by
  unfold methF at p
  cases q : clsOf x cs with
  | none => rw [q] at p; exact p.elim
  | some c =>
    rw [q] at p
    have p : Post X.K nm W R g H (match methOf T c m with
      | some f => k f
      | none => .bad) Q := p
    cases q2 : methOf T c m with
    | none => rw [q2] at p; exact p.elim
    | some f =>
      rw [q2] at p
      obtain ⟨fs, e⟩ := clsOf_ins q
      obtain ⟨ad, dx, vs, rfl, h1, h2⟩ := view_ins co (.inl r) e
      obtain rfl : u = Value.ref ad := rv
      obtain ⟨kc, hk, M⟩ := methOf_ok C.top q2
      exact getmeth_ok I h1 (C.top.cls c kc hk) M (repf_nom (C.top.mtat m) h2) (h f p ⟨c, M.kp, q2⟩)
theorem d_meth (C : Ctx T O nm X W) {o : Expr} {m : Nat} {ms : Str} {apos : Pos} {fs : Env → Cells → Res (List D)} (hms : nm.mt m = ms) (hb : noSup o = true) (hs : es.any isStar = false) (hl : es.length < 30) (hp : (apos.endLine == pos.line) = true)
    (ho : PE X o (tV X.K nm W fa)) (ha : AC X es (tAs X.K nm W fs)) :
    PE X (.Call (.Attribute o ms apos) es [] pos) (tV X.K nm W fun ρ cs => (fa ρ cs).bind fun x cs => (match methF T m x cs with
    | some f => (fs ρ cs).bind fun ds cs => O false f (x :: ds) cs
    | none => .bad)) := by
  subst hms
  refine ⟨fun pins s σ H Q I h => ?_⟩
  obtain ⟨g, ρ, cs, en, c, p⟩ := h
  refine PySem.W.methodCall_KW (pl := do return (← importBound o X.env).getD true) (thn (ho.run pins s σ H _ I ⟨g, ρ, cs, en, c, Post.bind (R := Rep X.K nm) p⟩) fun u s1 ⟨x, H1, I1, rx, d, g1, cs1, e1, c1, r1, p1⟩ => ?_) (mc_form hb hs hl hp)
  refine meth_run (C := C) I1 c1 r1 rx p1 fun f p2 ⟨cc, hk, _⟩ => ?_
  refine ha (.ref (nm.fa f)) [u] pos pins s1 σ H1 _ hk I1 ⟨g1, ρ, cs1, en.mono e1 c.ok, c1, (Post.bind (R := Reps X.K nm) p2).imp ?_⟩
  rintro vs H2 ⟨ds, g2, cs2, e2, c2, r2, p3⟩ us s2 I2 rv
  exact call_fn C f pins s2 σ H2 (x :: vs) (u :: us) Q I2 (.cons rx rv) ⟨g2, cs2, d :: ds, c2, .cons (r1.mono e2 c1.ok) r2, p3⟩
/-! ### keywords -/
theorem permD_rep {K : PySem.W.Frag} {g : Gh} {H : Hp} {ds : List D} {vs : List V} (r : Reps K nm g H ds vs) : ∀ {perm : List Nat} {es : List D}, permD perm ds = some es → ∃ ys, permD perm vs = some ys ∧ Reps K nm g H es ys
  | [], es, h => by
    simp [permD] at h
    subst h
    exact ⟨[], rfl, .nil⟩
  | i :: p, es, h => by
    simp only [permD] at h
    cases e1 : ds[i]? with
    | none => rw [e1] at h; cases h
    | some d =>
      cases e2 : permD p ds with
      | none => rw [e1, e2] at h; cases h
      | some es' =>
        rw [e1, e2] at h
        cases h
        obtain ⟨v, h1, h2⟩ := r.get e1
        obtain ⟨ys, h3, h4⟩ := permD_rep r e2
        exact ⟨v :: ys, by simp only [permD, h1, h3], .cons h2 h4⟩
theorem permS_get {α : Type} {x : α} {l ys : List α} : ∀ {perm : List Nat}, permD perm l = some ys → permD (perm.map (· + 1)) (x :: l) = some ys
  | [], h => h
  | i :: p, h => by
    simp only [permD] at h
    cases e1 : l[i]? with
    | none => rw [e1] at h; cases h
    | some d =>
      cases e2 : permD p l with
      | none => rw [e1, e2] at h; cases h
      | some es' =>
        rw [e1, e2] at h
        cases h
        have := permS_get (x := x) e2
        simp only [List.map, permD, this, List.getElem?_cons_succ, e1]
def kwNames (kws : List Keyword) : Option (List Str) := match kws with
  | [] => some []
  | ⟨some n, _, _⟩ :: r => (kwNames r).map (n :: ·)
  | _ => none
theorem kwNames_all (pos : Pos) (env : PySem.Env) : ∀ {kws : List Keyword} {ks : List Str}, kwNames kws = some ks → (backToKw pos (keywordEach kws env)).all (·.1.isSome) = true ∧ (backToKw pos (keywordEach kws env)).filterMap (·.1) = ks ∧ (backToKw pos (keywordEach kws env)).any (·.1.isNone) = false ∧ kws.length = ks.length
  | [], ks, h => by
    simp [kwNames] at h
    subst h
    exact ⟨rfl, rfl, rfl, rfl⟩
  | ⟨some n, v, p⟩ :: r, ks, h => by
    simp only [kwNames] at h
    cases e : kwNames r with
    | none => rw [e] at h; cases h
    | some ks' =>
      rw [e] at h
      cases h
      obtain ⟨h1, h2, h3, h4⟩ := kwNames_all pos env e
      unfold backToKw at h1 h2 h3 ⊢
      refine ⟨?_, ?_, ?_, ?_⟩
      · simpa [keywordEach] using h1
      · simpa [keywordEach] using h2
      · simpa [keywordEach] using h3
      · simp [h4]
  | ⟨none, v, p⟩ :: r, ks, h => by simp [kwNames] at h
theorem d_pkNil : PK X [] (tAs X.K nm W fun _ cs => .ok [] cs) := ⟨fun _ _ _ _ H Q I h => by
  obtain ⟨g, ρ, cs, en, c, p⟩ := h
  exact wpAny_evalAll_nil ⟨[], H, I, .nil, Post.ok p c .nil⟩⟩
theorem d_pkCons {kws : List Keyword} {n : Option Str} {kp : Pos} {fs : Env → Cells → Res (List D)} (ha : PE X e (tV X.K nm W fa)) (hr : PK X kws (tAs X.K nm W fs)) :
    PK X (⟨n, e, kp⟩ :: kws) (tAs X.K nm W fun ρ cs => (fa ρ cs).bind fun x cs => (fs ρ cs).bind fun xs cs => .ok (x :: xs) cs) := by
  have z := pk_cons (nm := n) (kpos := kp) ha hr
  refine ⟨fun pos pins s σ H Q I h => z.run pos pins s σ H Q I ?_⟩
  obtain ⟨g, ρ, cs, en, c, p⟩ := h
  refine (fun (z : tG X.K nm W (Rep X.K nm) fa σ H _) => z) ?_
  refine ⟨g, ρ, cs, en, c, (Post.bind (R := Rep X.K nm) p).imp ?_⟩
  rintro x H1 ⟨dx, g1, cs1, e1, c1, r1, p1⟩
  refine ⟨g1, ρ, cs1, en.mono e1 c.ok, c1, (Post.bind (R := Reps X.K nm) p1).imp ?_⟩
  rintro y H2 ⟨dy, g2, cs2, e2, c2, r2, p2⟩
  exact Post.ok p2 c2 (.cons (r1.mono e2 c1.ok) r2)
/-- handing on values and keywords -/
theorem cw_kw {kws : List Keyword} {ks : List Str} {fs fk : Env → Cells → Res (List D)} (hn0 : es = [] → ∀ ρ cs, fs ρ cs = .ok [] cs) (hns : es.any isStar = false) (hk : kwNames kws = some ks) (ha : PA X es (tAs X.K nm W fs)) (hkw : PK X kws (tAs X.K nm W fk))
    {f : Value} {first : List Value} {pos : Pos} {pins : List (Addr × Obj)} {s : Shared} {σ : L2.St} {H : Hp} {Q : Value → Shared → Prop} (hkp : PySem.W.keepIn X.K f = true) (I : L2.Inv X pins σ H s)
    (q : tAs X.K nm W fs σ H fun vs H1 => tAs X.K nm W fk σ H1 fun zs H2 => ∀ us ws s1, L2.Inv X pins σ H2 s1 → Vals vs us → Vals zs ws → wpAny (model X.prog X.w) X.A (call f (first ++ us) (ks.zip ws)) Q X.xe s1) :
    wpAny (model X.prog X.w) X.A (callWith pos f first (backTo pos (starEach es X.env)) (backToKw pos (keywordEach kws X.env))) Q X.xe s := by
  obtain ⟨hall, hks, hno, _⟩ := kwNames_all pos X.env hk
  cases es with
  | nil =>
    obtain ⟨g, ρ, cs, en, c, p⟩ := q
    rw [hn0 rfl] at p
    refine PySem.W.callWith_KW0 (h₀ := X.base) I.ok.mod.kin hkp hall (thn (hkw.run pos pins s σ H _ I (Post.ok p c .nil)) ?_) (by rw [hno]; rfl)
    rintro ws s2 ⟨zs, H2, I2, rz, q2⟩
    exact ⟨I2.kIn, by rw [hks]; exact q2 [] ws s2 I2 .nil rz⟩
  | cons e es =>
    have hn : isStar e = false := by
      simp at hns
      exact hns.1
    have he : starEach (e :: es) X.env = (false, eval e X.env) :: starEach es X.env := star_not (isStar_not hn)
    refine PySem.W.callWith_KW (h₀ := X.base) I.ok.mod.kin hkp hall (thn (ha.run pos pins s σ H _ I q) ?_) (by rw [any_star, hns, hno]; rfl) he
    rintro us s1 ⟨vs, H1, I1, r, q1⟩
    refine thn (hkw.run pos pins s1 σ H1 _ I1 q1) ?_
    rintro ws s2 ⟨zs, H2, I2, rz, q2⟩
    exact ⟨I2.kIn, by rw [hks]; exact q2 us ws s2 I2 r rz⟩
theorem mc_formK {o : Expr} {m : Str} {apos pos : Pos} {env : PySem.Env} {kws : List Keyword} {ks : List Str} (hk : kwNames kws = some ks) (hb : noSup o = true) (hs : es.any isStar = false) (hl : es.length + kws.length < 29) (hp : (apos.endLine == pos.line) = true) : eval (.Call (.Attribute o m apos) es kws pos) env = (do
      let ov ← eval o env
      standAt apos.atName
      let (f, first) ← holding [ov] (getMethod ov m (do return (← importBound o env).getD true))
      callWith pos f first (backTo pos (starEach es env)) (backToKw pos (keywordEach kws env))) := by
  refine mcall_of (noSup_base hb) fun ov => ?_
  have hall : (backTo pos (starEach es env)).all (fun x => !x.1) = true := by
    have := any_star pos env es
    rw [hs] at this
    rw [List.all_eq_not_any_not]
    simp only [Bool.not_not]
    rw [this]
    rfl
  have hf : methodCallForm (es.length + kws.length) (backTo pos (starEach es env)) (backToKw pos (keywordEach kws env)) = true := by
    unfold methodCallForm
    rw [hall, (kwNames_all pos env hk).1]
    simp only [Bool.true_and, decide_eq_true_eq]
    split <;> omega
  unfold methodCall
  rw [hf]
  have h2 : methodCallPos true o env apos pos = pure pos := by
    unfold methodCallPos
    rw [hp]
    rfl
  rw [h2]
  rfl
/-- the callee runs, called with keywords -/
theorem run_fnK {CX : CXT} {k n : Nat} {f : Addr} {ks : List Str} {perm : List Nat} {sp : Sp} {E : XK} {Q : VK} {us ws : List Value} {vs zs ys : List V} {pins : List (Addr × Obj)} {s : Shared} {σ : L2.St} {H : Hp} (F : FnK X.prog X.w X.K X.mg X.base CX k f n ks perm sp) (hr : Room k X.A) (hx : Passes CX X E) (I : L2.Inv X pins σ H s)
    (r : Vals vs us) (rz : Vals zs ws) (h1 : vs.length = n) (h2 : zs.length = ks.length) (h3 : permD perm (vs ++ zs) = some ys) (h : sp ys H Q E) : wpAny (model X.prog X.w) X.A (call (.ref f) us (ks.zip ws)) (EP X pins σ Q) X.xe s := by
  refine wpAny_call (codeAny_mono (F X.A X.stack s H us ws vs zs ys Q E hr I.env0 r rz h1 h2 h3 h) fun r s' hq => ?_)
  cases r with
  | error e => exact hx pins σ H s e s' I hq
  | ok fl =>
    cases fl with
    | ret u => exact I.after hq
    | next => exact False.elim hq
    | brk => exact False.elim hq
    | cont => exact False.elim hq
theorem permD_app {α : Type} {l m : List α} : ∀ {perm : List Nat}, permD perm l = none ∨ True := fun {_} => .inr True.intro
theorem d_methk (C : Ctx T O nm X W) {o : Expr} {m n : Nat} {ms : Str} {apos : Pos} {kws : List Keyword} {ks : List Str} {perm : List Nat} {fs fk : Env → Cells → Res (List D)} (hms : nm.mt m = ms) (hb : noSup o = true) (hs : es.any isStar = false) (hl : es.length + kws.length < 29) (hp : (apos.endLine == pos.line) = true)
    (hn0 : es = [] → ∀ ρ cs, fs ρ cs = .ok [] cs) (hk : kwNames kws = some ks) (hlen : ∀ ρ cs ds cs', fs ρ cs = .ok ds cs' → ds.length = n) (hlk : ∀ ρ cs ds cs', fk ρ cs = .ok ds cs' → ds.length = ks.length)
    (hkw : ∀ c f, methOf T c m = some f → nm.kw f (n + 1) ks (permS perm) = true)
    (ho : PE X o (tV X.K nm W fa)) (ha : PA X es (tAs X.K nm W fs)) (hkk : PK X kws (tAs X.K nm W fk)) :
    PE X (.Call (.Attribute o ms apos) es kws pos) (tV X.K nm W fun ρ cs => (fa ρ cs).bind fun x cs => (match methF T m x cs with
    | some f => (fs ρ cs).bind fun ds cs => (fk ρ cs).bind fun ks cs => (match permD perm (ds ++ ks) with
      | some es => O false f (x :: es) cs
      | none => .bad)
    | none => .bad)) := by
  subst hms
  refine ⟨fun pins s σ H Q I h => ?_⟩
  obtain ⟨g, ρ, cs, en, c, p⟩ := h
  refine PySem.W.methodCall_KW (pl := do return (← importBound o X.env).getD true) (thn (ho.run pins s σ H _ I ⟨g, ρ, cs, en, c, Post.bind (R := Rep X.K nm) p⟩) fun u s1 ⟨x, H1, I1, rx, d, g1, cs1, e1, c1, r1, p1⟩ => ?_) (mc_formK hk hb hs hl hp)
  refine meth_run (C := C) I1 c1 r1 rx p1 fun f p2 ⟨cc, hkp, hm⟩ => ?_
  obtain ⟨CX, nn, hr, hx, hxn, hF, hN, hK⟩ := C.fns.ex
  have en1 := en.mono e1 c.ok
  refine cw_kw hn0 hs hk ha hkk hkp I1 ?_
  refine ⟨g1, ρ, cs1, en1, c1, ?_⟩
  cases h1 : fs ρ cs1 with
  | bad => rw [h1] at p2; exact p2.elim
  | exc ee cs2 => rw [h1] at p2; exact p2
  | ok ds cs2 =>
    have l1 := hlen ρ cs1 ds cs2 h1
    rw [h1] at p2
    have p2 : Post X.K nm W (Rep X.K nm) g1 H1 ((fk ρ cs2).bind fun ks cs => (match permD perm (ds ++ ks) with
      | some es => O false f (d :: es) cs
      | none => .bad)) Q := p2
    intro vs g2 H2 e2 c2 r2
    refine ⟨g2, ρ, cs2, en1.mono e2 c1.ok, c2, ?_⟩
    have p2 := Post.mono p2 e2
    cases h2 : fk ρ cs2 with
    | bad => rw [h2] at p2; exact p2.elim
    | exc ee cs3 => rw [h2] at p2; exact p2
    | ok zs cs3 =>
      have l2 := hlk ρ cs2 zs cs3 h2
      rw [h2] at p2
      have p2 : Post X.K nm W (Rep X.K nm) g2 H2 (match permD perm (ds ++ zs) with
        | some es => O false f (d :: es) cs3
        | none => .bad) Q := p2
      intro vz g3 H3 e3 c3 r3 us ws s3 I3 rv rz
      cases h3 : permD perm (ds ++ zs) with
      | none => rw [h3] at p2; exact p2.elim
      | some es3 =>
        rw [h3] at p2
        have r2' := r2.mono e3 c2.ok
        obtain ⟨ys, y1, y2⟩ := permD_rep (r2'.append r3) h3
        have y3 : permD (permS perm) (x :: (vs ++ vz)) = some (x :: ys) := by
          simp only [permS, permD, List.getElem?_cons_zero, permS_get y1]
        refine run_fnK (vs := x :: vs) (us := u :: us) (zs := vz) (ys := x :: ys) (hK f (n + 1) ks (permS perm) (hkw cc f hm)) (hr.mono (Nat.le_add_right nn 3)) hx I3 (.cons rx rv) rz (by rw [List.length_cons, ← r2'.length, l1]) (by rw [← r3.length, l2]) y3 ?_
        exact ⟨rfl, g3, cs3, d :: es3, c3, .cons (((r1.mono e2 c1.ok).mono e3 c2.ok)) y2, Post.mono p2 e3⟩
end
end Dv
end
section
set_option Elab.async false
set_option linter.all false
set_option maxRecDepth 100000
set_option maxHeartbeats 4000000
namespace Dv
open PySem PySem.Spec PyProof.Rows L2
section
variable {T : Tab} {O : Orc} {nm : Nm} {X : Cx} {W : XK} {a b c e : Expr} {es : List Expr} {fa fb fc : Env → Cells → Res D} {pos : Pos} {na nb nc : Den}
/-! ### built-in functions -/
def rB (T : Tab) (O : Orc) (X : Cx) (nm : Nm) (W : XK) (b : Blt) : List V → Hp → VK → Prop := fun vs H Q => ∃ g cs ds, CsOk X.K nm g H cs ∧ BReps X.K nm g H ds vs ∧ Post X.K nm W (Rep X.K nm) g H (bltD T O b ds cs) Q
theorem brep1 {K : PySem.W.Frag} {g : Gh} {H : Hp} {d : D} {vs : List V} (h : BReps K nm g H [d] vs) : ∃ v, vs = [v] ∧ BRep K nm g H d v := by
  cases h with
  | cons h t => cases t; exact ⟨_, rfl, h⟩
theorem brep2 {K : PySem.W.Frag} {g : Gh} {H : Hp} {d e : D} {vs : List V} (h : BReps K nm g H [d, e] vs) : ∃ v u, vs = [v, u] ∧ BRep K nm g H d v ∧ BRep K nm g H e u := by
  cases h with
  | cons h t =>
    obtain ⟨u, rfl, r⟩ := brep1 t
    exact ⟨_, _, rfl, h, r⟩
theorem b_len (C : Ctx T O nm X W) : CallR X (.builtin "len") (rB T O X nm W .len) := by
  intro pins s σ H xs us Q I r ⟨g, cs, ds, co, rs, p⟩
  match ds, rs, p with
  | [d], rs, p =>
    obtain ⟨v, rfl, rd⟩ := brep1 rs
    have p : Post X.K nm W (Rep X.K nm) g H (bLen T O [d] cs) Q := p
    simp only [bLen] at p
    cases q : deref d cs with
    | tup es =>
      rw [q] at p
      obtain ⟨a, vs, rfl, h1, h2⟩ := view_tup rd q
      refine call_len pins s σ H _ us Q I r ⟨_, vs.length, rfl, .inr ⟨vs, h1, rfl⟩, ?_⟩
      rw [← h2.length]
      exact Post.ok p co (.int _)
    | lst es =>
      rw [q] at p
      obtain ⟨a, vs, rfl, h1, h2⟩ := view_lst co rd q
      refine call_len pins s σ H _ us Q I r ⟨_, vs.length, rfl, .inl ⟨vs, .of h1, rfl⟩, ?_⟩
      rw [← h2.length]
      exact Post.ok p co (.int _)
    | str x =>
      rw [q] at p
      have e := view_str rd (deref_id q (fun _ z => nomatch z) (fun _ _ z => nomatch z) (fun _ z => nomatch z))
      subst e
      have p : Post X.K nm W (Rep X.K nm) g H (if x.length ≤ sizeLine then .ok (.int x.length) cs else .bad) Q := p
      split at p
      · rename_i hz
        exact call_len pins s σ H _ us Q I r ⟨_, x.length, rfl, ⟨hz, rfl⟩, Post.ok p co (.int _)⟩
      · exact p.elim
    | ins cc fs =>
      rw [q] at p
      have rd : Rep X.K nm g H d v := rd.rep fun ds e => by subst e; simp [deref] at q
      have p := Post.bind (R := Rep X.K nm) (S := Rep X.K nm) p
      obtain ⟨c', fs', f, e, e2, p⟩ := callM_post p
      obtain ⟨k, hk, M⟩ := methOf_ok C.top e2
      obtain ⟨u, rfl, r1⟩ := vals1 r
      obtain ⟨ad, ox, od, rfl, J, _⟩ := inst_at I co (.inl rd) r1 e
      obtain ⟨mm, F⟩ := I.fr
      refine PySem.W.len_K F I.ok.mod.kin J (by rw [← C.top.dn.2.2.2.2.1]; exact M.at_) M.fn ?_
      refine wpAny_mono (C.calls f _ pins s σ H [.ref ad] [v] [d] cs g _ (.inr (.inl rfl)) I (.cons r1 .nil) co (.cons rd .nil) p) ?_ fun _ _ z => z
      rintro rv s' ⟨w, H', I', rw', dd, g1, cs1, e1, c1, rd1, p1⟩
      cases dd with
      | int n =>
        cases rd1
        obtain ⟨t, rfl⟩ := rw'
        have p1 : Post X.K nm W (Rep X.K nm) g1 H' (if okLen n = true then .ok (.int n) cs1 else .bad) Q := p1
        split at p1
        · rename_i hz
          exact ⟨okLen_iff.mp hz, .int n, H', I'.tok _, ⟨_, rfl⟩, Post.ok p1 c1 (.int _)⟩
        · exact p1.elim
      | _ => exact p1.elim
    | _ => rw [q] at p; exact p.elim
  | [], _, p => exact p.elim
  | _ :: _ :: _, _, p => exact p.elim
theorem b_int (C : Ctx T O nm X W) : CallR X (.type "int") (rB T O X nm W .int) := by
  intro pins s σ H xs us Q I r ⟨g, cs, ds, co, rs, p⟩
  match ds, rs, p with
  | [.int i], rs, p =>
    obtain ⟨v, rfl, rd⟩ := brep1 rs
    have e := view_int rd rfl
    subst e
    exact call_int1 pins s σ H _ us Q I r (.inl ⟨i, rfl, Post.ok p co (.int _)⟩)
  | [.bl i], rs, p =>
    obtain ⟨v, rfl, rd⟩ := brep1 rs
    have e := view_bl rd rfl
    subst e
    exact call_int1 pins s σ H _ us Q I r (.inr ⟨i, rfl, Post.ok p co (.int _)⟩)
  | [], _, p => exact p.elim
  | d :: _ :: _, _, p => cases d <;> exact p.elim
  | [.non], _, p => exact p.elim
  | [.str _], _, p => exact p.elim
  | [.tup _], _, p => exact p.elim
  | [.lst _], _, p => exact p.elim
  | [.dic _], _, p => exact p.elim
  | [.ins _ _], _, p => exact p.elim
  | [.cell _], _, p => exact p.elim
  | [.scr _], _, p => exact p.elim
theorem b_str (C : Ctx T O nm X W) : CallR X (.type "str") (rB T O X nm W .str) := by
  intro pins s σ H xs us Q I r ⟨g, cs, ds, co, rs, p⟩
  match ds, rs, p with
  | [.int i], rs, p =>
    obtain ⟨v, rfl, rd⟩ := brep1 rs
    have e := view_int rd rfl
    subst e
    have p : Post X.K nm W (Rep X.K nm) g H (if i.natAbs.log2 < 1920 then .ok (.str (toString i)) cs else .bad) Q := p
    split at p
    · rename_i hz
      exact call_str_int pins s σ H _ us Q I r ⟨i, rfl, hz, Post.ok p co (.str _)⟩
    · exact p.elim
  | [.ins c fs], rs, p =>
    obtain ⟨v, rfl, rd⟩ := brep1 rs
    have rd : Rep X.K nm g H (.ins c fs) v := rd.rep fun ds e => nomatch e
    have p : Post X.K nm W (Rep X.K nm) g H ((callM T O nStr (.ins c fs) [] cs).bind fun r cs => (match r with
      | .str x => .ok (.str x) cs
      | _ => .bad)) Q := p
    have p := Post.bind (R := Rep X.K nm) (S := Rep X.K nm) p
    obtain ⟨c', fs', f, e, e2, p⟩ := callM_post p
    obtain ⟨k, hk, M⟩ := methOf_ok C.top e2
    obtain ⟨u, rfl, r1⟩ := vals1 r
    obtain ⟨ad, ox, od, rfl, J, _⟩ := inst_at I co (.inl rd) r1 e
    refine PySem.W.kso_call (by have := C.room.un; show X.A.units + 1 + 1 < cLine; omega) I.kIn J (by rw [← C.top.dn.2.2.2.1]; exact M.at_) M.fn ?_
    refine wpAny_mono (C.calls f _ pins s σ H [.ref ad] [v] [.ins c fs] cs g _ (.inr (.inr rfl)) I (.cons r1 .nil) co (.cons rd .nil) p) ?_ fun _ _ z => z
    rintro rv s' ⟨w, H', I', rw', dd, g1, cs1, e1, c1, rd1, p1⟩
    cases dd with
    | str n =>
      cases rd1
      obtain ⟨t, rfl⟩ := rw'
      exact ⟨.str n, H', I', ⟨_, rfl⟩, Post.ok p1 c1 (.str _)⟩
    | _ => exact p1.elim
  | [], _, p => exact p.elim
  | d :: _ :: _, _, p => cases d <;> exact p.elim
  | [.non], _, p => exact p.elim
  | [.str _], _, p => exact p.elim
  | [.tup _], _, p => exact p.elim
  | [.lst _], _, p => exact p.elim
  | [.dic _], _, p => exact p.elim
  | [.bl _], _, p => exact p.elim
  | [.cell _], _, p => exact p.elim
  | [.scr _], _, p => exact p.elim
theorem b_sum (C : Ctx T O nm X W) : CallR X (.builtin "sum") (rB T O X nm W .sum) := by
  intro pins s σ H xs us Q I r ⟨g, cs, ds, co, rs, p⟩
  match ds, rs, p with
  | [d], rs, p =>
    obtain ⟨v, rfl, rd⟩ := brep1 rs
    have p : Post X.K nm W (Rep X.K nm) g H (bSum [d] cs) Q := p
    simp only [bSum] at p
    cases q : deref d cs with
    | lst es =>
      rw [q] at p
      have p : Post X.K nm W (Rep X.K nm) g H (ofRes cs ((intsD es).map fun ns => .int ns.sum)) Q := p
      cases q2 : intsD es with
      | none => rw [q2] at p; exact p.elim
      | some ns =>
        rw [q2] at p
        obtain ⟨a, vs, rfl, h1, h2⟩ := view_lst co rd q
        have e := h2.intsD q2
        subst e
        exact cr_sum C.calm pins s σ H _ us Q I r ⟨a, ns, rfl, .of h1, Post.ok p co (.int _)⟩
    | _ => rw [q] at p; exact p.elim
  | [], _, p => exact p.elim
  | _ :: _ :: _, _, p => exact p.elim
theorem b_all (C : Ctx T O nm X W) : CallR X (.builtin "all") (rB T O X nm W .all) := by
  intro pins s σ H xs us Q I r ⟨g, cs, ds, co, rs, p⟩
  match ds, rs, p with
  | [d], rs, p =>
    obtain ⟨v, rfl, rd⟩ := brep1 rs
    have p : Post X.K nm W (Rep X.K nm) g H (bAll [d] cs) Q := p
    simp only [bAll] at p
    cases q : deref d cs with
    | lst es =>
      rw [q] at p
      have p : Post X.K nm W (Rep X.K nm) g H (ofRes cs ((boolsD es).map fun ns => .bl (ns.all id))) Q := p
      cases q2 : boolsD es with
      | none => rw [q2] at p; exact p.elim
      | some ns =>
        rw [q2] at p
        obtain ⟨a, vs, rfl, h1, h2⟩ := view_lst co rd q
        have e := h2.boolsD q2
        subst e
        exact cr_all C.calm pins s σ H _ us Q I r ⟨a, ns, rfl, .of h1, Post.ok p co (.bl _)⟩
    | _ => rw [q] at p; exact p.elim
  | [], _, p => exact p.elim
  | _ :: _ :: _, _, p => exact p.elim
theorem b_any (C : Ctx T O nm X W) : CallR X (.builtin "any") (rB T O X nm W .any) := by
  intro pins s σ H xs us Q I r ⟨g, cs, ds, co, rs, p⟩
  match ds, rs, p with
  | [d], rs, p =>
    obtain ⟨v, rfl, rd⟩ := brep1 rs
    have p : Post X.K nm W (Rep X.K nm) g H (bAny [d] cs) Q := p
    simp only [bAny] at p
    cases q : deref d cs with
    | lst es =>
      rw [q] at p
      have p : Post X.K nm W (Rep X.K nm) g H (ofRes cs ((boolsD es).map fun ns => .bl (ns.any id))) Q := p
      cases q2 : boolsD es with
      | none => rw [q2] at p; exact p.elim
      | some ns =>
        rw [q2] at p
        obtain ⟨a, vs, rfl, h1, h2⟩ := view_lst co rd q
        have e := h2.boolsD q2
        subst e
        exact cr_any C.calm pins s σ H _ us Q I r ⟨a, ns, rfl, .of h1, Post.ok p co (.bl _)⟩
    | _ => rw [q] at p; exact p.elim
  | [], _, p => exact p.elim
  | _ :: _ :: _, _, p => exact p.elim
theorem b_abs (C : Ctx T O nm X W) : CallR X (.builtin "abs") (rB T O X nm W .abs) := by
  intro pins s σ H xs us Q I r ⟨g, cs, ds, co, rs, p⟩
  match ds, rs, p with
  | [.int i], rs, p =>
    obtain ⟨v, rfl, rd⟩ := brep1 rs
    have e := view_int rd rfl
    subst e
    exact call_abs pins s σ H _ us Q I r ⟨i, rfl, Post.ok p co (.int _)⟩
  | [], _, p => exact p.elim
  | d :: _ :: _, _, p => cases d <;> exact p.elim
  | [.non], _, p => exact p.elim
  | [.str _], _, p => exact p.elim
  | [.tup _], _, p => exact p.elim
  | [.lst _], _, p => exact p.elim
  | [.dic _], _, p => exact p.elim
  | [.ins _ _], _, p => exact p.elim
  | [.bl _], _, p => exact p.elim
  | [.cell _], _, p => exact p.elim
  | [.scr _], _, p => exact p.elim
theorem b_tuple (C : Ctx T O nm X W) : CallR X (.type "tuple") (rB T O X nm W .tuple) := by
  intro pins s σ H xs us Q I r ⟨g, cs, ds, co, rs, p⟩
  match ds, rs, p with
  | [d], rs, p =>
    obtain ⟨v, rfl, rd⟩ := brep1 rs
    have p : Post X.K nm W (Rep X.K nm) g H (ofRes cs ((seqOf d cs).map .tup)) Q := p
    unfold seqOf at p
    cases q : deref d cs with
    | lst es =>
      rw [q] at p
      obtain ⟨a, vs, rfl, h1, h2⟩ := view_lst co rd q
      exact call_tuple_of pins s σ H _ us Q I r ⟨a, vs, rfl, .inl ⟨.of h1, fun l hl => new_tup co h2 hl p⟩⟩
    | tup es =>
      rw [q] at p
      obtain ⟨a, vs, rfl, h1, h2⟩ := view_tup rd q
      exact call_tuple_of pins s σ H _ us Q I r ⟨a, vs, rfl, .inr ⟨h1, Post.ok p co (tup_rep rd q)⟩⟩
    | _ => rw [q] at p; exact p.elim
  | [], _, p => exact p.elim
  | _ :: _ :: _, _, p => exact p.elim
theorem b_list (C : Ctx T O nm X W) : CallR X (.type "list") (rB T O X nm W .list) := by
  intro pins s σ H xs us Q I r ⟨g, cs, ds, co, rs, p⟩
  match ds, rs, p with
  | [d], rs, p =>
    obtain ⟨v, rfl, rd⟩ := brep1 rs
    have p : Post X.K nm W (Rep X.K nm) g H (ofRes cs ((seqOf d cs).map .lst)) Q := p
    unfold seqOf at p
    cases q : deref d cs with
    | lst es =>
      rw [q] at p
      obtain ⟨a, vs, rfl, h1, h2⟩ := view_lst co rd q
      exact call_list_of pins s σ H _ us Q I r ⟨a, vs, rfl, .inl (.of h1), fun l hl => new_lst co h2 hl p⟩
    | tup es =>
      rw [q] at p
      obtain ⟨a, vs, rfl, h1, h2⟩ := view_tup rd q
      exact call_list_of pins s σ H _ us Q I r ⟨a, vs, rfl, .inr h1, fun l hl => new_lst co h2 hl p⟩
    | _ => rw [q] at p; exact p.elim
  | [], _, p => exact p.elim
  | _ :: _ :: _, _, p => exact p.elim
theorem reps_ints {K : PySem.W.Frag} {nm : Nm} {g : Gh} {H : Hp} : ∀ ns : List Int, Reps K nm g H (ns.map D.int) (ns.map V.int)
  | [] => .nil
  | n :: ns => .cons (.int n) (reps_ints ns)
theorem sort_of {ns ns' : List Int} (h1 : ns'.Perm ns) (h2 : ns'.Pairwise (· ≤ ·)) : ns' = ns.mergeSort fun a b => decide (a ≤ b) := by
  refine List.Perm.eq_of_pairwise (le := (· ≤ ·)) (fun a b _ _ h1 h2 => by omega) h2 ?_ (h1.trans (List.mergeSort_perm ns _).symm)
  have := List.pairwise_mergeSort (le := fun a b : Int => decide (a ≤ b)) (fun a b c h1 h2 => by simp at *; omega) (fun a b => by simp; omega) ns
  exact this.imp fun h => by simpa using h
theorem b_sorted (C : Ctx T O nm X W) : CallR X (.builtin "sorted") (rB T O X nm W .sorted) := by
  intro pins s σ H xs us Q I r ⟨g, cs, ds, co, rs, p⟩
  match ds, rs, p with
  | [d], rs, p =>
    obtain ⟨v, rfl, rd⟩ := brep1 rs
    have p : Post X.K nm W (Rep X.K nm) g H (bSorted [d] cs) Q := p
    simp only [bSorted] at p
    cases q : deref d cs with
    | lst es =>
      rw [q] at p
      have p : Post X.K nm W (Rep X.K nm) g H (ofRes cs ((intsD es).map fun ns => .lst ((ns.mergeSort fun a b => decide (a ≤ b)).map .int))) Q := p
      cases q2 : intsD es with
      | none => rw [q2] at p; exact p.elim
      | some ns =>
        rw [q2] at p
        obtain ⟨a, vs, rfl, h1, h2⟩ := view_lst co rd q
        have e := h2.intsD q2
        subst e
        refine cr_sortedI pins s σ H _ us Q I r ⟨a, ns, rfl, .of h1, fun ns' l k1 k2 hl => ?_⟩
        rw [sort_of k1 k2]
        exact new_lst co (reps_ints _) hl p
    | _ => rw [q] at p; exact p.elim
  | [], _, p => exact p.elim
  | _ :: _ :: _, _, p => exact p.elim
theorem b_two {f : Int → Int → Int} {bb : Blt} {id : String} (h : CallR X (.builtin id) (fun xs H Q => ∃ i j, xs = [.int i, .int j] ∧ Q (.int (f i j)) H)) (e : ∀ ds cs, bltD T O bb ds cs = bTwo f ds cs) : CallR X (.builtin id) (rB T O X nm W bb) := by
  intro pins s σ H xs us Q I r ⟨g, cs, ds, co, rs, p⟩
  rw [e] at p
  by_cases z : ∃ i j, ds = [.int i, .int j]
  · obtain ⟨i, j, rfl⟩ := z
    obtain ⟨v, u, rfl, r1, r2⟩ := brep2 rs
    have e3 := view_int r1 rfl
    have e4 := view_int r2 rfl
    subst e3 e4
    exact h pins s σ H _ us Q I r ⟨i, j, rfl, Post.ok p co (.int _)⟩
  · unfold bTwo at p
    split at p
    · exact absurd ⟨_, _, rfl⟩ z
    · exact p.elim
theorem b_max2 (C : Ctx T O nm X W) : CallR X (.builtin "max") (rB T O X nm W .max2) := b_two (call_max2 C.calm) fun ds cs => rfl
theorem b_min2 (C : Ctx T O nm X W) : CallR X (.builtin "min") (rB T O X nm W .min2) := b_two (call_min2 C.calm) fun ds cs => rfl
end
end Dv
end
section
set_option Elab.async false
set_option linter.all false
set_option maxRecDepth 100000
set_option maxHeartbeats 4000000
namespace Dv
open PySem PySem.Spec PyProof.Rows L2
section
variable {T : Tab} {O : Orc} {nm : Nm} {X : Cx} {W : XK} {a b c e : Expr} {es : List Expr} {fa fb fc : Env → Cells → Res D} {pos : Pos} {na nb nc : Den}
/-! ### isinstance -/
def tyTV (nm : Nm) : Ty → Value
  | .int => .type "int"
  | .bool => .type "bool"
  | .str => .type "str"
  | .list => .type "list"
  | .tuple => .type "tuple"
  | .dict => .type "dict"
  | .cls c => .ref (nm.ca c)
def tyVV (nm : Nm) : Ty → V
  | .int => .ty "int"
  | .bool => .ty "bool"
  | .str => .ty "str"
  | .list => .ty "list"
  | .tuple => .ty "tuple"
  | .dict => .ty "dict"
  | .cls c => .ref (nm.ca c)
theorem cls_ty (nm : Nm) (t : Ty) : ClsV (tyVV nm t) (tyTV nm t) := by
  cases t <;> first | exact .ty _ | exact .own _
theorem kb_none : kitB "NoneType" "int" = some false ∧ kitB "NoneType" "bool" = some false ∧ kitB "NoneType" "str" = some false ∧ kitB "NoneType" "list" = some false ∧ kitB "NoneType" "tuple" = some false ∧ kitB "NoneType" "dict" = some false := by decide +kernel
theorem kb_bool : kitB "bool" "int" = some true ∧ kitB "bool" "bool" = some true ∧ kitB "bool" "str" = some false ∧ kitB "bool" "list" = some false ∧ kitB "bool" "tuple" = some false ∧ kitB "bool" "dict" = some false := by decide +kernel
theorem kb_int : kitB "int" "int" = some true ∧ kitB "int" "bool" = some false ∧ kitB "int" "str" = some false ∧ kitB "int" "list" = some false ∧ kitB "int" "tuple" = some false ∧ kitB "int" "dict" = some false := by decide +kernel
theorem kb_str : kitB "str" "int" = some false ∧ kitB "str" "bool" = some false ∧ kitB "str" "str" = some true ∧ kitB "str" "list" = some false ∧ kitB "str" "tuple" = some false ∧ kitB "str" "dict" = some false := by decide +kernel
theorem kb_tuple : kitB "tuple" "int" = some false ∧ kitB "tuple" "bool" = some false ∧ kitB "tuple" "str" = some false ∧ kitB "tuple" "list" = some false ∧ kitB "tuple" "tuple" = some true ∧ kitB "tuple" "dict" = some false := by decide +kernel
theorem kb_list : kitB "list" "int" = some false ∧ kitB "list" "bool" = some false ∧ kitB "list" "str" = some false ∧ kitB "list" "list" = some true ∧ kitB "list" "tuple" = some false ∧ kitB "list" "dict" = some false := by decide +kernel
theorem kb_dict : kitB "dict" "int" = some false ∧ kitB "dict" "bool" = some false ∧ kitB "dict" "str" = some false ∧ kitB "dict" "list" = some false ∧ kitB "dict" "tuple" = some false ∧ kitB "dict" "dict" = some true := by decide +kernel
theorem kb_all {K : PySem.W.Frag} {s : String} {r : Ty → Bool} (h : kitB s "int" = some (r .int) ∧ kitB s "bool" = some (r .bool) ∧ kitB s "str" = some (r .str) ∧ kitB s "list" = some (r .list) ∧ kitB s "tuple" = some (r .tuple) ∧ kitB s "dict" = some (r .dict))
    (hc : ∀ c, (T.cls[c]?).isSome = true → PySem.W.kitOne K (.type s) (.ref (nm.ca c)) = some (r (.cls c))) (t : Ty) (ht : tyThere T t = true) : PySem.W.kitOne K (.type s) (tyTV nm t) = some (r t) := by
  obtain ⟨h1, h2, h3, h4, h5, h6⟩ := h
  cases t with
  | int => exact kit_ty h1
  | bool => exact kit_ty h2
  | str => exact kit_ty h3
  | list => exact kit_ty h4
  | tuple => exact kit_ty h5
  | dict => exact kit_ty h6
  | cls c => exact hc c ht
theorem kit_is (C : Top T nm X.K) {d : D} {cs : Cells} {t : Ty} (h : tyOk T d cs = true) (ht : tyThere T t = true) : PySem.W.kitOne X.K (tyVal nm d cs) (tyTV nm t) = some (isTy T d cs t) := by
  have own : ∀ {s : String}, s ∈ ["NoneType", "bool", "int", "str", "tuple", "list", "dict"] → ∀ c, (T.cls[c]?).isSome = true → PySem.W.kitOne X.K (.type s) (.ref (nm.ca c)) = some false := fun hs c hk => by
    obtain ⟨k, hk⟩ := Option.isSome_iff_exists.mp hk
    exact C.kBC c k _ hk hs
  unfold tyVal isTy
  unfold tyOk at h
  cases q : deref d cs with
  | non => exact (kb_all (r := fun _ => false) kb_none (own (by decide)) t ht).trans (by cases t <;> rfl)
  | bl _ => exact (kb_all (r := fun t => match t with | .int => true | .bool => true | _ => false) kb_bool (own (by decide)) t ht).trans (by cases t <;> rfl)
  | int _ => exact (kb_all (r := fun t => match t with | .int => true | _ => false) kb_int (own (by decide)) t ht).trans (by cases t <;> rfl)
  | str _ => exact (kb_all (r := fun t => match t with | .str => true | _ => false) kb_str (own (by decide)) t ht).trans (by cases t <;> rfl)
  | tup _ => exact (kb_all (r := fun t => match t with | .tuple => true | _ => false) kb_tuple (own (by decide)) t ht).trans (by cases t <;> rfl)
  | lst _ => exact (kb_all (r := fun t => match t with | .list => true | _ => false) kb_list (own (by decide)) t ht).trans (by cases t <;> rfl)
  | dic _ => exact (kb_all (r := fun t => match t with | .dict => true | _ => false) kb_dict (own (by decide)) t ht).trans (by cases t <;> rfl)
  | ins c fs =>
    rw [q] at h
    obtain ⟨k, hk⟩ := Option.isSome_iff_exists.mp h
    cases t with
    | cls c' =>
      obtain ⟨k', hk'⟩ := Option.isSome_iff_exists.mp (show (T.cls[c']?).isSome = true from ht)
      refine (C.kCC c c' k k' hk hk').trans ?_
      simp only [hk]
    | int => exact C.kCB c k _ hk (by decide)
    | bool => exact C.kCB c k _ hk (by decide)
    | str => exact C.kCB c k _ hk (by decide)
    | list => exact C.kCB c k _ hk (by decide)
    | tuple => exact C.kCB c k _ hk (by decide)
    | dict => exact C.kCB c k _ hk (by decide)
  | cell n => rw [q] at h; cases h
  | scr ds => rw [q] at h; cases h
theorem kit_any (C : Top T nm X.K) {d : D} {cs : Cells} (h : tyOk T d cs = true) : ∀ {ts : List Ty}, ts.all (tyThere T) = true → PySem.W.kitAny X.K (tyVal nm d cs) (ts.map (tyTV nm)) = some (ts.any (isTy T d cs))
  | [], _ => rfl
  | t :: ts, ht => by
    rw [List.all_cons, Bool.and_eq_true] at ht
    have h1 := kit_is C h ht.1
    have h2 := kit_any C h ht.2
    rw [List.map_cons, List.any_cons]
    unfold PySem.W.kitAny
    rw [h1]
    cases isTy T d cs t with
    | true => rfl
    | false => simpa using h2
theorem tyx_of (C : Top T nm X.K) {g : Gh} {H : Hp} {cs : Cells} {d : D} {v : V} (co : CsOk X.K nm g H cs) (r : Rep X.K nm g H d v) (h : tyOk T d cs = true) : TyX X.K H v (tyVal nm d cs) := by
  unfold tyVal
  unfold tyOk at h
  cases q : deref d cs with
  | non =>
    have e := view_non (.inl r) (deref_id q (fun _ z => nomatch z) (fun _ _ z => nomatch z) (fun _ z => nomatch z))
    subst e; exact .base .non
  | bl b =>
    have e := view_bl (.inl r) (deref_id q (fun _ z => nomatch z) (fun _ _ z => nomatch z) (fun _ z => nomatch z))
    subst e; exact .base (.bl _)
  | int b =>
    have e := view_int (.inl r) (deref_id q (fun _ z => nomatch z) (fun _ _ z => nomatch z) (fun _ z => nomatch z))
    subst e; exact .base (.int _)
  | str b =>
    have e := view_str (.inl r) (deref_id q (fun _ z => nomatch z) (fun _ _ z => nomatch z) (fun _ z => nomatch z))
    subst e; exact .base (.str _)
  | tup ds =>
    obtain ⟨ad, vs, rfl, h1, _⟩ := view_tup (.inl r) q
    rcases h1 with (h1 | ⟨o, h1⟩) | ⟨o, its, n, h1, h2, _⟩
    · exact .base (.tup h1)
    · exact .fTuple h1
    · exact .kTuple h1 h2
  | lst ds =>
    obtain ⟨ad, vs, rfl, h1, _⟩ := view_lst co (.inl r) q
    exact .base (.lst h1)
  | dic kvs =>
    have e := deref_id q (fun _ z => nomatch z) (fun _ _ z => nomatch z) (fun _ z => nomatch z)
    subst e
    cases r
  | ins c fs =>
    rw [q] at h
    obtain ⟨k, hk⟩ := Option.isSome_iff_exists.mp h
    obtain ⟨ad, dx, vs, rfl, h1, _⟩ := view_ins co (.inl r) q
    obtain ⟨i1, i2, i3, i4⟩ := C.insT c k hk
    exact .base (.ins h1 (C.cls c k hk) i1 i2 i3 i4)
  | cell n => rw [q] at h; cases h
  | scr ds => rw [q] at h; cases h
theorem d_isi1 (C : Top T nm X.K) {p : Pos} {t : Ty} (hg : Gl X "isinstance") (hm : X.mg "isinstance" = none) (hn : isStar a = false) (ha : PE X a (tV X.K nm W fa)) (hnc : isStar c = false) (hc : PE X c (tC (tyVV nm t))) :
    PE X (.Call (.Name "isinstance" p) [a, c] [] pos) (tV X.K nm W fun ρ cs => (fa ρ cs).bind fun x cs => isiD T [t] x cs) := by
  have hA : PA X [a, c] (tCons (tV X.K nm W fa) (tCons (tC (tyVV nm t)) tNil)) := pa_cons ha (pa_cons hc pa_nil (star_not (isStar_not hnc))) (star_not (isStar_not hn))
  have hpl : ∀ pos : Pos, (backTo pos (starEach [c] X.env)).any (·.1) = false := fun pos => by rw [any_star]; simp [hnc]
  refine (pe_callB (x := "isinstance") (p := p) (pos := pos) call_isi hg hm (by kernel_rfl) hA (he := star_not (isStar_not hn)) (hpl := hpl pos)).imp fun σ H Q q => ?_
  refine (fun (z : tV X.K nm W fa σ H fun x H1 => rIsi X.K [x, tyVV nm t] H1 Q) => z) ?_
  obtain ⟨g, ρ, cs, en, c, p⟩ := q
  refine ⟨g, ρ, cs, en, c, (Post.bind (R := Rep X.K nm) p).imp ?_⟩
  rintro v H1 ⟨d, g1, cs1, e1, c1, r1, p1⟩
  unfold isiD at p1
  split at p1
  · rename_i hz
    have hz2 : tyThere T t = true := by simpa using hz.2
    have p1 : Post X.K nm W (Rep X.K nm) g1 H1 (.ok (.bl ([t].any (isTy T d cs1))) cs1) Q := p1
    refine ⟨v, _, _, _, isTy T d cs1 t, rfl, cls_ty nm t, tyx_of C c1 r1 hz.1, kit_is C hz.1 hz2, ?_⟩
    have := Post.ok p1 c1 (.bl _)
    simpa using this
  · exact p1.elim
theorem paired_ty (nm : Nm) : ∀ ts : List Ty, Paired ClsV (ts.map (tyVV nm)) (ts.map (tyTV nm))
  | [] => .nil
  | t :: ts => .cons (cls_ty nm t) (paired_ty nm ts)
/-- the classes in a tuple -/
theorem d_isiT (C : Top T nm X.K) {p : Pos} {ts : List Ty} {x1 : Nat} {pt : Pos} (hg : Gl X "isinstance") (hm : X.mg "isinstance" = none) (hn : isStar a = false) (ha : PE X a (tV X.K nm W fa)) (hz : ts.length ≤ sizeLine) (hc : PA X es fun _ H Q => Q (ts.map (tyVV nm)) H) :
    PE X (.Call (.Name "isinstance" p) [a, .Tuple es x1 pt] [] pos) (tV X.K nm W fun ρ cs => (fa ρ cs).bind fun x cs => isiD T ts x cs) := by
  have hA : PA X [a, .Tuple es x1 pt] (tCons (tV X.K nm W fa) (tCons (tTup fun _ H Q => Q (ts.map (tyVV nm)) H) tNil)) := pa_cons ha (pa_cons (pe_tup hc) pa_nil rfl) (star_not (isStar_not hn))
  refine (pe_callB (x := "isinstance") (p := p) (pos := pos) call_isiT hg hm (by kernel_rfl) hA (he := star_not (isStar_not hn)) (hpl := by rfl)).imp fun σ H Q q => ?_
  refine (fun (z : tV X.K nm W fa σ H fun x H1 => (ts.map (tyVV nm)).length ≤ sizeLine ∧ ∀ p, H1 p = none → rIsiT X.K [x, .ref p] (upd H1 p (.tup (ts.map (tyVV nm)))) Q) => z) ?_
  obtain ⟨g, ρ, cs, en, c, p⟩ := q
  refine ⟨g, ρ, cs, en, c, (Post.bind (R := Rep X.K nm) p).imp ?_⟩
  rintro v H1 ⟨d, g1, cs1, e1, c1, r1, p1⟩
  unfold isiD at p1
  split at p1
  · rename_i hq
    refine ⟨by rw [List.length_map]; exact hz, fun q hq' => ?_⟩
    have c2 := c1.laid (o := .tup (ts.map (tyVV nm))) hq'
    have r2 := r1.mono (ext_laid (o := .tup (ts.map (tyVV nm))) hq') c1.ok
    exact ⟨v, q, _, _, _, _, rfl, upd_same, paired_ty nm ts, tyx_of C c2 r2 hq.1, kit_any C hq.1 hq.2, Post.okE p1 (ext_laid hq') c2 (.bl _)⟩
  · exact p1.elim
/-! ### texts -/
theorem d_join {p : Pos} (ho : PE X a (tV X.K nm W fa)) (he : PE X b (tBr X.K nm W fb)) (hs : isStar b = false) (hb : noSup a = true) (hl : (p.endLine == pos.line) = true) :
    PE X (.Call (.Attribute a "join" p) [b] [] pos) (tV X.K nm W fun ρ cs => (fa ρ cs).bind fun x cs => (match x with
    | .str s => (fb ρ cs).bind fun y cs => joinD s y cs
    | _ => .bad)) := by
  refine (pe_join ho he (star_not (isStar_not hs)) (noSup_base hb) hl).imp fun σ H Q q => ?_
  obtain ⟨g, ρ, cs, en, c, p⟩ := q
  refine ⟨g, ρ, cs, en, c, (Post.bind (R := Rep X.K nm) p).imp ?_⟩
  rintro v H1 ⟨d, g1, cs1, e1, c1, r1, p1⟩
  cases d with
  | str s =>
    cases r1
    refine ⟨⟨s, rfl⟩, g1, ρ, cs1, en.mono e1 c.ok, c1, (Post.bind (R := BRep X.K nm) p1).imp ?_⟩
    rintro y H2 ⟨dy, g2, cs2, e2, c2, r2, p2⟩
    unfold joinD at p2
    cases q : seqOf dy cs2 with
    | none => rw [q] at p2; exact p2.elim
    | some ds =>
      rw [q] at p2
      have p2 : Post X.K nm W (Rep X.K nm) g2 H2 (match strsD ds with
        | some ss => if (ss.map (·.length)).sum + ss.length * s.length ≤ 16777216 then .ok (.str (Txt.join s ss)) cs2 else .bad
        | none => .bad) Q := p2
      cases q2 : strsD ds with
      | none => rw [q2] at p2; exact p2.elim
      | some ss =>
        rw [q2] at p2
        have p2 : Post X.K nm W (Rep X.K nm) g2 H2 (if (ss.map (·.length)).sum + ss.length * s.length ≤ 16777216 then .ok (.str (Txt.join s ss)) cs2 else .bad) Q := p2
        split at p2
        · rename_i hz
          obtain ⟨a, vs, rfl, h1, h2⟩ := view_seq c2 r2 q
          have e := h2.strsD q2
          subst e
          exact ⟨s, a, ss, rfl, rfl, h1, hz, Post.ok p2 c2 (.str _)⟩
        · exact p2.elim
  | _ => exact p1.elim
theorem d_split {p : Pos} (ho : PE X a (tV X.K nm W fa)) (he : PE X b (tV X.K nm W fb)) (hs : isStar b = false) (hb : noSup a = true) (hl : (p.endLine == pos.line) = true) :
    PE X (.Call (.Attribute a "split" p) [b] [] pos) (tV X.K nm W fun ρ cs => (fa ρ cs).bind fun x cs => (match x with
    | .str s => (fb ρ cs).bind fun y cs => splitD s y cs
    | _ => .bad)) := by
  refine (pe_split ho he (star_not (isStar_not hs)) (noSup_base hb) hl).imp fun σ H Q q => ?_
  obtain ⟨g, ρ, cs, en, c, p⟩ := q
  refine ⟨g, ρ, cs, en, c, (Post.bind (R := Rep X.K nm) p).imp ?_⟩
  rintro v H1 ⟨d, g1, cs1, e1, c1, r1, p1⟩
  cases d with
  | str s =>
    cases r1
    refine ⟨⟨s, rfl⟩, g1, ρ, cs1, en.mono e1 c.ok, c1, (Post.bind (R := Rep X.K nm) p1).imp ?_⟩
    rintro y H2 ⟨dy, g2, cs2, e2, c2, r2, p2⟩
    cases dy with
    | str t =>
      cases r2
      have p2 : Post X.K nm W (Rep X.K nm) g2 H2 (if t.length = 0 ∨ sizeLine < s.length + 2 then .bad else .ok (.lst ((Txt.split s t).map .str)) cs2) Q := p2
      split at p2
      · exact p2.elim
      · rename_i hz
        refine ⟨s, t, rfl, rfl, by simp; omega, by omega, fun q hq => ?_⟩
        exact new_lst c2 Reps.strs hq p2
    | _ => exact p2.elim
  | _ => exact p1.elim
theorem d_fmt (ha : PE X a (tV X.K nm W fa)) : PE X (.FormattedValue a (-1) none pos) (tV X.K nm W fun ρ cs => (fa ρ cs).bind fun x cs => fmtD x cs) := (pe_fmt ha).imp fun σ H Q q => by
  obtain ⟨g, ρ, cs, en, c, p⟩ := q
  refine ⟨g, ρ, cs, en, c, (Post.bind (R := Rep X.K nm) p).imp ?_⟩
  rintro v H1 ⟨d, g1, cs1, e1, c1, r1, p1⟩
  cases d with
  | str s =>
    cases r1
    have p1 : Post X.K nm W (Rep X.K nm) g1 H1 (if s.length ≤ sizeLine then .ok (.str s) cs1 else .bad) Q := p1
    split at p1
    · rename_i hz
      exact .inl ⟨s, rfl, hz, Post.ok p1 c1 (.str _)⟩
    · exact p1.elim
  | int i =>
    cases r1
    have p1 : Post X.K nm W (Rep X.K nm) g1 H1 (if i.natAbs.log2 < 1920 then .ok (.str (toString i)) cs1 else .bad) Q := p1
    split at p1
    · rename_i hz
      exact .inr ⟨i, rfl, hz, Post.ok p1 c1 (.str _)⟩
    · exact p1.elim
  | _ => exact p1.elim
/-- a text's parts -/
def FJ (X : Cx) (nm : Nm) (W : XK) (es : List Expr) (f : Str → Env → Cells → Res Str) : Prop := ∃ ts, PJ X es ts ∧ ∀ acc σ H Q, tG X.K nm W (fun _ _ (a b : Str) => a = b) (f acc) σ H Q → tJs ts acc σ H Q
theorem fj_nil : FJ X nm W [] (fun acc _ cs => .ok acc cs) := ⟨[], .nil, fun acc σ H Q q => by
  obtain ⟨g, ρ, cs, en, c, p⟩ := q
  exact Post.ok p c rfl⟩
theorem fj_cons {f : Str → Env → Cells → Res Str} (ha : PE X a (tV X.K nm W fa)) (hr : FJ X nm W es f) : FJ X nm W (a :: es) (fun acc ρ cs => (fa ρ cs).bind fun x cs => (match x with
        | .str y => if (acc ++ y).length ≤ sizeLine then f (acc ++ y) ρ cs else .bad
        | _ => .bad)) := by
  obtain ⟨ts, h1, h2⟩ := hr
  refine ⟨_ :: ts, .cons ha h1, fun acc σ H Q q => ?_⟩
  obtain ⟨g, ρ, cs, en, c, p⟩ := q
  refine (fun (z : tV X.K nm W fa σ H fun x H1 => ∃ y : Str, x = .str y ∧ (acc ++ y).length ≤ sizeLine ∧ tJs ts (acc ++ y) σ H1 Q) => z) ?_
  refine ⟨g, ρ, cs, en, c, (Post.bind (R := Rep X.K nm) p).imp ?_⟩
  rintro v H1 ⟨d, g1, cs1, e1, c1, r1, p1⟩
  cases d with
  | str y =>
    cases r1
    have p1 : Post X.K nm W (fun _ _ (a b : Str) => a = b) g1 H1 (if (acc ++ y).length ≤ sizeLine then f (acc ++ y) ρ cs1 else .bad) Q := p1
    split at p1
    · rename_i hz
      exact ⟨y, rfl, hz, h2 _ _ _ _ ⟨g1, ρ, cs1, en.mono e1 c.ok, c1, p1⟩⟩
    · exact p1.elim
  | _ => exact p1.elim
theorem d_fstr {v1 v2 : Expr} {rest : List Expr} {f : Str → Env → Cells → Res Str} (h : FJ X nm W (v1 :: v2 :: rest) f) : PE X (.JoinedStr (v1 :: v2 :: rest) pos) (tV X.K nm W fun ρ cs => (f Str.empty ρ cs).bind fun x cs => .ok (.str x) cs) := by
  obtain ⟨ts, h1, h2⟩ := h
  refine (pe_joined h1).imp fun σ H Q q => ?_
  obtain ⟨g, ρ, cs, en, c, p⟩ := q
  refine h2 _ _ _ _ ⟨g, ρ, cs, en, c, (Post.bind (R := fun _ _ (a b : Str) => a = b) p).imp ?_⟩
  rintro v H1 ⟨d, g1, cs1, e1, c1, rfl, p1⟩
  exact Post.ok p1 c1 (.str _)
theorem d_fstr1 (h : PE X a (tV X.K nm W fa)) : PE X (.JoinedStr [a] pos) (tV X.K nm W fa) := pe_joined1 h
end
end Dv
end
section
set_option Elab.async false
set_option linter.all false
set_option maxRecDepth 100000
set_option maxHeartbeats 4000000
namespace Dv
open PySem PySem.Spec PyProof.Rows L2
/-! ### states apart: what is frozen stays -/
structure ExtS (g : Gh) (H : Hp) (g' : Gh) (H' : Hp) : Prop where
  io : ∃ t, g'.io = g.io ++ t
  fz : ∀ a, g.fz a → g'.fz a
  kf : ∀ a o, g.fz a → H a = some o → H' a = some o
section
variable {K : PySem.W.Frag} {nm : Nm} {W : XK} {g g' g2 : Gh} {H H' H2 : Hp} {cs : Cells}
theorem ExtS.refl : ExtS g H g H := ⟨⟨[], by simp⟩, fun _ h => h, fun _ _ _ h => h⟩
theorem ExtS.trans (e : ExtS g H g' H') (f : ExtS g' H' g2 H2) : ExtS g H g2 H2 := by
  obtain ⟨t, e1⟩ := e.io
  obtain ⟨u, f1⟩ := f.io
  exact ⟨⟨t ++ u, by rw [f1, e1, List.append_assoc]⟩, fun a h => f.fz a (e.fz a h), fun a o h q => f.kf a o (e.fz a h) (e.kf a o h q)⟩
theorem Ext.s (e : Ext g H g' H') (ok : GOk g H) : ExtS g H g' H' := by
  obtain ⟨t, e1, _⟩ := e.io
  exact ⟨⟨t, e1⟩, e.fz, fun a o h q => e.kf ok h q⟩
theorem ExtS.ioGet (e : ExtS g H g' H') {n : Nat} {a : Addr} (h : g.io[n]? = some a) : g'.io[n]? = some a := by
  obtain ⟨t, e1⟩ := e.io
  rw [e1]
  have hn : n < g.io.length := by
    rcases Nat.lt_or_ge n g.io.length with q | q
    · exact q
    · rw [List.getElem?_eq_none q] at h
      cases h
  rw [List.getElem?_append_left hn, h]
mutual
theorem Rep.monoS (e : ExtS g H g' H') : ∀ {d : D} {v : V}, Rep K nm g H d v → Rep K nm g' H' d v
  | _, _, .non => .non
  | _, _, .bl b => .bl b
  | _, _, .int i => .int i
  | _, _, .str x => .str x
  | _, _, .tup h1 h2 h3 => .tup (e.fz _ h1) (e.kf _ _ h1 h2) (Reps.monoS e h3)
  | _, _, .tupK h1 h3 => .tupK h1 (Reps.monoS e h3)
  | _, _, .lst h1 h2 h3 => .lst (e.fz _ h1) (e.kf _ _ h1 h2) (Reps.monoS e h3)
  | _, _, .scr h1 h2 h3 => .scr (e.fz _ h1) (e.kf _ _ h1 h2) (Reps.monoS e h3)
  | _, _, .scrK h1 h3 => .scrK h1 (Reps.monoS e h3)
  | _, _, .ins h1 h2 h3 => .ins (e.fz _ h1) (e.kf _ _ h1 h2) (Repf.monoS e h3)
  | _, _, .cell h => .cell (e.ioGet h)
theorem Reps.monoS (e : ExtS g H g' H') : ∀ {ds : List D} {vs : List V}, Reps K nm g H ds vs → Reps K nm g' H' ds vs
  | _, _, .nil => .nil
  | _, _, .cons h t => .cons (Rep.monoS e h) (Reps.monoS e t)
theorem Repf.monoS (e : ExtS g H g' H') : ∀ {fs : List (Nat × D)} {vs : List (Str × V)}, Repf K nm g H fs vs → Repf K nm g' H' fs vs
  | _, _, .nil => .nil
  | _, _, .cons h t => .cons (Rep.monoS e h) (Repf.monoS e t)
end
/-! ### an object of one holder changed -/
theorem own_upd {a : Addr} {d : D} {o : HO} (h : Own K nm g H d (.ref a)) : ExtS g H g (upd H a o) := by
  obtain ⟨b, e, h1, h2, _⟩ := h
  cases e
  exact ⟨⟨[], by simp⟩, fun _ h => h, fun b o' hb q => by rw [upd_ne (show b ≠ a from fun e => h1 (e ▸ hb))]; exact q⟩
theorem own_gok {a : Addr} {d : D} {o : HO} (h : Own K nm g H d (.ref a)) (ok : GOk g H) : GOk g (upd H a o) := by
  have k : ∀ b, H b ≠ none → upd H a o b ≠ none := fun b q => by
    by_cases e : b = a
    · subst e; rw [upd_same]; simp
    · rw [upd_ne e]; exact q
  exact ⟨fun b q => k b (ok.fzt b q), fun b q => k b (ok.iot b q), ok.dis, ok.nd⟩
theorem own_cs {a : Addr} {d : D} {o : HO} (h : Own K nm g H d (.ref a)) (c : CsOk K nm g H cs) : CsOk K nm g (upd H a o) cs := by
  refine ⟨own_gok h c.ok, c.len, fun n x b hn hb => ?_⟩
  have z := c.at_ n x b hn hb
  have hne : b ≠ a := by
    obtain ⟨a', e, _, h2, _⟩ := h
    cases e
    exact fun e : b = a => h2 (e ▸ List.mem_of_getElem? hb)
  have ex := own_upd (o := o) h
  cases x with
  | lst ds => obtain ⟨vs, q, r⟩ := z; exact ⟨vs, (upd_ne hne).trans q, r.monoS ex⟩
  | ins c fs => obtain ⟨dx, vs, q, r⟩ := z; exact ⟨dx, vs, (upd_ne hne).trans q, r.monoS ex⟩
theorem own_ext {g0 : Gh} {H0 : Hp} {a : Addr} {o : HO} (e : Ext g0 H0 g H) (hn : H0 a = none) : Ext g0 H0 g (upd H a o) := by
  obtain ⟨t, e1, e2⟩ := e.io
  refine ⟨⟨t, e1, e2⟩, e.fz, e.fzn, fun b u q n => ?_, fun b q => ?_⟩
  · rw [upd_ne (show b ≠ a from fun z => by rw [z, hn] at q; cases q)]
    exact e.keep b u q n
  · by_cases z : b = a
    · rw [z]; exact hn
    · rw [upd_ne z] at q; exact e.there b q
/-- a thing that nobody changes any more -/
theorem own_frz {a : Addr} {d : D} (h : Own K nm g H d (.ref a)) (c : CsOk K nm g H cs) : Rep K nm (g.add a) H d (.ref a) ∧ CsOk K nm (g.add a) H cs ∧ ExtS g H (g.add a) H := by
  have ex : ExtS g H (g.add a) H := ⟨⟨[], by simp [Gh.add]⟩, fun b hb => .inl hb, fun b o hb q => q⟩
  have h0 := h
  obtain ⟨b, e, h1, h2, m⟩ := h
  cases e
  obtain ⟨o, ho⟩ := h0.there
  have ok : GOk (g.add a) H := by
    refine ⟨fun b q => ?_, c.ok.iot, fun b q z => ?_, c.ok.nd⟩
    · rcases q with q | q
      · exact c.ok.fzt b q
      · rw [q, ho]; simp
    · rcases z with z | z
      · exact c.ok.dis b q z
      · exact h2 (z ▸ q)
  refine ⟨?_, ⟨ok, c.len, fun n x b hn hb => ?_⟩, ex⟩
  · cases d with
    | lst ds => obtain ⟨vs, q, r⟩ := m; exact .lst (.inr rfl) q (r.monoS ex)
    | ins c fs => obtain ⟨dx, vs, q, r⟩ := m; exact .ins (.inr rfl) q (r.monoS ex)
    | _ => exact m.elim
  · have z := c.at_ n x b hn hb
    cases x with
    | lst ds => obtain ⟨vs, q, r⟩ := z; exact ⟨vs, q, r.monoS ex⟩
    | ins c fs => obtain ⟨dx, vs, q, r⟩ := z; exact ⟨dx, vs, q, r.monoS ex⟩
theorem frz_ext {g0 : Gh} {H0 : Hp} {a : Addr} (e : Ext g0 H0 g H) (hn : H0 a = none) : Ext g0 H0 (g.add a) H := by
  obtain ⟨t, e1, e2⟩ := e.io
  refine ⟨⟨t, e1, e2⟩, fun b q => .inl (e.fz b q), fun b q => ?_, e.keep, e.there⟩
  rcases q with q | q
  · exact e.fzn b q
  · exact .inr (q ▸ hn)
end
/-! ### slots -/
section
variable {K : PySem.W.Frag} {nm : Nm} {W : XK} {g g' g2 : Gh} {H H' H2 : Hp} {cs : Cells}
theorem EnvOk.set {σ : L2.St} {ρ : Env} {i : Nat} {d : D} {v : V} (h : EnvOk K nm g H σ ρ) (r : Rep K nm g H d v) : EnvOk K nm g H (σ.set i (some v)) (ρ.set i (.val d)) := by
  refine ⟨by rw [List.length_set, List.length_set, h.len], fun j s hs => ?_, fun j k e f w h1 h2 h3 h4 => ?_⟩
  · by_cases q : i = j
    · subst q
      have hi : i < ρ.length := by
        have := (List.getElem?_eq_some_iff.mp hs).1
        rwa [List.length_set] at this
      rw [List.getElem?_set_self hi] at hs
      cases hs
      rw [List.getElem?_set_self (by rw [h.len]; exact hi)]
      exact ⟨v, rfl, r⟩
    · rw [List.getElem?_set_ne q] at hs ⊢
      exact h.sl j s hs
  · have ne : ∀ {j : Nat} {e : D}, (ρ.set i (.val d))[j]? = some (.own e) → i ≠ j := fun {j e} z q => by
      subst q
      have hi : i < ρ.length := by
        have := (List.getElem?_eq_some_iff.mp z).1
        rwa [List.length_set] at this
      rw [List.getElem?_set_self hi] at z
      cases z
    have n1 := ne h1
    have n2 := ne h2
    rw [List.getElem?_set_ne n1] at h1 h3
    rw [List.getElem?_set_ne n2] at h2 h4
    exact h.ap j k e f w h1 h2 h3 h4
theorem EnvOk.emp {σ : L2.St} {ρ : Env} {i : Nat} {x : Option V} (h : EnvOk K nm g H σ ρ) : EnvOk K nm g H (σ.set i x) (ρ.set i .emp) := by
  refine ⟨by rw [List.length_set, List.length_set, h.len], fun j s hs => ?_, fun j k e f w h1 h2 h3 h4 => ?_⟩
  · by_cases q : i = j
    · subst q
      have hi : i < ρ.length := by
        have := (List.getElem?_eq_some_iff.mp hs).1
        rwa [List.length_set] at this
      rw [List.getElem?_set_self hi] at hs
      cases hs
      exact True.intro
    · rw [List.getElem?_set_ne q] at hs ⊢
      exact h.sl j s hs
  · have ne : ∀ {j : Nat} {e : D}, (ρ.set i .emp)[j]? = some (.own e) → i ≠ j := fun {j e} z q => by
      subst q
      have hi : i < ρ.length := by
        have := (List.getElem?_eq_some_iff.mp z).1
        rwa [List.length_set] at this
      rw [List.getElem?_set_self hi] at z
      cases z
    have n1 := ne h1
    have n2 := ne h2
    rw [List.getElem?_set_ne n1] at h1 h3
    rw [List.getElem?_set_ne n2] at h2 h4
    exact h.ap j k e f w h1 h2 h3 h4
theorem EnvOk.wipe {σ : L2.St} {ρ : Env} (h : EnvOk K nm g H σ ρ) : ∀ vs : List Nat, EnvOk K nm g H (L2.wipe σ vs) (wipeE ρ vs)
  | [] => h
  | v :: vs => (h.wipe vs).emp
theorem wipe_set {σ : L2.St} {i : Nat} {x : Option V} : ∀ {vs : List Nat}, i ∈ vs → L2.wipe (σ.set i x) vs = L2.wipe σ vs
  | v :: vs, h => by
    unfold L2.wipe
    by_cases q : i = v
    · subst q
      by_cases m : i ∈ vs
      · rw [wipe_set m]
      · have : ∀ ws : List Nat, i ∉ ws → L2.wipe (σ.set i x) ws = (L2.wipe σ ws).set i x := by
          intro ws
          induction ws with
          | nil => intro _; rfl
          | cons w ws ih =>
            intro hn
            simp only [List.mem_cons, not_or] at hn
            unfold L2.wipe
            rw [ih hn.2, List.set_comm _ _ hn.1]
        rw [this vs m, List.set_set]
    · have m : i ∈ vs := (List.mem_cons.mp h).resolve_left q
      rw [wipe_set m]
/-! ### targets -/
def gTgs : List Nat → TGs
  | [] => gNil
  | i :: is => gCons (gName i) (gTgs is)
def tgOf (K : PySem.W.Frag) (is : List Nat) (one : Bool) : TG := if one = true then gName (is.headD 0) else gTup K is.length (gTgs is)
theorem set_own {σ : L2.St} {ρ : Env} {i : Nat} {d : D} {x : Option V} (j : Nat) (e : D) (h : (ρ.set i (.val d))[j]? = some (.own e)) : ρ[j]? = some (.own e) ∧ (σ.set i x)[j]? = σ[j]? := by
  by_cases q : i = j
  · subst q
    have hi : i < ρ.length := by
      have := (List.getElem?_eq_some_iff.mp h).1
      rwa [List.length_set] at this
    rw [List.getElem?_set_self hi] at h
    cases h
  · rw [List.getElem?_set_ne q] at h
    exact ⟨h, List.getElem?_set_ne q⟩
theorem gTgs_ok {Q : L2.St → Hp → Prop} : ∀ {is : List Nat} {σ : L2.St} {ρ ρ' : Env} {ds : List D} {vs : List V}, EnvOk K nm g H σ ρ → Reps K nm g H ds vs → setAll is ds ρ = some ρ' →
    (∀ σ', EnvOk K nm g H σ' ρ' → (∀ ws, (∀ i ∈ is, i ∈ ws) → L2.wipe σ' ws = L2.wipe σ ws) → (∀ (j : Nat) (e : D), ρ'[j]? = some (.own e) → ρ[j]? = some (.own e) ∧ σ'[j]? = σ[j]?) → Q σ' H) → gTgs is vs σ H Q
  | [], σ, ρ, ρ', ds, vs, en, r, h, k => by
    cases r with
    | nil => cases h; exact ⟨rfl, k σ en (fun _ _ => rfl) fun _ _ h => ⟨h, rfl⟩⟩
    | cons _ _ => cases h
  | i :: is, σ, ρ, ρ', ds, vs, en, r, h, k => by
    cases r with
    | nil => cases h
    | cons r rs =>
      rename_i d v ds vs
      unfold setAll at h
      split at h
      · refine ⟨v, vs, rfl, ?_⟩
        show gTgs is vs (σ.set i (some v)) H Q
        refine gTgs_ok (en.set r) rs h fun σ' en' hw ho => k σ' en' (fun ws hws => ?_) fun j e he => ?_
        · rw [hw ws fun j hj => hws j (List.mem_cons_of_mem _ hj), wipe_set (hws i (by simp))]
        · obtain ⟨h1, h2⟩ := ho j e he
          obtain ⟨h3, h4⟩ := set_own (σ := σ) (x := some v) j e h1
          exact ⟨h3, h2.trans h4⟩
      · cases h
theorem setAll_len : ∀ {is : List Nat} {ds : List D} {ρ ρ' : Env}, setAll is ds ρ = some ρ' → ds.length = is.length
  | [], [], _, _, _ => rfl
  | [], _ :: _, _, _, h => by cases h
  | _ :: _, [], _, _, h => by cases h
  | i :: is, d :: ds, ρ, ρ', h => by
    unfold setAll at h
    split at h
    · rw [List.length_cons, List.length_cons, setAll_len h]
    · cases h
theorem tgOf_ok {Q : L2.St → Hp → Prop} {is : List Nat} {one : Bool} {σ : L2.St} {ρ ρ' : Env} {d : D} {v : V} (en : EnvOk K nm g H σ ρ) (r : Rep K nm g H d v) (h : setTg is one d ρ = some ρ')
    (k : ∀ σ', EnvOk K nm g H σ' ρ' → (∀ ws, (∀ i ∈ is, i ∈ ws) → L2.wipe σ' ws = L2.wipe σ ws) → (∀ (j : Nat) (e : D), ρ'[j]? = some (.own e) → ρ[j]? = some (.own e) ∧ σ'[j]? = σ[j]?) → Q σ' H) : tgOf K is one v σ H Q := by
  cases one with
  | true =>
    have h : setAll is [d] ρ = some ρ' := h
    have hl := setAll_len h
    match is, hl, h, k with
    | [i], _, h, k =>
      unfold setAll at h
      split at h
      · have e : ρ.set i (.val d) = ρ' := Option.some.inj h
        subst e
        exact k _ (en.set r) (fun vs hv => wipe_set (hv i (by simp))) fun j e he => set_own j e he
      · cases h
  | false =>
    unfold setTg at h
    cases d with
    | tup ds =>
      have h : setAll is ds ρ = some ρ' := h
      obtain ⟨a, vs, rfl, h1, h2⟩ := view_tup (cs := []) (.inl r) rfl
      exact ⟨a, vs, rfl, h1, by rw [← h2.length, setAll_len h], gTgs_ok en h2 h k⟩
    | _ => cases h
end
section
variable {X : Cx} {nm : Nm} {W : XK} {e : Expr} {es : List Expr} {pos : Pos}
theorem tg_name {i : Nat} {x : Str} (hN : X.N.Nodup) (hi : X.N[i]? = some x) (hx : Loc X.env.scope x) (hf : X.fn x = true ∨ X.env.scope.names.lookup x = some .local) : PG X (.Name x pos) (tgOf X.K [i] true) := pg_name hN hi hx hf
theorem tgs_nil : PGs X [] (gTgs []) := pgs_nil
theorem tgs_cons {i : Nat} {x : Str} {is : List Nat} (hN : X.N.Nodup) (hi : X.N[i]? = some x) (hx : Loc X.env.scope x) (hf : X.fn x = true ∨ X.env.scope.names.lookup x = some .local) (h2 : PGs X es (gTgs is)) : PGs X (.Name x pos :: es) (gTgs (i :: is)) := pgs_cons (pg_name hN hi hx hf) h2 rfl
theorem tg_tup {is : List Nat} {k : Nat} (hc : X.calm = true) (h : PGs X es (gTgs is)) (hn : (assignEach es X.env).length = is.length) (hst : (assignEach es X.env).findIdx? (·.1) = none) : PG X (.Tuple es k pos) (tgOf X.K is false) := pg_tup (n := is.length) hc h hn hst
end
end Dv
end
section
set_option Elab.async false
set_option linter.all false
set_option maxRecDepth 100000
set_option maxHeartbeats 4000000
namespace Dv
open PySem PySem.Spec PyProof.Rows L2
/-- the heap as it was, or with a new object that never changes -/
def Grow (g : Gh) (H : Hp) (g' : Gh) (H' : Hp) : Prop := (g' = g ∧ H' = H) ∨ ∃ p o, H p = none ∧ g' = g.add p ∧ H' = upd H p o
section
variable {K : PySem.W.Frag} {nm : Nm} {W : XK} {g g' g2 : Gh} {H H' H2 : Hp} {cs : Cells}
theorem Grow.ext (h : Grow g H g' H') : Ext g H g' H' := by
  rcases h with ⟨rfl, rfl⟩ | ⟨p, o, hp, rfl, rfl⟩
  · exact .refl
  · exact ext_new hp
theorem Grow.csOk (h : Grow g H g' H') (c : CsOk K nm g H cs) : CsOk K nm g' H' cs := by
  rcases h with ⟨rfl, rfl⟩ | ⟨p, o, hp, rfl, rfl⟩
  · exact c
  · exact c.new hp
/-- what is walked yields these, one by one -/
def Yl (K : PySem.W.Frag) (nm : Nm) (g : Gh) (H : Hp) (xs : List D) (J : It) : Prop := ∀ g1 H1, ExtS g H g1 H1 → GOk g1 H1 → ∀ i, (xs.length ≤ i → J.stop i H1) ∧
  (∀ d, xs[i]? = some d → J.go i H1 ∧ ∀ x H2, J.yld i H1 x H2 → ∃ g2, Grow g1 H1 g2 H2 ∧ Rep K nm g2 H2 d x)
theorem yl_list {a : Addr} {ds : List D} (r : Rep K nm g H (.lst ds) (.ref a)) : Yl K nm g H ds (Itl K a) := by
  intro g1 H1 e ok i
  obtain ⟨b, vs, eb, h1, h2, _⟩ := (r.monoS e).ref_lst
  cases eb
  refine ⟨fun hi => ⟨vs, .of h1, by rw [← h2.length]; exact hi⟩, fun d hd => ?_⟩
  obtain ⟨v, hv, rv⟩ := h2.get hd
  refine ⟨⟨vs, v, .of h1, hv⟩, fun x H2 ⟨e1, e2⟩ => ?_⟩
  subst e1
  have : vs[i]? = some x := e2 vs (.of h1)
  rw [hv] at this
  cases this
  exact ⟨g1, .inl ⟨rfl, rfl⟩, rv⟩
theorem yl_tup {a : Addr} {ds : List D} (r : Rep K nm g H (.tup ds) (.ref a)) : Yl K nm g H ds (Itt K a) := by
  intro g1 H1 e ok i
  obtain ⟨b, vs, eb, h1, h2⟩ := view_tup (cs := []) (.inl (r.monoS e)) rfl
  cases eb
  refine ⟨fun hi => ⟨vs, h1, by rw [← h2.length]; exact hi⟩, fun d hd => ?_⟩
  obtain ⟨v, hv, rv⟩ := h2.get hd
  refine ⟨⟨vs, v, h1, hv⟩, fun x H2 ⟨e1, e2⟩ => ?_⟩
  subst e1
  have : vs[i]? = some x := e2 vs h1
  rw [hv] at this
  cases this
  exact ⟨g1, .inl ⟨rfl, rfl⟩, rv⟩
theorem enumD_get : ∀ {ds : List D} {k i : Nat} {d : D}, (enumD k ds)[i]? = some d → ∃ x, ds[i]? = some x ∧ d = .tup [.int ((k + i : Nat) : Int), x]
  | [], _, _, _, h => by simp [enumD] at h
  | x :: ds, k, 0, d, h => by
    simp [enumD] at h
    exact ⟨x, by simp, by rw [← h]; simp⟩
  | x :: ds, k, i + 1, d, h => by
    simp only [enumD, List.getElem?_cons_succ] at h
    obtain ⟨y, h1, h2⟩ := enumD_get h
    exact ⟨y, by simpa using h1, by rw [h2]; congr 3; omega⟩
theorem enumD_len : ∀ {ds : List D} {k : Nat}, (enumD k ds).length = ds.length
  | [], _ => rfl
  | _ :: ds, k => by simp [enumD, enumD_len]
theorem pair_new {p : Addr} {i : Nat} {x : V} {d : D} (r : Rep K nm g H d x) (ok : GOk g H) (hp : H p = none) : Rep K nm (g.add p) (upd H p (.tup [.int (i : Nat), x])) (.tup [.int (i : Nat), d]) (.ref p) :=
  .tup (.inr rfl) upd_same (.cons (.int _) (.cons (r.mono (ext_new hp) ok) .nil))
theorem yl_enumL {a : Addr} {ds : List D} (r : Rep K nm g H (.lst ds) (.ref a)) : Yl K nm g H (enumD 0 ds) (Ite K a) := by
  intro g1 H1 e ok i
  obtain ⟨b, vs, eb, h1, h2, _⟩ := (r.monoS e).ref_lst
  cases eb
  refine ⟨fun hi => ⟨vs, .of h1, by rw [← h2.length, ← enumD_len (k := 0)]; exact hi⟩, fun d hd => ?_⟩
  obtain ⟨y, hy, rfl⟩ := enumD_get hd
  obtain ⟨v, hv, rv⟩ := h2.get hy
  refine ⟨⟨vs, v, .of h1, hv⟩, fun x H2 ⟨T, w, e1, e2, e3, e4⟩ => ?_⟩
  subst e1 e3
  have : vs[i]? = some w := e4 vs (.of h1)
  rw [hv] at this
  cases this
  refine ⟨g1.add T, .inr ⟨T, _, e2, rfl, rfl⟩, ?_⟩
  have := pair_new (i := i) rv ok e2
  simpa using this
theorem yl_enumT {a : Addr} {ds : List D} (r : Rep K nm g H (.tup ds) (.ref a)) : Yl K nm g H (enumD 0 ds) (IteT K a) := by
  intro g1 H1 e ok i
  obtain ⟨b, vs, eb, h1, h2⟩ := view_tup (cs := []) (.inl (r.monoS e)) rfl
  cases eb
  refine ⟨fun hi => ⟨vs, h1, by rw [← h2.length, ← enumD_len (k := 0)]; exact hi⟩, fun d hd => ?_⟩
  obtain ⟨y, hy, rfl⟩ := enumD_get hd
  obtain ⟨v, hv, rv⟩ := h2.get hy
  refine ⟨⟨vs, v, h1, hv⟩, fun x H2 ⟨T, w, e1, e2, e3, e4⟩ => ?_⟩
  subst e1 e3
  have : vs[i]? = some w := e4 vs h1
  rw [hv] at this
  cases this
  refine ⟨g1.add T, .inr ⟨T, _, e2, rfl, rfl⟩, ?_⟩
  have := pair_new (i := i) rv ok e2
  simpa using this
theorem yl_rng {lo : Int} {n : Nat} : Yl K nm g H ((List.range n).map fun (i : Nat) => .int (lo + (i : Int))) (Itr lo n) := by
  intro g1 H1 e ok i
  refine ⟨fun hi => (show n ≤ i by simpa using hi), fun d hd => ?_⟩
  rw [List.getElem?_map] at hd
  cases q : (List.range n)[i]? with
  | none => rw [q] at hd; cases hd
  | some j =>
    rw [q] at hd
    cases hd
    have hj : j = i ∧ i < n := by
      obtain ⟨h1, h2⟩ := List.getElem?_eq_some_iff.mp q
      rw [List.getElem_range] at h2
      exact ⟨h2.symm, by simpa using h1⟩
    obtain ⟨rfl, hi⟩ := hj
    refine ⟨hi, fun x H2 ⟨e1, e2⟩ => ?_⟩
    subst e1 e2
    exact ⟨g1, .inl ⟨rfl, rfl⟩, .int _⟩
end
theorem _root_.L2.PI.imp {X : Cx} {tg e : Expr} {t t' : TI} (h : PI X tg e t) (k : ∀ σ H R, t' σ H R → t σ H R) : PI X tg e t' := ⟨fun pins s σ H R I q => h.run pins s σ H R I (k σ H R q)⟩
abbrev tI (K : PySem.W.Frag) (nm : Nm) (W : XK) (f : Env → Cells → Res (List D)) : TI := tG K nm W (Yl K nm) f
section
variable {T : Tab} {O : Orc} {nm : Nm} {X : Cx} {W : XK} {a b c e tg : Expr} {es : List Expr} {fa fb fc : Env → Cells → Res D} {pos : Pos} {na nb nc : Den}
/-- a list or a tuple, walked -/
theorem pi_seq {l : Expr} {tl : TE} (hl : PE X l tl) : PI X tg l (fun σ H R => tl σ H fun x H1 => ∃ a, x = .ref a ∧ ((∃ xs, SqL X.K H1 a xs) ∧ R (Itl X.K a) H1 ∨ (∃ xs, SqT X.K H1 a xs) ∧ R (Itt X.K a) H1)) := by
  refine ⟨fun pins s σ H R I h => ?_⟩
  refine thn (hl.run pins s σ H _ I h) fun v s1 ⟨x, H1, I1, r1, q1⟩ => ?_
  obtain ⟨a, e, q1⟩ := q1
  subst e
  cases r1
  rcases q1 with ⟨⟨xs, hq⟩, q⟩ | ⟨⟨xs, hq⟩, q⟩
  · obtain ⟨its, rv, p, hz⟩ := I1.list hq
    refine wpAny_pyIter_list p.isList ?_
    refine ⟨s1.heap.objs.size, [s1.heap.objs.size], _, _, H1, rfl, I1.kept (t' := s1.toks) fun b o e => Heap.get?_push_of_some _ e, turn_list a _, ⟨_, Heap.get?_push_size _ rfl, rfl, rfl⟩, fun b hb => ?_, q⟩
    have e : b = s1.heap.objs.size := by simpa using hb
    subst e
    exact I1.fpOk (Nat.le_refl _) (I1.hok.fresh (Nat.le_refl _))
  · obtain ⟨its, rv, p, hz⟩ := I1.tuple hq
    refine wpAny_pyIter_tuple (show s1.heap.IsTuple a its.toArray from p) ?_
    refine ⟨s1.heap.objs.size, [s1.heap.objs.size], _, _, H1, rfl, I1.kept (t' := s1.toks) fun b o e => Heap.get?_push_of_some _ e, turn_tuple a _, ⟨_, Heap.get?_push_size _ rfl, rfl, rfl⟩, fun b hb => ?_, q⟩
    have e : b = s1.heap.objs.size := by simpa using hb
    subst e
    exact I1.fpOk (Nat.le_refl _) (I1.hok.fresh (Nat.le_refl _))
theorem items_seq {K : PySem.W.Frag} {g : Gh} {H : Hp} {d : D} {ds : List D} {v : V} (r : Rep K nm g H d v) (e : items d = some ds) : ∃ a, v = .ref a ∧ ((d = .lst ds ∧ ∃ xs, SqL K H a xs) ∨ (d = .tup ds ∧ ∃ xs, SqT K H a xs)) := by
  cases d with
  | lst es =>
    cases e
    obtain ⟨a, vs, rfl, h1, _, _⟩ := r.ref_lst
    exact ⟨a, rfl, .inl ⟨rfl, vs, .of h1⟩⟩
  | tup es =>
    cases e
    obtain ⟨a, vs, rfl, h1, h2⟩ := view_tup (cs := []) (.inl r) rfl
    exact ⟨a, rfl, .inr ⟨rfl, vs, h1⟩⟩
  | _ => cases e
theorem si_seq (h : PE X e (tV X.K nm W fa)) : PI X tg e (tI X.K nm W fun ρ cs => (fa ρ cs).bind fun x cs => ofRes cs (items x)) := (pi_seq h).imp fun σ H R q => by
  obtain ⟨g, ρ, cs, en, c, p⟩ := q
  refine ⟨g, ρ, cs, en, c, (Post.bind (R := Rep X.K nm) p).imp ?_⟩
  rintro x H1 ⟨d, g1, cs1, e1, c1, r1, p1⟩
  cases q : items d with
  | none => rw [q] at p1; exact p1.elim
  | some ds =>
    rw [q] at p1
    obtain ⟨a, rfl, ⟨rfl, h1⟩ | ⟨rfl, h1⟩⟩ := items_seq r1 q
    · exact ⟨a, rfl, .inl ⟨h1, Post.ok p1 c1 (yl_list r1)⟩⟩
    · exact ⟨a, rfl, .inr ⟨h1, Post.ok p1 c1 (yl_tup r1)⟩⟩
theorem si_enum {p tpos : Pos} {elts : List Expr} {kk : Nat} (hg : Gl X "enumerate") (hm : X.mg "enumerate" = none) (hn : isStar e = false) (h : PE X e (tV X.K nm W fa)) :
    PI X (.Tuple elts kk tpos) (.Call (.Name "enumerate" p) [e] [] pos) (tI X.K nm W fun ρ cs => (fa ρ cs).bind fun x cs => ofRes cs ((items x).map (enumD 0))) :=
  (pi_enumA (ta := tCons (tV X.K nm W fa) tNil) hg hm (pa_cons h pa_nil (star_not (isStar_not hn))) (star_not (isStar_not hn))).imp fun σ H R q => by
    obtain ⟨g, ρ, cs, en, c, p⟩ := q
    refine (fun (z : tV X.K nm W fa σ H fun x H1 => ∃ a xs, [x] = [V.ref a] ∧ ((SqL X.K H1 a xs ∧ R (Ite X.K a) H1) ∨ (SqT X.K H1 a xs ∧ R (IteT X.K a) H1))) => z) ?_
    refine ⟨g, ρ, cs, en, c, (Post.bind (R := Rep X.K nm) p).imp ?_⟩
    rintro x H1 ⟨d, g1, cs1, e1, c1, r1, p1⟩
    cases q : items d with
    | none => rw [q] at p1; exact p1.elim
    | some ds =>
      rw [q] at p1
      obtain ⟨a, rfl, ⟨rfl, xs, h1⟩ | ⟨rfl, xs, h1⟩⟩ := items_seq r1 q
      · exact ⟨a, xs, rfl, .inl ⟨h1, Post.ok p1 c1 (yl_enumL r1)⟩⟩
      · exact ⟨a, xs, rfl, .inr ⟨h1, Post.ok p1 c1 (yl_enumT r1)⟩⟩
theorem si_rng {p : Pos} (hg : Gl X "range") (hm : X.mg "range" = none) (hn : isStar e = false) (h : PE X e (tV X.K nm W fa)) :
    PI X tg (.Call (.Name "range" p) [e] [] pos) (tI X.K nm W fun ρ cs => (fa ρ cs).bind rngD) :=
  (pi_range1 (ta := tCons (tV X.K nm W fa) tNil) hg hm (pa_cons h pa_nil (star_not (isStar_not hn))) (star_not (isStar_not hn))).imp fun σ H R q => by
    obtain ⟨g, ρ, cs, en, c, p⟩ := q
    refine (fun (z : tV X.K nm W fa σ H fun x H1 => ∃ j : Int, [x] = [V.int j] ∧ -(2 ^ 62) ≤ j ∧ j < 2 ^ 62 ∧ R (Itr 0 j.toNat) H1) => z) ?_
    refine ⟨g, ρ, cs, en, c, (Post.bind (R := Rep X.K nm) p).imp ?_⟩
    rintro x H1 ⟨d, g1, cs1, e1, c1, r1, p1⟩
    cases d with
    | int n =>
      cases r1
      have p1 : Post X.K nm W (Yl X.K nm) g1 H1 (if ok62 n = true then .ok ((List.range n.toNat).map fun (i : Nat) => .int (i : Int)) cs1 else .bad) R := p1
      split at p1
      · rename_i hz
        rw [ok62_iff] at hz
        refine ⟨n, rfl, by omega, by omega, Post.ok p1 c1 ?_⟩
        have := yl_rng (K := X.K) (nm := nm) (g := g1) (H := H1) (lo := 0) (n := n.toNat)
        simpa using this
      · exact p1.elim
    | _ => exact p1.elim
theorem si_rng2 {p : Pos} (hg : Gl X "range") (hm : X.mg "range" = none) (hn : isStar a = false) (hn2 : isStar b = false) (ha : PE X a (tV X.K nm W fa)) (hb : PE X b (tV X.K nm W fb)) :
    PI X tg (.Call (.Name "range" p) [a, b] [] pos) (tI X.K nm W fun ρ cs => (fa ρ cs).bind fun x cs => (fb ρ cs).bind fun y cs => rng2D x y cs) :=
  (pi_range2 (ta := tCons (tV X.K nm W fa) (tCons (tV X.K nm W fb) tNil)) hg hm (pa_cons ha (pa_cons hb pa_nil (star_not (isStar_not hn2))) (star_not (isStar_not hn))) (by rw [star_not (isStar_not hn), star_not (isStar_not hn2)]; rfl) (by rw [star_not (isStar_not hn2)]; rfl)).imp fun σ H R q => by
    obtain ⟨g, ρ, cs, en, c, p⟩ := q
    refine (fun (z : tV X.K nm W fa σ H fun x H1 => tV X.K nm W fb σ H1 fun y H2 => ∃ i j : Int, [x, y] = [V.int i, V.int j] ∧ (-(2 ^ 62) ≤ i ∧ i < 2 ^ 62 ∧ -(2 ^ 62) ≤ j ∧ j < 2 ^ 62) ∧ R (Itr i (j - i).toNat) H2) => z) ?_
    refine ⟨g, ρ, cs, en, c, (Post.bind (R := Rep X.K nm) p).imp ?_⟩
    rintro x H1 ⟨d, g1, cs1, e1, c1, r1, p1⟩
    refine ⟨g1, ρ, cs1, en.mono e1 c.ok, c1, (Post.bind (R := Rep X.K nm) p1).imp ?_⟩
    rintro y H2 ⟨d2, g2, cs2, e2, c2, r2, p2⟩
    have r1 := r1.mono e2 c1.ok
    cases d with
    | int m =>
      cases d2 with
      | int n =>
        cases r1
        cases r2
        have p2 : Post X.K nm W (Yl X.K nm) g2 H2 (if ok62 m = true ∧ ok62 n = true then .ok ((List.range (n - m).toNat).map fun (i : Nat) => .int (m + (i : Int))) cs2 else .bad) R := p2
        split at p2
        · rename_i hz
          rw [ok62_iff, ok62_iff] at hz
          exact ⟨m, n, rfl, ⟨by omega, by omega, by omega, by omega⟩, Post.ok p2 c2 yl_rng⟩
        · exact p2.elim
      | _ => exact p2.elim
    | _ => exact p2.elim
end
end Dv
end
section
set_option Elab.async false
set_option linter.all false
set_option maxRecDepth 100000
set_option maxHeartbeats 4000000
namespace Dv
open PySem PySem.Spec PyProof.Rows L2
def E0 : XK := fun _ _ _ => False
theorem wipe_wipe {σ : L2.St} {vs : List Nat} : L2.wipe (L2.wipe σ vs) vs = L2.wipe σ vs := by
  have h : ∀ (ws : List Nat) (σ' : L2.St), (∀ i ∈ ws, i ∈ vs) → L2.wipe (L2.wipe σ' ws) vs = L2.wipe σ' vs := by
    intro ws
    induction ws with
    | nil => intro σ' _; rfl
    | cons w ws ih =>
      intro σ' hw
      have e1 : L2.wipe σ' (w :: ws) = (L2.wipe σ' ws).set w none := rfl
      rw [e1, wipe_set (hw w (by simp)), ih σ' fun i hi => hw i (List.mem_cons_of_mem _ hi)]
  exact h vs σ fun i hi => hi
section
variable {T : Tab} {O : Orc} {nm : Nm} {X : Cx} {W : XK} {a b c e tg : Expr} {es : List Expr} {fa fb : Env → Cells → Res D} {pos : Pos} {na nb nc : Den}
theorem lc_of {K : PySem.W.Frag} {is : List Nat} {one : Bool} {fi : Env → Cells → Res (List D)} {fc : Env → Cells → Res Bool} {fe : Env → Cells → Res D} {σ : L2.St} {H : Hp} {Q : VK}
    (q : tV K nm W (fun ρ cs => (fi ρ cs).bind fun xs cs => (compL (turnD is one fc fe ρ) [] xs cs).bind fun ds cs => .ok (.lst ds) cs) σ H Q) :
    tLc (tI K nm W fi) (tgOf K is one) (tT K nm E0 fc) (tV K nm E0 fe) is σ H Q := by
  obtain ⟨g, ρ, cs, en, c, p⟩ := q
  refine ⟨g, ρ, cs, en, c, (Post.bind (R := Yl K nm) p).imp ?_⟩
  rintro J H1 ⟨xs, g1, cs1, e1, c1, yl, p1⟩ D hD
  have en1 := en.mono e1 c.ok
  have h0 : Own K nm g1 (upd H1 D (.lst [])) (.lst []) (.ref D) := ⟨D, rfl, fun z => c1.ok.fzt D z hD, fun z => c1.ok.iot D z hD, [], upd_same, .nil⟩
  refine ⟨fun i m H => m = xs.length - i ∧ i ≤ xs.length ∧ ∃ g' cs' acc, Ext g1 H1 g' H ∧ CsOk K nm g' H cs' ∧ Own K nm g' H (.lst acc) (.ref D) ∧
    Post K nm W (Rep K nm) g1 H1 ((compL (turnD is one fc fe ρ) acc (xs.drop i) cs').bind fun ds cs => .ok (.lst ds) cs) Q, ⟨_, rfl, Nat.zero_le _, g1, cs1, [], ext_laid hD, c1.laid hD, h0, p1⟩, ?_⟩
  rintro i m H' ⟨rfl, hi, g', cs', acc, e', c', ow, p'⟩
  have Y := yl g' H' (e'.s c1.ok) c'.ok i
  by_cases hlt : i < xs.length
  · have hx : xs[i]? = some xs[i] := by simp [hlt]
    have hdr : xs.drop i = xs[i] :: xs.drop (i + 1) := (List.drop_eq_getElem_cons hlt)
    rw [hdr] at p'
    refine .inr ⟨(Y.2 _ hx).1, fun H => i + 1 ≤ xs.length ∧ ∃ g' cs' acc, Ext g1 H1 g' H ∧ CsOk K nm g' H cs' ∧ Own K nm g' H (.lst acc) (.ref D) ∧
      Post K nm W (Rep K nm) g1 H1 ((compL (turnD is one fc fe ρ) acc (xs.drop (i + 1)) cs').bind fun ds cs => .ok (.lst ds) cs) Q, fun H'' z => ⟨_, by omega, rfl, z⟩, fun x H2 hy => ?_⟩
    obtain ⟨g2, gr, rx⟩ := (Y.2 _ hx).2 x H2 hy
    have c2 := gr.csOk c'
    have e2 := e'.trans gr.ext
    have ow2 := ow.mono gr.ext c'.ok
    have en2 : EnvOk K nm g2 H2 (L2.wipe σ is) (wipeE ρ is) := (en1.mono e2 c1.ok).wipe is
    unfold compL turnD at p'
    cases hs : setTg is one xs[i] (wipeE ρ is) with
    | none => simp only [hs] at p'; exact p'.elim
    | some ρ' =>
      refine tgOf_ok en2 rx hs fun σ2 en3 hw _ => ⟨(hw is fun _ h => h).trans wipe_wipe, ?_⟩
      simp only [hs] at p'
      cases hf : fc ρ' cs' with
      | bad => rw [hf] at p'; exact p'.elim
      | exc _ _ => rw [hf] at p'; exact p'.elim
      | ok t cs3 =>
        rw [hf] at p'
        refine ⟨g2, ρ', cs', en3, c2, ?_⟩
        rw [hf]
        intro tt g3 H3 e3 c3 ht
        subst ht
        have en4 := en3.mono e3 c2.ok
        have e4 := e2.trans e3
        have ow3 := ow2.mono e3 c2.ok
        cases t with
        | false =>
          show _ ∧ _
          exact ⟨hlt, g3, cs3, acc, e4, c3, ow3, p'⟩
        | true =>
          refine (fun (z : tV K nm E0 fe σ2 H3 _) => z) ?_
          refine ⟨g3, ρ', cs3, en4, c3, ?_⟩
          cases hd : fe ρ' cs3 with
          | bad => simp only [bind_ok, hd, bind_bad, if_true] at p'; exact p'.elim
          | exc _ _ => simp only [bind_ok, hd, bind_exc, if_true] at p'; exact p'.elim
          | ok d cs4 =>
            simp only [bind_ok, hd, if_true] at p'
            intro v g5 H5 e5 c5 r5
            split at p'
            · rename_i hz
              have ow5 := ow3.mono e5 c3.ok
              have ow5' := ow5
              obtain ⟨D', eD, f1, f2, vs, hv, rv⟩ := ow5
              cases eD
              have ex := own_upd (o := .lst (vs ++ [v])) ow5'
              refine ⟨vs, hv, by rw [← rv.length]; exact hz, hlt, g5, cs4, acc ++ [d], own_ext (e4.trans e5) hD, own_cs ow5' c5, ⟨D, rfl, f1, f2, vs ++ [v], upd_same, (rv.append (.cons r5 .nil)).monoS ex⟩, p'⟩
            · exact p'.elim
  · have e : i = xs.length := by omega
    subst e
    refine .inl ⟨Y.1 (Nat.le_refl _), ?_⟩
    rw [List.drop_length] at p'
    have p' : Post K nm W (Rep K nm) g1 H1 (.ok (.lst acc) cs') Q := p'
    obtain ⟨r, c3, _⟩ := own_frz ow c'
    exact Post.okE p' (frz_ext e' hD) c3 r
/-- a comprehension -/
theorem d_comp {elt iter : Expr} {ifs : List Expr} {scope : Scope} {own : List (Str × Nat)} {is : List Nat} {one : Bool} {fi : Env → Cells → Res (List D)} {fc : Env → Cells → Res Bool} {fe : Env → Cells → Res D}
    (hc : X.calm = true) (hN : X.N.Nodup) (hi : PI X tg iter (tI X.K nm W fi)) (ok : BlkOk X.N X.env.scope scope own) (hown : own.map (·.2) = is)
    (hg : ∀ (s : Shared) (H : Hp) (C : Addr) (cl : List (Str × Addr)) (fp : List Addr), PG (X.blk s H scope (compEnvC scope cl C X.env) fp) tg (tgOf X.K is one))
    (ht : ∀ (s : Shared) (H : Hp) (C : Addr) (cl : List (Str × Addr)) (fp : List Addr), PTs (X.blk s H scope (compEnvC scope cl C X.env) fp) ifs (tT X.K nm E0 fc))
    (he : ∀ (s : Shared) (H : Hp) (C : Addr) (cl : List (Str × Addr)) (fp : List Addr), PE (X.blk s H scope (compEnvC scope cl C X.env) fp) elt (tV X.K nm E0 fe)) (hs : ∀ x, foldedSetIterable iter X.env x = pure x) :
    PE X (.ListComp elt [⟨tg, iter, ifs, 0⟩] scope pos) (tV X.K nm W fun ρ cs => (fi ρ cs).bind fun xs cs => (compL (turnD is one fc fe ρ) [] xs cs).bind fun ds cs => .ok (.lst ds) cs) := by
  subst hown
  exact (pe_lc hc hN hi ok hg ht he hs).imp fun σ H Q q => lc_of q
/-- its ifs: none, or one -/
theorem d_if0 : PTs X [] (tT X.K nm W fun _ cs => .ok true cs) := ⟨fun pins s σ H Q I h => by
  obtain ⟨g, ρ, cs, en, c, p⟩ := h
  exact pts_nil.run pins s σ H Q I (Post.ok p c rfl)⟩
theorem d_if1 {f : Env → Cells → Res Bool} (h : PT X c (tT X.K nm W f)) : PTs X [c] (tT X.K nm W f) := pts_one h
end
end Dv
end
section
set_option Elab.async false
set_option linter.all false
set_option maxRecDepth 100000
set_option maxHeartbeats 4000000
namespace Dv
open PySem PySem.Spec PyProof.Rows L2
/-- where a body stands: g0, H0 as it began -/
structure FOk (K : PySem.W.Frag) (nm : Nm) (x0 : Addr) (g0 : Gh) (H0 : Hp) (g : Gh) (H : Hp) (σ : L2.St) (ρ : Env) (cs : Cells) : Prop where
  en : EnvOk K nm g H σ ρ
  cs : CsOk K nm g H cs
  ex : Ext g0 H0 g H
  own : ∀ (i : Nat) (d : D) (a : Addr), ρ[i]? = some (.own d) → σ[i]? = some (some (.ref a)) → H0 a = none
  slf : ∀ (i : Nat) (c : Nat) (fs : List (Nat × D)), ρ[i]? = some (.own (.ins c fs)) → σ[i]? = some (some (.ref x0))
section
variable {K : PySem.W.Frag} {nm : Nm} {W : XK} {x0 : Addr} {g0 g g' g2 : Gh} {H0 H H' H2 : Hp} {cs cs' : Cells} {σ : L2.St} {ρ : Env} {α β : Type}
theorem FOk.mono (f : FOk K nm x0 g0 H0 g H σ ρ cs) (e : Ext g H g' H') (c : CsOk K nm g' H' cs') : FOk K nm x0 g0 H0 g' H' σ ρ cs' := ⟨f.en.mono e f.cs.ok, c, f.ex.trans e, f.own, f.slf⟩
def PostS (K : PySem.W.Frag) (nm : Nm) (W : XK) (x0 : Addr) (g0 : Gh) (H0 : Hp) (g : Gh) (H : Hp) (r : Res Flw) (D : Ends) : Prop := match r with
  | .ok (.nx ρ) cs => ∀ σ' g' H', ExtS g H g' H' → FOk K nm x0 g0 H0 g' H' σ' ρ cs → D.nx σ' H'
  | .ok (.ret d) cs => ∀ v g' H', Ext g0 H0 g' H' → CsOk K nm g' H' cs → Rep K nm g' H' d v → D.rt v H'
  | .ok (.brk ρ) cs => ∀ σ' g' H', ExtS g H g' H' → FOk K nm x0 g0 H0 g' H' σ' ρ cs → D.bk σ' H'
  | .ok (.cnt ρ) cs => ∀ σ' g' H', ExtS g H g' H' → FOk K nm x0 g0 H0 g' H' σ' ρ cs → D.ct σ' H'
  | .exc e cs => ∀ cls dx g' H', Ext g0 H0 g' H' → CsOk K nm g' H' cs → RepE K nm g' H' e cls dx → W cls dx H'
  | .bad => False
theorem PostS.mono {r : Res Flw} {D : Ends} (p : PostS K nm W x0 g0 H0 g H r D) (e : ExtS g H g' H') : PostS K nm W x0 g0 H0 g' H' r D := by
  match r, p with
  | .ok (.nx ρ) cs, p => exact fun σ' g2 H2 e2 f => p σ' g2 H2 (e.trans e2) f
  | .ok (.ret d) cs, p => exact p
  | .ok (.brk ρ) cs, p => exact fun σ' g2 H2 e2 f => p σ' g2 H2 (e.trans e2) f
  | .ok (.cnt ρ) cs, p => exact fun σ' g2 H2 e2 f => p σ' g2 H2 (e.trans e2) f
  | .exc _ _, p => exact p
  | .bad, p => exact p
theorem PostS.bind {r : Res α} {k : α → Cells → Res Flw} {R : Gh → Hp → α → β → Prop} {D : Ends} (f : FOk K nm x0 g0 H0 g H σ ρ cs) (p : PostS K nm W x0 g0 H0 g H (r.bind k) D) :
    Post K nm W R g H r fun b H1 => ∃ a g1 cs1, Ext g H g1 H1 ∧ ExtS g H g1 H1 ∧ FOk K nm x0 g0 H0 g1 H1 σ ρ cs1 ∧ R g1 H1 a b ∧ PostS K nm W x0 g0 H0 g1 H1 (k a cs1) D := by
  match r, p with
  | .ok a cs1, p => exact fun b g1 H1 e c q => ⟨a, g1, cs1, e, e.s f.cs.ok, f.mono e c, q, PostS.mono p (e.s f.cs.ok)⟩
  | .exc d cs1, p => exact fun cls dx g1 H1 e c q => p cls dx g1 H1 (f.ex.trans e) c q
  | .bad, p => exact p
theorem PostS.nx {D : Ends} (p : PostS K nm W x0 g0 H0 g H (.ok (.nx ρ) cs) D) (f : FOk K nm x0 g0 H0 g H σ ρ cs) : D.nx σ H := p σ g H .refl f
end
def tS (K : PySem.W.Frag) (nm : Nm) (W : XK) (f : Env → Cells → Res Flw) : TS := fun D σ H => ∃ x0 g0 H0 g ρ cs, FOk K nm x0 g0 H0 g H σ ρ cs ∧ PostS K nm W x0 g0 H0 g H (f ρ cs) D
section
variable {K : PySem.W.Frag} {nm : Nm} {W : XK} {x0 : Addr} {g0 g g' g2 : Gh} {H0 H H' H2 : Hp} {cs cs' : Cells} {σ : L2.St} {ρ : Env} {α β : Type}
/-! ### slots rewritten -/
theorem FOk.setV {i : Nat} {d : D} {v : V} (f : FOk K nm x0 g0 H0 g H σ ρ cs) (r : Rep K nm g H d v) : FOk K nm x0 g0 H0 g H (σ.set i (some v)) (ρ.set i (.val d)) cs := by
  refine ⟨f.en.set r, f.cs, f.ex, fun j e a h1 h2 => ?_, fun j c fs h1 => by
    obtain ⟨h3, h4⟩ := set_own (σ := σ) (x := some v) j _ h1
    rw [h4]
    exact f.slf j c fs h3⟩
  by_cases q : i = j
  · subst q
    have hi : i < ρ.length := by
      have := (List.getElem?_eq_some_iff.mp h1).1
      rwa [List.length_set] at this
    rw [List.getElem?_set_self hi] at h1
    cases h1
  · rw [List.getElem?_set_ne q] at h1 h2
    exact f.own j e a h1 h2
/-- a slot gets a new thing of its own -/
theorem FOk.newOwn {i : Nat} {ds : List D} {vs : List V} {p : Addr} (f : FOk K nm x0 g0 H0 g H σ ρ cs) (hp : H p = none) (r : Reps K nm g H ds vs) : ExtS g H g (upd H p (.lst vs)) ∧ FOk K nm x0 g0 H0 g (upd H p (.lst vs)) (σ.set i (some (.ref p))) (ρ.set i (.own (.lst ds))) cs := by
  have e : Ext g H g (upd H p (.lst vs)) := ext_laid hp
  have c := f.cs.laid (o := .lst vs) hp
  have en := f.en.mono e f.cs.ok
  have ow : Own K nm g (upd H p (.lst vs)) (.lst ds) (.ref p) := ⟨p, rfl, fun z => f.cs.ok.fzt p z hp, fun z => f.cs.ok.iot p z hp, vs, upd_same, r.mono e f.cs.ok⟩
  have hset : ∀ {j : Nat} {s : Slot}, (ρ.set i (.own (.lst ds)))[j]? = some s → (i = j ∧ s = .own (.lst ds) ∧ i < ρ.length) ∨ (i ≠ j ∧ ρ[j]? = some s) := fun {j s} h => by
    by_cases q : i = j
    · subst q
      have hi : i < ρ.length := by
        have := (List.getElem?_eq_some_iff.mp h).1
        rwa [List.length_set] at this
      rw [List.getElem?_set_self hi] at h
      exact .inl ⟨rfl, (Option.some.inj h).symm, hi⟩
    · rw [List.getElem?_set_ne q] at h
      exact .inr ⟨q, h⟩
  have old : ∀ {j : Nat} {d : D} {a : Addr}, ρ[j]? = some (.own d) → σ[j]? = some (some (.ref a)) → a ≠ p := fun {j d a} h1 h2 z => by
    obtain ⟨v, e1, o1⟩ := f.en.sl j _ h1
    rw [h2] at e1
    cases e1
    obtain ⟨o, ho⟩ := o1.there
    rw [z, hp] at ho
    cases ho
  refine ⟨e.s f.cs.ok, ⟨by rw [List.length_set, List.length_set, en.len], fun j s hs => ?_, fun j k d1 d2 v h1 h2 h3 h4 => ?_⟩, c, f.ex.trans e, fun j d a h1 h2 => ?_, fun j c fs h1 => ?_⟩
  · rcases hset hs with ⟨rfl, rfl, hi⟩ | ⟨q, h⟩
    · rw [List.getElem?_set_self (by rw [en.len]; exact hi)]
      exact ⟨_, rfl, ow⟩
    · rw [List.getElem?_set_ne q]
      exact en.sl j s h
  · rcases hset h1 with ⟨rfl, e1, hi⟩ | ⟨q1, h1'⟩
    · rcases hset h2 with ⟨rfl, e2, _⟩ | ⟨q2, h2'⟩
      · rfl
      · rw [List.getElem?_set_self (by rw [en.len]; exact hi)] at h3
        cases h3
        rw [List.getElem?_set_ne q2] at h4
        exact absurd rfl (old h2' h4)
    · rw [List.getElem?_set_ne q1] at h3
      rcases hset h2 with ⟨rfl, e2, hi⟩ | ⟨q2, h2'⟩
      · rw [List.getElem?_set_self (by rw [en.len]; exact hi)] at h4
        cases h4
        exact absurd rfl (old h1' h3)
      · rw [List.getElem?_set_ne q2] at h4
        exact en.ap j k d1 d2 v h1' h2' h3 h4
  · rcases hset h1 with ⟨rfl, e1, hi⟩ | ⟨q, h⟩
    · rw [List.getElem?_set_self (by rw [en.len]; exact hi)] at h2
      cases h2
      exact f.ex.there p hp
    · rw [List.getElem?_set_ne q] at h2
      exact f.own j d a h h2
  · rcases hset h1 with ⟨_, e1, _⟩ | ⟨q, h⟩
    · cases e1
    · rw [List.getElem?_set_ne q]
      exact f.slf j c fs h
/-- a slot's own thing is changed -/
theorem FOk.updOwn {i : Nat} {d d' : D} {a : Addr} {o : HO} (f : FOk K nm x0 g0 H0 g H σ ρ cs) (h1 : ρ[i]? = some (.own d)) (h2 : σ[i]? = some (some (.ref a)))
    (hd : ∀ c fs, d' = .ins c fs → ∃ c' fs', d = .ins c' fs') (hn : ExtS g H g (upd H a o) → Own K nm g (upd H a o) d' (.ref a)) : ExtS g H g (upd H a o) ∧ FOk K nm x0 g0 H0 g (upd H a o) σ (ρ.set i (.own d')) cs := by
  obtain ⟨v, e1, ow⟩ := f.en.sl i _ h1
  rw [h2] at e1
  cases e1
  have ex := own_upd (o := o) ow
  have hi : i < ρ.length := (List.getElem?_eq_some_iff.mp h1).1
  have hset : ∀ {j : Nat} {s : Slot}, (ρ.set i (.own d'))[j]? = some s → (i = j ∧ s = .own d') ∨ (i ≠ j ∧ ρ[j]? = some s) := fun {j s} h => by
    by_cases q : i = j
    · subst q
      rw [List.getElem?_set_self hi] at h
      exact .inl ⟨rfl, (Option.some.inj h).symm⟩
    · rw [List.getElem?_set_ne q] at h
      exact .inr ⟨q, h⟩
  refine ⟨ex, ⟨by rw [List.length_set, f.en.len], fun j s hs => ?_, fun j k e1 e2 v q1 q2 q3 q4 => ?_⟩, own_cs ow f.cs, own_ext f.ex (f.own i d a h1 h2), fun j e b q1 q2 => ?_, fun j c fs q1 => ?_⟩
  · rcases hset hs with ⟨rfl, rfl⟩ | ⟨q, h⟩
    · exact ⟨_, h2, hn ex⟩
    · have z := f.en.sl j s h
      cases s with
      | emp => exact True.intro
      | val e => obtain ⟨w, x1, x2⟩ := z; exact ⟨w, x1, x2.monoS ex⟩
      | own e =>
        obtain ⟨w, x1, x2⟩ := z
        refine ⟨w, x1, ?_⟩
        obtain ⟨b, rfl, y1, y2, m⟩ := x2
        have hb : b ≠ a := fun z => q (f.en.ap i j d e (.ref a) h1 h h2 (by rw [x1, z]))
        refine ⟨b, rfl, y1, y2, ?_⟩
        cases e with
        | lst ds => obtain ⟨vs, z1, z2⟩ := m; exact ⟨vs, (upd_ne hb).trans z1, z2.monoS ex⟩
        | ins c fs => obtain ⟨dx, vs, z1, z2⟩ := m; exact ⟨dx, vs, (upd_ne hb).trans z1, z2.monoS ex⟩
        | _ => exact m.elim
  · have r1 : ∃ e, ρ[j]? = some (.own e) := by
      rcases hset q1 with ⟨rfl, _⟩ | ⟨_, h⟩
      · exact ⟨d, h1⟩
      · exact ⟨e1, h⟩
    have r2 : ∃ e, ρ[k]? = some (.own e) := by
      rcases hset q2 with ⟨rfl, _⟩ | ⟨_, h⟩
      · exact ⟨d, h1⟩
      · exact ⟨e2, h⟩
    obtain ⟨_, r1⟩ := r1
    obtain ⟨_, r2⟩ := r2
    exact f.en.ap j k _ _ v r1 r2 q3 q4
  · rcases hset q1 with ⟨rfl, _⟩ | ⟨_, h⟩
    · exact f.own i d b h1 q2
    · exact f.own j e b h q2
  · rcases hset q1 with ⟨rfl, e1⟩ | ⟨_, h⟩
    · cases e1
      obtain ⟨c', fs', rfl⟩ := hd c fs rfl
      exact f.slf i c' fs' h1
    · exact f.slf j c fs h
/-- a cell is changed -/
theorem FOk.updCell {n : Nat} {c' : Cell} {a : Addr} {o : HO} (f : FOk K nm x0 g0 H0 g H σ ρ cs) (h2 : g.io[n]? = some a)
    (hn : ExtS g H g (upd H a o) → CellOk K nm g (upd H a o) a c') : ExtS g H g (upd H a o) ∧ FOk K nm x0 g0 H0 g (upd H a o) σ ρ (cs.set n c') := by
  have hm : a ∈ g.io := List.mem_of_getElem? h2
  have ex : ExtS g H g (upd H a o) := ⟨⟨[], by simp⟩, fun _ h => h, fun b o' hb q => by rw [upd_ne (show b ≠ a from fun e => f.cs.ok.dis a hm (e ▸ hb))]; exact q⟩
  have k : ∀ b, H b ≠ none → upd H a o b ≠ none := fun b q => by
    by_cases e : b = a
    · subst e; rw [upd_same]; simp
    · rw [upd_ne e]; exact q
  have ok : GOk g (upd H a o) := ⟨fun b q => k b (f.cs.ok.fzt b q), fun b q => k b (f.cs.ok.iot b q), f.cs.ok.dis, f.cs.ok.nd⟩
  refine ⟨ex, ⟨f.en.len, fun j s hs => ?_, f.en.ap⟩, ⟨ok, by rw [List.length_set]; exact f.cs.len, fun m x b hm' hb => ?_⟩, ?_, f.own, f.slf⟩
  · have z := f.en.sl j s hs
    cases s with
    | emp => exact True.intro
    | val e => obtain ⟨w, x1, x2⟩ := z; exact ⟨w, x1, x2.monoS ex⟩
    | own e =>
      obtain ⟨w, x1, x2⟩ := z
      refine ⟨w, x1, ?_⟩
      obtain ⟨b, rfl, y1, y2, m⟩ := x2
      have hb : b ≠ a := fun z => y2 (z ▸ hm)
      refine ⟨b, rfl, y1, y2, ?_⟩
      cases e with
      | lst ds => obtain ⟨vs, z1, z2⟩ := m; exact ⟨vs, (upd_ne hb).trans z1, z2.monoS ex⟩
      | ins c fs => obtain ⟨dx, vs, z1, z2⟩ := m; exact ⟨dx, vs, (upd_ne hb).trans z1, z2.monoS ex⟩
      | _ => exact m.elim
  · by_cases q : n = m
    · subst q
      rw [h2] at hb
      cases hb
      have hl : n < cs.length := by
        have := (List.getElem?_eq_some_iff.mp hm').1
        rwa [List.length_set] at this
      rw [List.getElem?_set_self hl] at hm'
      cases hm'
      exact hn ex
    · rw [List.getElem?_set_ne q] at hm'
      have hb' : b ≠ a := fun z => by
        subst z
        have h3 := (List.getElem?_eq_some_iff.mp h2)
        have h4 := (List.getElem?_eq_some_iff.mp hb)
        obtain ⟨l3, e3⟩ := h3
        obtain ⟨l4, e4⟩ := h4
        exact q ((List.getElem_inj f.cs.ok.nd).mp (e3.trans e4.symm))
      have z := f.cs.at_ m x b hm' hb
      cases x with
      | lst ds => obtain ⟨vs, z1, z2⟩ := z; exact ⟨vs, (upd_ne hb').trans z1, z2.monoS ex⟩
      | ins c fs => obtain ⟨dx, vs, z1, z2⟩ := z; exact ⟨dx, vs, (upd_ne hb').trans z1, z2.monoS ex⟩
  · obtain ⟨t, e1, e2⟩ := f.ex.io
    refine ⟨⟨t, e1, e2⟩, f.ex.fz, f.ex.fzn, fun b u q n => ?_, fun b q => ?_⟩
    · rw [upd_ne (show b ≠ a from fun z => ?_)]
      · exact f.ex.keep b u q n
      · subst z
        rw [e1] at hm
        rcases List.mem_append.mp hm with h | h
        · exact n h
        · rw [e2 _ h] at q
          cases q
    · by_cases z : b = a
      · subst z; rw [upd_same] at q; cases q
      · rw [upd_ne z] at q; exact f.ex.there b q
/-- a slot's own thing is frozen -/
theorem FOk.frz {i : Nat} {d : D} (f : FOk K nm x0 g0 H0 g H σ ρ cs) (h1 : ρ[i]? = some (.own d)) : ∃ g', ExtS g H g' H ∧ FOk K nm x0 g0 H0 g' H σ (ρ.set i (.val d)) cs := by
  obtain ⟨v, h2, ow⟩ := f.en.sl i _ h1
  obtain ⟨a, rfl, _⟩ := id ow
  obtain ⟨r, c, ex⟩ := own_frz ow f.cs
  have hi : i < ρ.length := (List.getElem?_eq_some_iff.mp h1).1
  have hset : ∀ {j : Nat} {s : Slot}, (ρ.set i (.val d))[j]? = some s → (i = j ∧ s = .val d) ∨ (i ≠ j ∧ ρ[j]? = some s) := fun {j s} h => by
    by_cases q : i = j
    · subst q
      rw [List.getElem?_set_self hi] at h
      exact .inl ⟨rfl, (Option.some.inj h).symm⟩
    · rw [List.getElem?_set_ne q] at h
      exact .inr ⟨q, h⟩
  refine ⟨g.add a, ex, ⟨by rw [List.length_set, f.en.len], fun j s hs => ?_, fun j k e1 e2 v q1 q2 q3 q4 => ?_⟩, c, frz_ext f.ex (f.own i d a h1 h2), fun j e b q1 q2 => ?_, fun j c fs q1 => ?_⟩
  · rcases hset hs with ⟨rfl, rfl⟩ | ⟨q, h⟩
    · exact ⟨_, h2, r⟩
    · have z := f.en.sl j s h
      cases s with
      | emp => exact True.intro
      | val e => obtain ⟨w, x1, x2⟩ := z; exact ⟨w, x1, x2.monoS ex⟩
      | own e =>
        obtain ⟨w, x1, x2⟩ := z
        refine ⟨w, x1, ?_⟩
        obtain ⟨b, rfl, y1, y2, m⟩ := x2
        have hb : b ≠ a := fun z => q (f.en.ap i j d e (.ref a) h1 h h2 (by rw [x1, z]))
        refine ⟨b, rfl, fun z => z.elim y1 hb, y2, ?_⟩
        cases e with
        | lst ds => obtain ⟨vs, z1, z2⟩ := m; exact ⟨vs, z1, z2.monoS ex⟩
        | ins c fs => obtain ⟨dx, vs, z1, z2⟩ := m; exact ⟨dx, vs, z1, z2.monoS ex⟩
        | _ => exact m.elim
  · rcases hset q1 with ⟨_, h⟩ | ⟨_, r1⟩
    · cases h
    · rcases hset q2 with ⟨_, h⟩ | ⟨_, r2⟩
      · cases h
      · exact f.en.ap j k _ _ v r1 r2 q3 q4
  · rcases hset q1 with ⟨_, h⟩ | ⟨_, r1⟩
    · cases h
    · exact f.own j e b r1 q2
  · rcases hset q1 with ⟨_, h⟩ | ⟨_, r1⟩
    · cases h
    · exact f.slf j c fs r1
end
end Dv
end
section
set_option Elab.async false
set_option linter.all false
set_option maxRecDepth 100000
set_option maxHeartbeats 4000000
namespace Dv
open PySem PySem.Spec PyProof.Rows L2
section
variable {T : Tab} {O : Orc} {nm : Nm} {X : Cx} {W : XK} {a b c e tg : Expr} {es : List Expr} {fa fb fc : Env → Cells → Res D} {pos : Pos} {st : Stmt} {rest : List Stmt} {f h : Env → Cells → Res Flw}
theorem s_nil : PSs X [] (tS X.K nm W fun ρ cs => .ok (.nx ρ) cs) := pss_nil.imp fun D σ H q => by
  obtain ⟨x0, g0, H0, g, ρ, cs, f, p⟩ := q
  exact PostS.nx p f
def seqF (f h : Env → Cells → Res Flw) : Env → Cells → Res Flw := fun ρ cs => (f ρ cs).bind fun f cs => match f with
    | .nx ρ => h ρ cs
    | f => .ok f cs
theorem s_cons (h1 : PS X st (tS X.K nm W f)) (h2 : PSs X rest (tS X.K nm W h)) : PSs X (st :: rest) (tS X.K nm W (seqF f h)) := (pss_cons h1 h2).imp fun D σ H q => by
  obtain ⟨x0, g0, H0, g, ρ, cs, fo, p⟩ := q
  refine (fun (z : tS X.K nm W f { D with nx := tS X.K nm W h D } σ H) => z) ?_
  refine ⟨x0, g0, H0, g, ρ, cs, fo, ?_⟩
  unfold seqF at p
  match f ρ cs, p with
  | .ok (.nx ρ') cs', p => exact fun σ' g' H' e f' => ⟨x0, g0, H0, g', ρ', cs', f', PostS.mono p e⟩
  | .ok (.ret d) cs', p => exact p
  | .ok (.brk ρ') cs', p => exact p
  | .ok (.cnt ρ') cs', p => exact p
  | .exc _ _, p => exact p
  | .bad, p => exact p
/-- a statement alone -/
theorem s_one (h1 : PS X st (tS X.K nm W f)) : PSs X [st] (tS X.K nm W f) := (pss_one h1).imp fun _ _ _ q => q
/-- nothing is done, then the rest -/
theorem s_skip (h1 : PS X st tNext) (h2 : PSs X rest (tS X.K nm W h)) : PSs X (st :: rest) (tS X.K nm W h) := (pss_cons h1 h2).imp fun D σ H q => q
theorem s_pass : PS X (.Pass pos) (tS X.K nm W fun ρ cs => .ok (.nx ρ) cs) := ps_pass.imp fun D σ H q => by
  obtain ⟨x0, g0, H0, g, ρ, cs, f, p⟩ := q
  exact PostS.nx p f
theorem s_brk : PS X (.Break pos) (tS X.K nm W fun ρ cs => .ok (.brk ρ) cs) := ps_break.imp fun D σ H q => by
  obtain ⟨x0, g0, H0, g, ρ, cs, f, p⟩ := q
  exact p σ g H .refl f
theorem s_cnt : PS X (.Continue pos) (tS X.K nm W fun ρ cs => .ok (.cnt ρ) cs) := ps_continue.imp fun D σ H q => by
  obtain ⟨x0, g0, H0, g, ρ, cs, f, p⟩ := q
  exact p σ g H .refl f
theorem s_never : PS X st (tS X.K nm W fun _ _ => .bad) := ps_never.imp fun D σ H q => by
  obtain ⟨x0, g0, H0, g, ρ, cs, f, p⟩ := q
  exact p.elim
theorem s_nevers : PSs X rest (tS X.K nm W fun _ _ => .bad) := pss_never.imp fun D σ H q => by
  obtain ⟨x0, g0, H0, g, ρ, cs, f, p⟩ := q
  exact p.elim
theorem s_frz {i : Nat} (h2 : PSs X rest (tS X.K nm W h)) : PSs X rest (tS X.K nm W fun ρ cs => match ρ[i]? with
    | some (.own d) => h (ρ.set i (.val d)) cs
    | _ => h ρ cs) := h2.imp fun D σ H q => by
  obtain ⟨x0, g0, H0, g, ρ, cs, f, p⟩ := q
  have p : PostS X.K nm W x0 g0 H0 g H (match ρ[i]? with
    | some (.own d) => h (ρ.set i (.val d)) cs
    | _ => h ρ cs) D := p
  cases q : ρ[i]? with
  | none => rw [q] at p; exact ⟨x0, g0, H0, g, ρ, cs, f, p⟩
  | some s =>
    rw [q] at p
    cases s with
    | own d =>
      obtain ⟨g', e, f'⟩ := f.frz q
      have p : PostS X.K nm W x0 g0 H0 g H (h (ρ.set i (.val d)) cs) D := p
      exact ⟨x0, g0, H0, g', _, cs, f', PostS.mono p e⟩
    | val d => exact ⟨x0, g0, H0, g, ρ, cs, f, p⟩
    | emp => exact ⟨x0, g0, H0, g, ρ, cs, f, p⟩
/-! ### values, arguments in a statement -/
theorem seV {K : PySem.W.Frag} {De : Ends} {σ : L2.St} {H : Hp} {k : Env → D → Cells → Res Flw} (q : tS K nm W (fun ρ cs => (fa ρ cs).bind (k ρ)) De σ H) :
    tV K nm W fa σ H fun v H1 => ∃ x0 g0 H0 g1 ρ d cs1, FOk K nm x0 g0 H0 g1 H1 σ ρ cs1 ∧ Rep K nm g1 H1 d v ∧ PostS K nm W x0 g0 H0 g1 H1 (k ρ d cs1) De := by
  obtain ⟨x0, g0, H0, g, ρ, cs, f, p⟩ := q
  refine ⟨g, ρ, cs, f.en, f.cs, (PostS.bind (R := Rep K nm) f p).imp ?_⟩
  rintro v H1 ⟨d, g1, cs1, e, es, f1, r, p1⟩
  exact ⟨x0, g0, H0, g1, ρ, d, cs1, f1, r, p1⟩
theorem seAs {K : PySem.W.Frag} {fs : Env → Cells → Res (List D)} {De : Ends} {σ : L2.St} {H : Hp} {k : Env → List D → Cells → Res Flw} (q : tS K nm W (fun ρ cs => (fs ρ cs).bind (k ρ)) De σ H) :
    tAs K nm W fs σ H fun vs H1 => ∃ x0 g0 H0 g1 ρ ds cs1, FOk K nm x0 g0 H0 g1 H1 σ ρ cs1 ∧ Reps K nm g1 H1 ds vs ∧ PostS K nm W x0 g0 H0 g1 H1 (k ρ ds cs1) De := by
  obtain ⟨x0, g0, H0, g, ρ, cs, f, p⟩ := q
  refine ⟨g, ρ, cs, f.en, f.cs, (PostS.bind (R := Reps K nm) f p).imp ?_⟩
  rintro v H1 ⟨d, g1, cs1, e, es, f1, r, p1⟩
  exact ⟨x0, g0, H0, g1, ρ, d, cs1, f1, r, p1⟩
theorem s_ret (he : PE X e (tV X.K nm W fa)) : PS X (.Return (some e) pos) (tS X.K nm W fun ρ cs => (fa ρ cs).bind fun d cs => .ok (.ret d) cs) := (ps_ret he).imp fun D σ H q => by
  obtain ⟨g, ρ, cs, en, c, p⟩ := seV (k := fun ρ d cs => .ok (.ret d) cs) q
  refine ⟨g, ρ, cs, en, c, p.imp ?_⟩
  rintro v H1 ⟨x0, g0, H0, g1, ρ, d, cs1, f, r, p1⟩
  exact p1 v g1 H1 f.ex f.cs r
theorem s_ex (he : PE X e (tV X.K nm W fa)) (hs : swapsWith e none pos.line X.env = pure false) : PS X (.Expr e pos) (tS X.K nm W fun ρ cs => (fa ρ cs).bind fun _ cs => .ok (.nx ρ) cs) := (ps_expr he hs).imp fun D σ H q => by
  obtain ⟨g, ρ, cs, en, c, p⟩ := seV (k := fun ρ d cs => .ok (.nx ρ) cs) q
  refine ⟨g, ρ, cs, en, c, p.imp ?_⟩
  rintro v H1 ⟨x0, g0, H0, g1, ρ, d, cs1, f, r, p1⟩
  exact PostS.nx p1 f
def setF (i : Nat) (fa : Env → Cells → Res D) : Env → Cells → Res Flw := fun ρ cs => (fa ρ cs).bind fun d cs => if i < ρ.length then .ok (.nx (ρ.set i (.val d))) cs else .bad
theorem set_of {K : PySem.W.Frag} {i : Nat} {De : Ends} {σ : L2.St} {H : Hp} (q : tS K nm W (setF i fa) De σ H) : tV K nm W fa σ H fun x H1 => gName i x σ H1 De.nx := by
  obtain ⟨g, ρ, cs, en, c, p⟩ := seV (k := fun ρ d cs => if i < ρ.length then .ok (.nx (ρ.set i (.val d))) cs else .bad) q
  refine ⟨g, ρ, cs, en, c, p.imp ?_⟩
  rintro v H1 ⟨x0, g0, H0, g1, ρ, d, cs1, f, r, p1⟩
  split at p1
  · exact PostS.nx p1 (f.setV r)
  · exact p1.elim
theorem s_set {i : Nat} {x : Str} {pos' : Pos} (hN : X.N.Nodup) (hi : X.N[i]? = some x) (hx : Loc X.env.scope x) (he : PE X e (tV X.K nm W fa)) (hs : swapsWith e (some (.Name x pos')) pos.line X.env = pure false) (hf : X.fn x = true ∨ X.env.scope.names.lookup x = some .local) :
    PS X (.Assign [.Name x pos'] e pos) (tS X.K nm W (setF i fa)) := (ps_set hN hi hx he hs hf).imp fun D σ H q => set_of q
/-- name = a comprehension, on one line -/
theorem s_setLc {i : Nat} {y : Str} {py spos : Pos} {elt iter : Expr} {ifs : List Expr} {scope : Scope} {own : List (Str × Nat)} {is : List Nat} {one : Bool} {fi : Env → Cells → Res (List D)} {fc : Env → Cells → Res Bool} {fe : Env → Cells → Res D}
    (hc : X.calm = true) (hN : X.N.Nodup) (hy : X.N[i]? = some y) (hyl : X.env.scope.names.lookup y = some .local) (hsw : swapsWith (.ListComp elt [⟨tg, iter, ifs, 0⟩] scope pos) (some (.Name y py)) spos.line X.env = pure true) (hi : PI X tg iter (tI X.K nm W fi)) (ok : BlkOk X.N X.env.scope scope own) (hown : own.map (·.2) = is)
    (hg : ∀ (s : Shared) (H : Hp) (C : Addr) (cl : List (Str × Addr)) (fp : List Addr), PG (X.blk s H scope (compEnvC scope cl C X.env) fp) tg (tgOf X.K is one))
    (ht : ∀ (s : Shared) (H : Hp) (C : Addr) (cl : List (Str × Addr)) (fp : List Addr), PTs (X.blk s H scope (compEnvC scope cl C X.env) fp) ifs (tT X.K nm E0 fc))
    (he : ∀ (s : Shared) (H : Hp) (C : Addr) (cl : List (Str × Addr)) (fp : List Addr), PE (X.blk s H scope (compEnvC scope cl C X.env) fp) elt (tV X.K nm E0 fe)) (hs : ∀ x, foldedSetIterable iter X.env x = pure x) :
    PS X (.Assign [.Name y py] (.ListComp elt [⟨tg, iter, ifs, 0⟩] scope pos) spos) (tS X.K nm W (setF i fun ρ cs => (fi ρ cs).bind fun xs cs => (compL (turnD is one fc fe ρ) [] xs cs).bind fun ds cs => .ok (.lst ds) cs)) := by
  subst hown
  exact (ps_setLc hc hN hy hyl hsw hi ok hg ht he hs).imp fun D σ H q => lc_of (set_of q)
/-- name = [e, ..], a list of its own -/
theorem s_own {i : Nat} {x : Str} {pos' c : Pos} {fs : Env → Cells → Res (List D)} (hN : X.N.Nodup) (hi : X.N[i]? = some x) (hx : Loc X.env.scope x) (he : PA X es (tAs X.K nm W fs)) (hf : X.fn x = true ∨ X.env.scope.names.lookup x = some .local) :
    PS X (.Assign [.Name x pos'] (.List es c) pos) (tS X.K nm W fun ρ cs => (fs ρ cs).bind fun ds cs => if ds.length ≤ sizeLine ∧ i < ρ.length then .ok (.nx (ρ.set i (.own (.lst ds)))) cs else .bad) := (ps_set hN hi hx (pe_lst he) rfl hf).imp fun D σ H q => by
  refine (fun (z : tAs X.K nm W fs σ H fun xs H1 => xs.length ≤ sizeLine ∧ ∀ p, H1 p = none → D.nx (σ.set i (some (.ref p))) (upd H1 p (.lst xs))) => z) ?_
  obtain ⟨g, ρ, cs, en, c, p⟩ := seAs (k := fun ρ ds cs => if ds.length ≤ sizeLine ∧ i < ρ.length then .ok (.nx (ρ.set i (.own (.lst ds)))) cs else .bad) q
  refine ⟨g, ρ, cs, en, c, p.imp ?_⟩
  rintro vs H1 ⟨x0, g0, H0, g1, ρ, ds, cs1, f, r, p1⟩
  split at p1
  · rename_i hz
    refine ⟨by rw [← r.length]; exact hz.1, fun p hp => ?_⟩
    obtain ⟨e, f'⟩ := f.newOwn (i := i) hp r
    exact p1 _ g1 _ e f'
  · exact p1.elim
/-- return [e, ..], a list that may change -/
theorem s_retC {c : Pos} {fs : Env → Cells → Res (List D)} (he : PA X es (tAs X.K nm W fs)) :
    PS X (.Return (some (.List es c)) pos) (tS X.K nm W fun ρ cs => (fs ρ cs).bind fun ds cs => if ds.length ≤ sizeLine then .ok (.ret (.cell cs.length)) (cs ++ [.lst ds]) else .bad) := (ps_ret (pe_lst he)).imp fun D σ H q => by
  refine (fun (z : tAs X.K nm W fs σ H fun xs H1 => xs.length ≤ sizeLine ∧ ∀ p, H1 p = none → D.rt (.ref p) (upd H1 p (.lst xs))) => z) ?_
  obtain ⟨g, ρ, cs, en, c, p⟩ := seAs (k := fun ρ ds cs => if ds.length ≤ sizeLine then .ok (.ret (.cell cs.length)) (cs ++ [.lst ds]) else .bad) q
  refine ⟨g, ρ, cs, en, c, p.imp ?_⟩
  rintro vs H1 ⟨x0, g0, H0, g1, ρ, ds, cs1, f, r, p1⟩
  split at p1
  · rename_i hz
    refine ⟨by rw [← r.length]; exact hz, fun p hp => ?_⟩
    have e : Ext g1 H1 ⟨g1.fz, g1.io ++ [p]⟩ (upd H1 p (.lst vs)) := by
      have l := ext_laid (g := g1) (o := .lst vs) hp
      exact ⟨⟨[p], rfl, fun a ha => by rw [List.mem_singleton.mp ha]; exact hp⟩, fun a h => h, fun a h => .inl h, l.keep, l.there⟩
    have np : p ∉ g1.io := fun z => f.cs.ok.iot p z hp
    have k : ∀ a, H1 a ≠ none → upd H1 p (.lst vs) a ≠ none := fun a q => by
      by_cases z : a = p
      · subst z; exact absurd hp q
      · rw [upd_ne z]; exact q
    have ok : GOk ⟨g1.fz, g1.io ++ [p]⟩ (upd H1 p (.lst vs)) := by
      refine ⟨fun a q => k a (f.cs.ok.fzt a q), fun a q => ?_, fun a q z => ?_, ?_⟩
      · rcases List.mem_append.mp q with q | q
        · exact k a (f.cs.ok.iot a q)
        · rw [List.mem_singleton.mp q, upd_same]; simp
      · rcases List.mem_append.mp q with q | q
        · exact f.cs.ok.dis a q z
        · rw [List.mem_singleton.mp q] at z
          exact f.cs.ok.fzt p z hp
      · rw [List.nodup_append]
        exact ⟨f.cs.ok.nd, by simp, fun a ha b hb => by rw [List.mem_singleton.mp hb]; exact fun z => np (z ▸ ha)⟩
    refine p1 (.ref p) ⟨g1.fz, g1.io ++ [p]⟩ _ (f.ex.trans e) ⟨ok, by simp [f.cs.len], fun n x a hn ha => ?_⟩ (.cell ?_)
    · rcases Nat.lt_or_ge n cs1.length with hl | hl
      · rw [List.getElem?_append_left hl] at hn
        rw [List.getElem?_append_left (by rw [← f.cs.len]; exact hl)] at ha
        refine (f.cs.at_ n x a hn ha).mono e f.cs.ok (upd_ne (show a ≠ p from fun z => np (z ▸ List.mem_of_getElem? ha)))
      · have e1 : n = cs1.length := by
          have := (List.getElem?_eq_some_iff.mp hn).1
          simp at this
          omega
        subst e1
        rw [List.getElem?_append_right (Nat.le_refl _)] at hn
        rw [List.getElem?_append_right (by rw [f.cs.len]; exact Nat.le_refl _)] at ha
        simp at hn
        simp [f.cs.len] at ha
        subst hn ha
        exact ⟨vs, upd_same, r.mono e f.cs.ok⟩
    · show (g1.io ++ [p])[cs1.length]? = some p
      rw [f.cs.len]
      simp
  · exact p1.elim
/-- a, b = x, y -/
theorem s_par {i j : Nat} {x y : Str} {px py pt : Pos} {kt k2 : Nat} {pt2 : Pos} {fs : Env → Cells → Res (List D)} (hc : X.calm = true) (hN : X.N.Nodup) (hi : X.N[i]? = some x) (hj : X.N[j]? = some y) (hij : i ≠ j)
    (h : PS X (.Assign [.Tuple [.Name x px, .Name y py] kt pt] (.Tuple [a, b] k2 pt2) pos) (tPar i j (tAs X.K nm W fs))) :
    PS X (.Assign [.Tuple [.Name x px, .Name y py] kt pt] (.Tuple [a, b] k2 pt2) pos) (tS X.K nm W fun ρ cs => (fs ρ cs).bind fun ds cs => (match setAll [i, j] ds ρ with
    | some ρ => .ok (.nx ρ) cs
    | none => .bad)) := h.imp fun D σ H q => by
  refine (fun (z : tAs X.K nm W fs σ H fun vs H1 => ∃ v w, vs = [v, w] ∧ D.nx ((σ.set i (some v)).set j (some w)) H1) => z) ?_
  obtain ⟨g, ρ, cs, en, c, p⟩ := seAs (k := fun ρ ds cs => (match setAll [i, j] ds ρ with
    | some ρ => .ok (.nx ρ) cs
    | none => .bad)) q
  refine ⟨g, ρ, cs, en, c, p.imp ?_⟩
  rintro vs H1 ⟨x0, g0, H0, g1, ρ, ds, cs1, f, r, p1⟩
  cases hs : setAll [i, j] ds ρ with
  | none => rw [hs] at p1; exact p1.elim
  | some ρ' =>
    rw [hs] at p1
    have hl := setAll_len hs
    match ds, r, hl, hs with
    | [d1, d2], .cons r1 (.cons r2 .nil), _, hs =>
      unfold setAll at hs
      split at hs
      · unfold setAll at hs
        split at hs
        · cases hs
          exact ⟨_, _, rfl, PostS.nx p1 ((f.setV r1).setV r2)⟩
        · cases hs
      · cases hs
/-- a target of several names -/
theorem s_setT {is : List Nat} {es' : List Expr} {kt : Nat} {pt : Pos} (he : PE X e (tV X.K nm W fa)) (hg : PG X (.Tuple es' kt pt) (tgOf X.K is false)) (hs : swapsWithSole [.Tuple es' kt pt] e pos.line X.env = pure false) (hw : swappedStores [.Tuple es' kt pt] e X.env = pure none) (h1 : (assignEach [.Tuple es' kt pt] X.env).map (·.2) = [assign (.Tuple es' kt pt) X.env]) :
    PS X (.Assign [.Tuple es' kt pt] e pos) (tS X.K nm W fun ρ cs => (fa ρ cs).bind fun d cs => (match setTg is false d ρ with
    | some ρ => .ok (.nx ρ) cs
    | none => .bad)) := (ps_asg he hg hs hw h1).imp fun D σ H q => by
  refine (fun (z : tV X.K nm W fa σ H fun x H1 => tgOf X.K is false x σ H1 D.nx) => z) ?_
  obtain ⟨g, ρ, cs, en, c, p⟩ := seV (k := fun ρ d cs => (match setTg is false d ρ with
    | some ρ => .ok (.nx ρ) cs
    | none => .bad)) q
  refine ⟨g, ρ, cs, en, c, p.imp ?_⟩
  rintro v H1 ⟨x0, g0, H0, g1, ρ, d, cs1, f, r, p1⟩
  cases hs : setTg is false d ρ with
  | none => rw [hs] at p1; exact p1.elim
  | some ρ' =>
    rw [hs] at p1
    exact tgOf_ok f.en r hs fun σ' en' _ ho => p1 σ' g1 H1 .refl ⟨en', f.cs, f.ex, (fun j e a h1 h2 => by
      obtain ⟨h3, h4⟩ := ho j e h1
      exact f.own j e a h3 (h4 ▸ h2)), fun j c fs h1 => by
      obtain ⟨h3, h4⟩ := ho j _ h1
      rw [h4]
      exact f.slf j c fs h3⟩
end
end Dv
end
section
set_option Elab.async false
set_option linter.all false
set_option maxRecDepth 100000
set_option maxHeartbeats 4000000
namespace Dv
open PySem PySem.Spec PyProof.Rows L2
section
variable {T : Tab} {O : Orc} {nm : Nm} {X : Cx} {W : XK} {a b c e tg : Expr} {es : List Expr} {fa fb fc : Env → Cells → Res D} {pos : Pos} {st : Stmt} {rest : List Stmt} {f h : Env → Cells → Res Flw}
/-! ### attributes, items stored -/
def setAF (T : Tab) (i j : Nat) (fa : Env → Cells → Res D) : Env → Cells → Res Flw := fun ρ cs => (fa ρ cs).bind fun d cs => (match ρ[i]? with
      | some (.own (.ins c fs)) => if okAt T c j = true ∧ fs.length < 1000 then .ok (.nx (ρ.set i (.own (.ins c (putA j d fs))))) cs else .bad
      | some (.val (.cell n)) => (match cs[n]? with
        | some (.ins c fs) => if okAt T c j = true ∧ fs.length < 1000 then .ok (.nx ρ) (cs.set n (.ins c (putA j d fs))) else .bad
        | _ => .bad)
      | _ => .bad)
theorem okAt_of {c j : Nat} (C : Top T nm X.K) (h : okAt T c j = true) : ∃ k, T.cls[c]? = some k ∧ j ∈ k.atr := by
  unfold okAt at h
  cases hk : T.cls[c]? with
  | none => rw [hk] at h; cases h
  | some k =>
    rw [hk] at h
    exact ⟨k, rfl, by simpa using h⟩
theorem s_setA (C : Top T nm X.K) {i j : Nat} {x fn : Str} {px pos' : Pos} (hf : nm.at_ j = fn) (hx : PE X (.Name x px) (tVar i)) (he : PE X e (tV X.K nm W fa)) (hs : swapsWith e (some (.Attribute (.Name x px) fn pos')) pos.line X.env = pure false) :
    PS X (.Assign [.Attribute (.Name x px) fn pos'] e pos) (tS X.K nm W (setAF T i j fa)) := (ps_fld hx he hs).imp fun De σ H q => by
  subst hf
  refine (fun (z : tV X.K nm W fa σ H fun y H1 => ∃ v, σ[i]? = some (some v) ∧ ∃ a C dx fs, v = .ref a ∧ H1 a = some (.ins C dx fs) ∧ Cls X.K C ∧ NoAttr X.K C (nm.at_ j) ∧ fs.length < 1000 ∧ De.nx σ (upd H1 a (.ins C dx (putF (nm.at_ j) y fs)))) => z) ?_
  obtain ⟨g, ρ, cs, en, c, p⟩ := seV (k := fun ρ d cs => (match ρ[i]? with
      | some (.own (.ins c fs)) => if okAt T c j = true ∧ fs.length < 1000 then .ok (.nx (ρ.set i (.own (.ins c (putA j d fs))))) cs else .bad
      | some (.val (.cell n)) => (match cs[n]? with
        | some (.ins c fs) => if okAt T c j = true ∧ fs.length < 1000 then .ok (.nx ρ) (cs.set n (.ins c (putA j d fs))) else .bad
        | _ => .bad)
      | _ => .bad)) q
  refine ⟨g, ρ, cs, en, c, p.imp ?_⟩
  rintro y H1 ⟨x0, g0, H0, g1, ρ, d, cs1, f, r, p1⟩
  cases hr : ρ[i]? with
  | none => rw [hr] at p1; exact p1.elim
  | some s =>
    rw [hr] at p1
    cases s with
    | emp => exact p1.elim
    | own d0 =>
      cases d0 with
      | ins cc fs =>
        have p1 : PostS X.K nm W x0 g0 H0 g1 H1 (if okAt T cc j = true ∧ fs.length < 1000 then .ok (.nx (ρ.set i (.own (.ins cc (putA j d fs))))) cs1 else .bad) De := p1
        split at p1
        · rename_i hz
          obtain ⟨k, hk, hm⟩ := okAt_of C hz.1
          obtain ⟨v, e1, a, rfl, f1, f2, dx, vs, h1, h2⟩ := f.en.sl i _ hr
          refine ⟨_, e1, a, _, dx, vs, rfl, h1, C.cls cc k hk, C.at_ cc k j hk hm, by rw [← h2.length]; exact hz.2, ?_⟩
          obtain ⟨ex, f'⟩ := f.updOwn (d' := .ins cc (putA j d fs)) (o := .ins (nm.ca cc) dx (putF (nm.at_ j) y vs)) hr e1 (fun _ _ _ => ⟨_, _, rfl⟩) fun ex => ⟨a, rfl, f1, f2, dx, _, upd_same, (h2.put C.nmok r).monoS ex⟩
          exact p1 σ g1 _ ex f'
        · exact p1.elim
      | _ => exact p1.elim
    | val d0 =>
      cases d0 with
      | cell n =>
        have p1 : PostS X.K nm W x0 g0 H0 g1 H1 (match cs1[n]? with
          | some (.ins c fs) => if okAt T c j = true ∧ fs.length < 1000 then .ok (.nx ρ) (cs1.set n (.ins c (putA j d fs))) else .bad
          | _ => .bad) De := p1
        cases hc : cs1[n]? with
        | none => rw [hc] at p1; exact p1.elim
        | some cl =>
          rw [hc] at p1
          cases cl with
          | lst _ => exact p1.elim
          | ins cc fs =>
            have p1 : PostS X.K nm W x0 g0 H0 g1 H1 (if okAt T cc j = true ∧ fs.length < 1000 then .ok (.nx ρ) (cs1.set n (.ins cc (putA j d fs))) else .bad) De := p1
            split at p1
            · rename_i hz
              obtain ⟨k, hk, hm⟩ := okAt_of C hz.1
              obtain ⟨v, e1, rv⟩ := f.en.sl i _ hr
              cases rv with
              | cell hg =>
                rename_i a
                obtain ⟨dx, vs, h1, h2⟩ := f.cs.at_ n _ a hc hg
                refine ⟨_, e1, a, _, dx, vs, rfl, h1, C.cls cc k hk, C.at_ cc k j hk hm, by rw [← h2.length]; exact hz.2, ?_⟩
                obtain ⟨ex, f'⟩ := f.updCell (c' := .ins cc (putA j d fs)) (o := .ins (nm.ca cc) dx (putF (nm.at_ j) y vs)) hg fun ex => ⟨dx, _, upd_same, (h2.put C.nmok r).monoS ex⟩
                exact p1 σ g1 _ ex f'
            · exact p1.elim
      | _ => exact p1.elim
def setIF (v : Nat) (fa fb : Env → Cells → Res D) : Env → Cells → Res Flw := fun ρ cs => (fa ρ cs).bind fun d cs => (match ρ[v]? with
    | some (.own (.lst ds)) => (fb ρ cs).bind fun k cs => (match k with
      | .int k => (match setIt ds k d with
        | some ds => .ok (.nx (ρ.set v (.own (.lst ds)))) cs
        | none => .bad)
      | _ => .bad)
    | some (.val (.cell n)) => (fb ρ cs).bind fun k cs => (match k with
      | .int k => (match cs[n]? with
        | some (.lst ds) => (match setIt ds k d with
          | some ds => .ok (.nx ρ) (cs.set n (.lst ds))
          | none => .bad)
        | _ => .bad)
      | _ => .bad)
    | _ => .bad)
theorem setIt_of {ds ds' : List D} {k : Int} {d : D} (h : setIt ds k d = some ds') : ∃ j, ixN ds.length k = some j ∧ ds' = ds.set j d := by
  unfold setIt at h
  cases q : ixN ds.length k with
  | none => rw [q] at h; cases h
  | some j => rw [q] at h; cases h; exact ⟨j, rfl, rfl⟩
theorem s_setI {v : Nat} {x : Str} {px pos' : Pos} (hx : PE X (.Name x px) (tVar v)) (he : PE X e (tV X.K nm W fa)) (hb : PE X b (tV X.K nm W fb)) (hs : swapsWithSole [.Subscript (.Name x px) b pos'] e pos.line X.env = pure false) (hw : swappedStores [.Subscript (.Name x px) b pos'] e X.env = pure none)
    (h1 : (assignEach [.Subscript (.Name x px) b pos'] X.env).map (·.2) = [assign (.Subscript (.Name x px) b pos') X.env]) (ha : ∀ v, assign (.Subscript (.Name x px) b pos') X.env v = (do
      let ov ← holding [v] (eval (.Name x px) X.env)
      let iv ← holding [v, ov] (eval b X.env)
      standAt pos'
      holding [v, ov, iv] (setItem ov iv v)
      release [v, ov, iv] [])) :
    PS X (.Assign [.Subscript (.Name x px) b pos'] e pos) (tS X.K nm W (setIF v fa fb)) := (ps_asg he (pg_sub hx hb set_list ha) hs hw h1).imp fun De σ H q => by
  refine (fun (z : tV X.K nm W fa σ H fun y H1 => ∃ w, σ[v]? = some (some w) ∧ tV X.K nm W fb σ H1 fun i H2 => rSetL w i y H2 fun H3 => De.nx σ H3) => z) ?_
  obtain ⟨g, ρ, cs, en, c, p⟩ := seV (k := fun ρ d cs => (match ρ[v]? with
    | some (.own (.lst ds)) => (fb ρ cs).bind fun k cs => (match k with
      | .int k => (match setIt ds k d with
        | some ds => .ok (.nx (ρ.set v (.own (.lst ds)))) cs
        | none => .bad)
      | _ => .bad)
    | some (.val (.cell n)) => (fb ρ cs).bind fun k cs => (match k with
      | .int k => (match cs[n]? with
        | some (.lst ds) => (match setIt ds k d with
          | some ds => .ok (.nx ρ) (cs.set n (.lst ds))
          | none => .bad)
        | _ => .bad)
      | _ => .bad)
    | _ => .bad)) q
  refine ⟨g, ρ, cs, en, c, p.imp ?_⟩
  rintro y H1 ⟨x0, g0, H0, g1, ρ, d, cs1, f, r, p1⟩
  cases hr : ρ[v]? with
  | none => rw [hr] at p1; exact p1.elim
  | some s =>
    rw [hr] at p1
    cases s with
    | emp => exact p1.elim
    | own d0 =>
      cases d0 with
      | lst ds =>
        obtain ⟨w, e1, ow⟩ := f.en.sl v _ hr
        have p1 : PostS X.K nm W x0 g0 H0 g1 H1 ((fb ρ cs1).bind fun k cs => (match k with
          | .int k => (match setIt ds k d with
            | some ds => .ok (.nx (ρ.set v (.own (.lst ds)))) cs
            | none => .bad)
          | _ => .bad)) De := p1
        refine ⟨w, e1, g1, ρ, cs1, f.en, f.cs, (PostS.bind (R := Rep X.K nm) f p1).imp ?_⟩
        rintro x H2 ⟨k, g2, cs2, e2, s2, f2, r2, p2⟩
        cases k with
        | int k =>
          cases r2
          have p2 : PostS X.K nm W x0 g0 H0 g2 H2 (match setIt ds k d with
            | some ds => .ok (.nx (ρ.set v (.own (.lst ds)))) cs2
            | none => .bad) De := p2
          cases hs : setIt ds k d with
          | none => rw [hs] at p2; exact p2.elim
          | some ds' =>
            rw [hs] at p2
            obtain ⟨j, hj, rfl⟩ := setIt_of hs
            obtain ⟨w', e1', a, rfl, f1, f3, vs, h1, h2⟩ := f2.en.sl v _ hr
            rw [e1] at e1'
            cases e1'
            refine ⟨a, vs, k, j, rfl, rfl, h1, by rw [← h2.length]; exact hj, ?_⟩
            obtain ⟨ex, f'⟩ := f2.updOwn (d' := .lst (ds.set j d)) (o := .lst (vs.set j y)) hr e1 (fun _ _ z => nomatch z) fun ex => ⟨a, rfl, f1, f3, _, upd_same, (h2.set j (r.monoS s2)).monoS ex⟩
            exact p2 σ g2 _ ex f'
        | _ => exact p2.elim
      | _ => exact p1.elim
    | val d0 =>
      cases d0 with
      | cell n =>
        obtain ⟨w, e1, rv⟩ := f.en.sl v _ hr
        have p1 : PostS X.K nm W x0 g0 H0 g1 H1 ((fb ρ cs1).bind fun k cs => (match k with
          | .int k => (match cs[n]? with
            | some (.lst ds) => (match setIt ds k d with
              | some ds => .ok (.nx ρ) (cs.set n (.lst ds))
              | none => .bad)
            | _ => .bad)
          | _ => .bad)) De := p1
        refine ⟨w, e1, g1, ρ, cs1, f.en, f.cs, (PostS.bind (R := Rep X.K nm) f p1).imp ?_⟩
        rintro x H2 ⟨k, g2, cs2, e2, s2, f2, r2, p2⟩
        cases k with
        | int k =>
          cases r2
          have p2 : PostS X.K nm W x0 g0 H0 g2 H2 (match cs2[n]? with
            | some (.lst ds) => (match setIt ds k d with
              | some ds => .ok (.nx ρ) (cs2.set n (.lst ds))
              | none => .bad)
            | _ => .bad) De := p2
          cases hc : cs2[n]? with
          | none => rw [hc] at p2; exact p2.elim
          | some cl =>
            rw [hc] at p2
            cases cl with
            | ins _ _ => exact p2.elim
            | lst ds =>
              have p2 : PostS X.K nm W x0 g0 H0 g2 H2 (match setIt ds k d with
                | some ds => .ok (.nx ρ) (cs2.set n (.lst ds))
                | none => .bad) De := p2
              cases hs : setIt ds k d with
              | none => rw [hs] at p2; exact p2.elim
              | some ds' =>
                rw [hs] at p2
                obtain ⟨j, hj, rfl⟩ := setIt_of hs
                have rv2 := rv.monoS s2
                cases rv2 with
                | cell hg =>
                  rename_i a
                  obtain ⟨vs, h1, h2⟩ := f2.cs.at_ n _ a hc hg
                  refine ⟨a, vs, k, j, rfl, rfl, h1, by rw [← h2.length]; exact hj, ?_⟩
                  obtain ⟨ex, f'⟩ := f2.updCell (c' := .lst (ds.set j d)) (o := .lst (vs.set j y)) hg fun ex => ⟨_, upd_same, (h2.set j (r.monoS s2)).monoS ex⟩
                  exact p2 σ g2 _ ex f'
        | _ => exact p2.elim
      | _ => exact p1.elim
/-! ### x op= e -/
theorem aug_add (C : Ctx T O nm X W) : PIp X .Add (rD X.K nm W (Rep X.K nm) (Rep X.K nm) (augD T O .add)) := by
  intro pins s σ H x y v u Q I rv ru h
  obtain ⟨g, cs, a, b, co, ra, rb, p⟩ := h
  cases a with
  | int i =>
    cases b with
    | int j =>
      cases ra
      cases rb
      exact iop_add pins s σ H _ _ v u Q I rv ru ⟨i, j, rfl, rfl, Post.ok p co (.int _)⟩
    | _ => exact p.elim
  | str i =>
    cases b with
    | str j =>
      cases ra
      cases rb
      have p : Post X.K nm W (Rep X.K nm) g H (if i.length + j.length ≤ sizeLine then .ok (.str (i ++ j)) cs else .bad) Q := p
      split at p
      · rename_i hz
        exact iop_add_str pins s σ H _ _ v u Q I rv ru ⟨i, j, rfl, rfl, hz, Post.ok p co (.str _)⟩
      · exact p.elim
    | _ => exact p.elim
  | ins c fs =>
    cases b with
    | ins c' fs' =>
      have p : Post X.K nm W (Rep X.K nm) g H (if c' = c then callM T O nAdd (.ins c fs) [.ins c' fs'] cs else .bad) Q := p
      split at p
      · rename_i ec
        subst ec
        obtain ⟨c, fs2, f, e, e2, p⟩ := callM_post p
        obtain ⟨k, hk, M⟩ := methOf_ok C.top e2
        have ec : c = c' := by
          have e : D.ins c' fs = .ins c fs2 := e
          injection e with e _
          exact e.symm
        subst ec
        obtain ⟨ad, ox, od, rfl, J, _⟩ := inst_at I co (.inl ra) rv e
        obtain ⟨ad', ox', od', rfl, J', _⟩ := inst_at I co (.inl rb) ru (show deref (D.ins c fs') cs = .ins c fs' from rfl)
        obtain ⟨mm, F⟩ := I.fr
        refine PySem.W.inplace_own F I.ok.mod.kin J J'.type (C.top.sf c k hk) (C.top.noi c k hk) (by rw [show PySem.dunder (Operator.info .Add).2 = nm.mt nAdd by rw [C.top.dn.2.1]; decide +kernel]; exact M.at_) M.fn ?_
        exact wpAny_mono (C.calls f _ pins s σ H [.ref ad, .ref ad'] [x, y] _ cs g Q (.inl rfl) I (.cons rv (.cons ru .nil)) co (.cons ra (.cons rb .nil)) p) (fun _ _ z => cmpBack z) fun _ _ z => z
      · exact p.elim
    | _ => exact p.elim
  | _ => exact p.elim
theorem aug_sub : PIp X .Sub (rD X.K nm W (Rep X.K nm) (Rep X.K nm) (augD T O .sub)) := by
  intro pins s σ H x y v u Q I rv ru h
  obtain ⟨g, cs, a, b, co, ra, rb, p⟩ := h
  cases a with
  | int i =>
    cases b with
    | int j =>
      cases ra
      cases rb
      exact iop_sub pins s σ H _ _ v u Q I rv ru ⟨i, j, rfl, rfl, Post.ok p co (.int _)⟩
    | _ => exact p.elim
  | _ => exact p.elim
def augF (i : Nat) (h : D → D → Cells → Res D) (fa : Env → Cells → Res D) : Env → Cells → Res Flw := fun ρ cs => (match getV ρ i with
    | some x => (fa ρ cs).bind fun y cs => (h x y cs).bind fun d cs => .ok (.nx (ρ.set i (.val d))) cs
    | none => .bad)
theorem s_aug {op : Operator} {h : D → D → Cells → Res D} {i : Nat} {x : Str} {pos' : Pos} (ho : PIp X op (rD X.K nm W (Rep X.K nm) (Rep X.K nm) h)) (hN : X.N.Nodup) (hi : X.N[i]? = some x) (hx : Loc X.env.scope x) (he : PE X e (tV X.K nm W fa)) (hf : X.fn x = true ∨ X.env.scope.names.lookup x = some .local) :
    PS X (.AugAssign (.Name x pos') op e pos) (tS X.K nm W (augF i h fa)) := (ps_aug hN hi hx he ho hf).imp fun De σ H q => by
  obtain ⟨x0, g0, H0, g, ρ, cs, f, p⟩ := q
  unfold augF at p
  cases hv : getV ρ i with
  | none => rw [hv] at p; exact p.elim
  | some dx =>
    rw [hv] at p
    have hr : ρ[i]? = some (.val dx) := by
      unfold getV at hv
      cases z : ρ[i]? with
      | none => rw [z] at hv; cases hv
      | some s => rw [z] at hv; cases s <;> first | (cases hv; rfl) | cases hv
    obtain ⟨v, e1, rx⟩ := f.en.sl i _ hr
    have p : PostS X.K nm W x0 g0 H0 g H ((fa ρ cs).bind fun y cs => (h dx y cs).bind fun d cs => .ok (.nx (ρ.set i (.val d))) cs) De := p
    refine ⟨v, e1, g, ρ, cs, f.en, f.cs, (PostS.bind (R := Rep X.K nm) f p).imp ?_⟩
    rintro y H1 ⟨dy, g1, cs1, ee, es, f1, r, p1⟩
    refine ⟨g1, cs1, dx, dy, f1.cs, rx.monoS es, r, (PostS.bind (R := Rep X.K nm) f1 p1).imp ?_⟩
    rintro z H2 ⟨d, g2, cs2, e2, es2, f2, r2, p2⟩
    exact PostS.nx p2 (f2.setV r2)
/-! ### x.append(e), x.extend(e) -/
def appF (i : Nat) (fa : Env → Cells → Res D) : Env → Cells → Res Flw := fun ρ cs => (match ρ[i]? with
    | some (.own (.lst ds)) => (fa ρ cs).bind fun d cs => if ds.length < sizeLine then .ok (.nx (ρ.set i (.own (.lst (ds ++ [d]))))) cs else .bad
    | _ => .bad)
def extF (i : Nat) (fa : Env → Cells → Res D) : Env → Cells → Res Flw := fun ρ cs => (match ρ[i]? with
    | some (.own (.lst ds)) => (fa ρ cs).bind fun d cs => (match items d with
      | some es => if ds.length + es.length ≤ sizeLine then .ok (.nx (ρ.set i (.own (.lst (ds ++ es))))) cs else .bad
      | none => .bad)
    | _ => .bad)
theorem s_app {i : Nat} {x : Str} {px apos cpos : Pos} (hx : PE X (.Name x px) (tVar i)) (he : PE X e (tV X.K nm W fa)) (hn : isStar e = false) (hl : (apos.endLine == cpos.line) = true) :
    PS X (.Expr (.Call (.Attribute (.Name x px) "append" apos) [e] [] cpos) pos) (tS X.K nm W (appF i fa)) := by
  have hA : PA X [e] (tCons (tV X.K nm W fa) tNil) := pa_cons he pa_nil (star_not (isStar_not hn))
  have hP : PE X (.Call (.Attribute (.Name x px) "append" apos) [e] [] cpos) (tBM X.K "list" rAppend (tVar i) (tCons (tV X.K nm W fa) tNil)) :=
    pe_bm F.plainAttrs_list F.slot_list_append F.type_list_append mt_append hx hA (noSup_base rfl) (by rw [star_not (isStar_not hn)]; rfl) hl (star_not (isStar_not hn)) rfl
  refine (ps_expr hP rfl).imp fun De σ H q => ?_
  refine (fun (z : ∃ v, σ[i]? = some (some v) ∧ tyV X.K "list" v H ∧ tV X.K nm W fa σ H fun y H2 => rAppend v [y] H2 fun _ H3 => De.nx σ H3) => z) ?_
  obtain ⟨x0, g0, H0, g, ρ, cs, f, p⟩ := q
  unfold appF at p
  cases hr : ρ[i]? with
  | none => rw [hr] at p; exact p.elim
  | some s =>
    rw [hr] at p
    cases s with
    | own d0 =>
      cases d0 with
      | lst ds =>
        obtain ⟨w, e1, ow⟩ := f.en.sl i _ hr
        obtain ⟨a, rfl, f1, f3, vs, h1, h2⟩ := id ow
        have p : PostS X.K nm W x0 g0 H0 g H ((fa ρ cs).bind fun d cs => if ds.length < sizeLine then .ok (.nx (ρ.set i (.own (.lst (ds ++ [d]))))) cs else .bad) De := p
        refine ⟨_, e1, .inl ⟨rfl, vs, .of h1⟩, g, ρ, cs, f.en, f.cs, (PostS.bind (R := Rep X.K nm) f p).imp ?_⟩
        rintro y H2 ⟨d, g2, cs2, e2, s2, f2, r2, p2⟩
        split at p2
        · rename_i hz
          obtain ⟨w', e1', a', rfl, f1', f3', vs', h1', h2'⟩ := f2.en.sl i _ hr
          rw [e1] at e1'
          cases e1'
          refine ⟨a, vs', y, rfl, rfl, h1', by rw [← h2'.length]; exact hz, ?_⟩
          obtain ⟨ex, f'⟩ := f2.updOwn (d' := .lst (ds ++ [d])) (o := .lst (vs' ++ [y])) hr e1 (fun _ _ z => nomatch z) fun ex => ⟨a, rfl, f1', f3', _, upd_same, (h2'.append (.cons r2 .nil)).monoS ex⟩
          exact p2 σ g2 _ ex f'
        · exact p2.elim
      | _ => exact p.elim
    | _ => exact p.elim
theorem s_ext {i : Nat} {x : Str} {px apos cpos : Pos} (hx : PE X (.Name x px) (tVar i)) (he : PE X e (tV X.K nm W fa)) (hn : isStar e = false) (hl : (apos.endLine == cpos.line) = true) :
    PS X (.Expr (.Call (.Attribute (.Name x px) "extend" apos) [e] [] cpos) pos) (tS X.K nm W (extF i fa)) := by
  have hA : PA X [e] (tCons (tV X.K nm W fa) tNil) := pa_cons he pa_nil (star_not (isStar_not hn))
  have hP : PE X (.Call (.Attribute (.Name x px) "extend" apos) [e] [] cpos) (tBM X.K "list" (rExtA X.K) (tVar i) (tCons (tV X.K nm W fa) tNil)) :=
    pe_bm F.plainAttrs_list F.slot_list_extend F.type_list_extend mt_extA hx hA (noSup_base rfl) (by rw [star_not (isStar_not hn)]; rfl) hl (star_not (isStar_not hn)) rfl
  refine (ps_expr hP rfl).imp fun De σ H q => ?_
  refine (fun (z : ∃ v, σ[i]? = some (some v) ∧ tyV X.K "list" v H ∧ tV X.K nm W fa σ H fun y H2 => rExtA X.K v [y] H2 fun _ H3 => De.nx σ H3) => z) ?_
  obtain ⟨x0, g0, H0, g, ρ, cs, f, p⟩ := q
  unfold extF at p
  cases hr : ρ[i]? with
  | none => rw [hr] at p; exact p.elim
  | some s =>
    rw [hr] at p
    cases s with
    | own d0 =>
      cases d0 with
      | lst ds =>
        obtain ⟨w, e1, ow⟩ := f.en.sl i _ hr
        obtain ⟨a, rfl, f1, f3, vs, h1, h2⟩ := id ow
        have p : PostS X.K nm W x0 g0 H0 g H ((fa ρ cs).bind fun d cs => (match items d with
          | some es => if ds.length + es.length ≤ sizeLine then .ok (.nx (ρ.set i (.own (.lst (ds ++ es))))) cs else .bad
          | none => .bad)) De := p
        refine ⟨_, e1, .inl ⟨rfl, vs, .of h1⟩, g, ρ, cs, f.en, f.cs, (PostS.bind (R := Rep X.K nm) f p).imp ?_⟩
        rintro y H2 ⟨d, g2, cs2, e2, s2, f2, r2, p2⟩
        cases hi : items d with
        | none => rw [hi] at p2; exact p2.elim
        | some es =>
          rw [hi] at p2
          have p2 : PostS X.K nm W x0 g0 H0 g2 H2 (if ds.length + es.length ≤ sizeLine then .ok (.nx (ρ.set i (.own (.lst (ds ++ es))))) cs2 else .bad) De := p2
          split at p2
          · rename_i hz
            obtain ⟨w', e1', a', rfl, f1', f3', vs', h1', h2'⟩ := f2.en.sl i _ hr
            rw [e1] at e1'
            cases e1'
            have hy : ∃ b zs, y = .ref b ∧ (H2 b = some (.lst zs) ∨ SqT X.K H2 b zs) ∧ Reps X.K nm g2 H2 es zs := by
              cases d with
              | lst es' =>
                cases hi
                obtain ⟨b, zs, rfl, q1, q2, _⟩ := r2.ref_lst
                exact ⟨b, zs, rfl, .inl q1, q2⟩
              | tup es' =>
                cases hi
                obtain ⟨b, zs, rfl, q1, q2⟩ := view_tup (cs := []) (.inl r2) rfl
                exact ⟨b, zs, rfl, .inr q1, q2⟩
              | _ => cases hi
            obtain ⟨b, zs, rfl, q1, q2⟩ := hy
            refine ⟨a, b, vs', zs, rfl, rfl, h1', q1, by rw [← h2'.length, ← q2.length]; exact hz, ?_⟩
            obtain ⟨ex, f'⟩ := f2.updOwn (d' := .lst (ds ++ es)) (o := .lst (vs' ++ zs)) hr e1 (fun _ _ z => nomatch z) fun ex => ⟨a, rfl, f1', f3', _, upd_same, (h2'.append q2).monoS ex⟩
            exact p2 σ g2 _ ex f'
          · exact p2.elim
      | _ => exact p.elim
    | _ => exact p.elim
/-! ### if, for, while -/
theorem s_ite {fc : Env → Cells → Res Bool} {as bs : List Stmt} (hc : PT X c (tT X.K nm W fc)) (ha : PSs X as (tS X.K nm W f)) (hb : PSs X bs (tS X.K nm W h)) : PS X (.If c as bs pos) (tS X.K nm W fun ρ cs => (fc ρ cs).bind fun t cs => if t then f ρ cs else h ρ cs) := (ps_if hc ha hb).imp fun De σ H q => by
  obtain ⟨x0, g0, H0, g, ρ, cs, fo, p⟩ := q
  refine ⟨g, ρ, cs, fo.en, fo.cs, (PostS.bind (R := fun _ _ (a b : Bool) => a = b) fo p).imp ?_⟩
  rintro t H1 ⟨t', g1, cs1, e, es, f1, rfl, p1⟩
  cases t' with
  | true => exact ⟨x0, g0, H0, g1, ρ, cs1, f1, p1⟩
  | false => exact ⟨x0, g0, H0, g1, ρ, cs1, f1, p1⟩
theorem s_for {fi : Env → Cells → Res (List D)} {is : List Nat} {one : Bool} {iter : Expr} {body : List Stmt} (hp : PassesOwn (model X.prog X.w) X.A X.env X.xe) (hc : X.calm = true) (hi : PI X tg iter (tI X.K nm W fi)) (hg : PG X tg (tgOf X.K is one)) (hb : PSs X body (tS X.K nm W f)) (hs : ∀ x, foldedSetIterable iter X.env x = pure x) :
    PS X (.For tg iter body [] pos) (tS X.K nm W fun ρ cs => (fi ρ cs).bind fun xs cs => forL f is one xs ρ cs) := (ps_for hp hc hi hg hb hs).imp fun De σ H q => by
  obtain ⟨x0, g0, H0, g, ρ, cs, fo, p⟩ := q
  refine ⟨g, ρ, cs, fo.en, fo.cs, (PostS.bind (R := Yl X.K nm) fo p).imp ?_⟩
  rintro J H1 ⟨xs, g1, cs1, e, es, f1, yl, p1⟩
  refine ⟨fun i m σ H => m = xs.length - i ∧ i ≤ xs.length ∧ ∃ g' ρ' cs', ExtS g1 H1 g' H ∧ FOk X.K nm x0 g0 H0 g' H σ ρ' cs' ∧ PostS X.K nm W x0 g0 H0 g' H (forL f is one (xs.drop i) ρ' cs') De, ⟨_, rfl, Nat.zero_le _, g1, ρ, cs1, .refl, f1, p1⟩, ?_⟩
  rintro i m σ' H' ⟨rfl, hi', g', ρ', cs', e', f', p'⟩
  have Y := yl g' H' e' f'.cs.ok i
  by_cases hlt : i < xs.length
  · have hx : xs[i]? = some xs[i] := by simp [hlt]
    rw [List.drop_eq_getElem_cons hlt] at p'
    refine .inr ⟨(Y.2 _ hx).1, fun σ H => i + 1 ≤ xs.length ∧ ∃ g' ρ' cs', ExtS g1 H1 g' H ∧ FOk X.K nm x0 g0 H0 g' H σ ρ' cs' ∧ PostS X.K nm W x0 g0 H0 g' H (forL f is one (xs.drop (i + 1)) ρ' cs') De, fun σ2 H2 z => ⟨_, by omega, rfl, z⟩, fun x H2 hy => ?_⟩
    obtain ⟨g2, gr, rx⟩ := (Y.2 _ hx).2 x H2 hy
    have f2 := f'.mono gr.ext (gr.csOk f'.cs)
    have s2 := gr.ext.s f'.cs.ok
    unfold forL at p'
    cases hs : setTg is one xs[i] ρ' with
    | none => simp only [hs] at p'; exact p'.elim
    | some ρ2 =>
      simp only [hs] at p'
      refine tgOf_ok f2.en rx hs fun σ3 en3 _ ho => ?_
      have f3 : FOk X.K nm x0 g0 H0 g2 H2 σ3 ρ2 cs' := ⟨en3, f2.cs, f2.ex, (fun j e a h1 h2 => by
        obtain ⟨h3, h4⟩ := ho j e h1
        exact f2.own j e a h3 (h4 ▸ h2)), fun j c fs h1 => by
        obtain ⟨h3, h4⟩ := ho j _ h1
        rw [h4]
        exact f2.slf j c fs h3⟩
      refine ⟨x0, g0, H0, g2, ρ2, cs', f3, ?_⟩
      have p3 := PostS.mono p' s2
      match f ρ2 cs', p3 with
      | .ok (.nx ρ4) cs4, p3 => exact fun σ4 g4 H4 e4 f4 => ⟨hlt, g4, ρ4, cs4, (e'.trans s2).trans e4, f4, PostS.mono p3 e4⟩
      | .ok (.cnt ρ4) cs4, p3 => exact fun σ4 g4 H4 e4 f4 => ⟨hlt, g4, ρ4, cs4, (e'.trans s2).trans e4, f4, PostS.mono p3 e4⟩
      | .ok (.brk ρ4) cs4, p3 => exact p3
      | .ok (.ret d) cs4, p3 => exact p3
      | .exc _ _, p3 => exact p3
      | .bad, p3 => exact p3
  · have e : i = xs.length := by omega
    subst e
    rw [List.drop_length] at p'
    exact .inl ⟨Y.1 (Nat.le_refl _), PostS.nx p' f'⟩
theorem s_while {fc : Env → Cells → Res Bool} {body : List Stmt} (hp : PassesOwn (model X.prog X.w) X.A X.env X.xe) (hc : PT X c (tT X.K nm W fc)) (hb : PSs X body (tS X.K nm W f)) :
    PS X (.While c body [] pos) (tS X.K nm W fun ρ cs => whileL fc f turns ρ cs) := (ps_while hp hc hb).imp fun De σ H q => by
  obtain ⟨x0, g0, H0, g, ρ, cs, fo, p⟩ := q
  refine ⟨fun m σ H => ∃ g' ρ' cs', FOk X.K nm x0 g0 H0 g' H σ ρ' cs' ∧ PostS X.K nm W x0 g0 H0 g' H (whileL fc f m ρ' cs') De, ⟨turns, g, ρ, cs, fo, p⟩, ?_⟩
  rintro m σ' H' ⟨g', ρ', cs', f', p'⟩
  cases m with
  | zero => exact p'.elim
  | succ n =>
    unfold whileL at p'
    refine ⟨g', ρ', cs', f'.en, f'.cs, (PostS.bind (R := fun _ _ (a b : Bool) => a = b) f' p').imp ?_⟩
    rintro t H1 ⟨t', g1, cs1, e, es, f1, rfl, p1⟩
    cases t' with
    | false => exact PostS.nx p1 f1
    | true =>
      refine ⟨fun σ H => ∃ g' ρ' cs', FOk X.K nm x0 g0 H0 g' H σ ρ' cs' ∧ PostS X.K nm W x0 g0 H0 g' H (whileL fc f n ρ' cs') De, fun σ2 H2 z => ⟨n, Nat.lt_succ_self n, z⟩, x0, g0, H0, g1, ρ', cs1, f1, ?_⟩
      have p1 : PostS X.K nm W x0 g0 H0 g1 H1 ((f ρ' cs1).bind fun f' cs => (match f' with
        | .nx ρ => whileL fc f n ρ cs
        | .cnt ρ => whileL fc f n ρ cs
        | .brk ρ => .ok (.nx ρ) cs
        | .ret d => .ok (.ret d) cs)) De := p1
      match f ρ' cs1, p1 with
      | .ok (.nx ρ4) cs4, p3 => exact fun σ4 g4 H4 e4 f4 => ⟨g4, ρ4, cs4, f4, PostS.mono p3 e4⟩
      | .ok (.cnt ρ4) cs4, p3 => exact fun σ4 g4 H4 e4 f4 => ⟨g4, ρ4, cs4, f4, PostS.mono p3 e4⟩
      | .ok (.brk ρ4) cs4, p3 => exact p3
      | .ok (.ret d) cs4, p3 => exact p3
      | .exc _ _, p3 => exact p3
      | .bad, p3 => exact p3
end
end Dv
end
section
set_option Elab.async false
set_option linter.all false
set_option maxRecDepth 100000
set_option maxHeartbeats 4000000
namespace Dv
open PySem PySem.Spec PyProof.Rows L2
/-! ### the look at a text: does it say what the plan says? -/
/-- what a global name is -/
inductive GV where
  | fn (f : Nat) | cls (c : Nat) | blt | const (j : Nat)
  deriving DecidableEq
structure Gi where
  N : List Str
  glo : Str → Option GV
  at_ : Nat → Str
  mt : Nat → Str
  kw : Nat → Nat → List Str → List Nat → Bool
  T : Tab
/-- a scope as it is entered -/
structure Sx where
  sc : Scope
  fn : Str → Bool
def opOf : Bop → Operator
  | .add => .Add
  | .sub => .Sub
  | .mul => .Mult
  | .fdiv => .FloorDiv
  | .mod => .Mod
  | .pow => .Pow
def visC (S : Sx) (x : Str) : Bool := S.sc.names.lookup x == some .local || S.sc.names.lookup x == some .cell || S.sc.names.lookup x == some .free
def glC (S : Sx) (x : Str) : Bool := S.sc.names.lookup x == some .globalImplicit && !(x == ("__debug__" : Str))
/-- a name to be stored -/
def locC (G : Gi) (S : Sx) (i : Nat) (x : Str) : Bool := G.N[i]? == some x && (S.sc.names.lookup x == some .local || S.sc.names.lookup x == some .cell) && (S.fn x || S.sc.names.lookup x == some .local)
def tgsC (G : Gi) (S : Sx) : List Expr → List Nat → Bool
  | [], [] => true
  | .Name x _ :: es, i :: is => locC G S i x && tgsC G S es is
  | _, _ => false
def tgC (G : Gi) (S : Sx) (tg : Expr) (is : List Nat) (one : Bool) : Bool := match tg, is, one with
  | .Name x _, [i], true => locC G S i x
  | .Tuple es _ _, is, false => tgsC G S es is
  | _, _, _ => false
def tgNames : Expr → List Nat → List (Str × Nat)
  | .Name x _, [i] => [(x, i)]
  | .Tuple es _ _, is => (es.zip is).filterMap fun p => match p.1 with
    | .Name x _ => some (x, p.2)
    | _ => none
  | _, _ => []
def notSet : Expr → Bool
  | .Set _ _ _ => false
  | _ => true
def notComp : Expr → Bool
  | .ListComp _ _ _ _ => false
  | .SetComp _ _ _ _ => false
  | .DictComp _ _ _ _ _ => false
  | _ => true
def cOf : Cop → CmpOp := copOp
structure Ck where
  e : Sx → Expr → Bool
  l : Sx → List Expr → Bool
  aL : Sx → List Expr → Bool
  oL : Sx → List Expr → Bool
  f : Sx → List Expr → Bool
  o : Sx → Option Expr → Bool
  c : Sx → List Expr → Bool
  it : Sx → Expr → Expr → Bool
  k : Sx → List Keyword → Bool
def ckE (f : Sx → Expr → Bool) : Ck where
  e := f
  l := fun _ _ => false
  aL := fun S es => match es with
    | [a] => f S a
    | _ => false
  oL := fun S es => match es with
    | [a] => f S a
    | _ => false
  f := fun _ _ => false
  o := fun S oe => match oe with
    | some a => f S a
    | none => false
  c := fun S es => match es with
    | [a] => f S a
    | _ => false
  it := fun S _ a => f S a && notSet a
  k := fun _ _ => false
def ckN : Ck where
  e := fun _ _ => false
  l := fun _ _ => false
  aL := fun _ _ => false
  oL := fun _ _ => false
  f := fun _ _ => false
  o := fun _ _ => false
  c := fun _ _ => false
  it := fun _ _ _ => false
  k := fun _ _ => false
/-- the arguments of a call: none, a lone star, others -/
def acC (k : Sx → List Expr → Bool) (S : Sx) (es : List Expr) : Bool := k S es
def bName : Blt → Str
  | .len => "len"
  | .int => "int"
  | .bool => "bool"
  | .str => "str"
  | .sum => "sum"
  | .all => "all"
  | .any => "any"
  | .abs => "abs"
  | .tuple => "tuple"
  | .list => "list"
  | .sorted => "sorted"
  | .max => "max"
  | .min => "min"
  | .max2 => "max"
  | .min2 => "min"
def bOk : Blt → Bool
  | .bool => false
  | .max => false
  | .min => false
  | _ => true
def tyC (G : Gi) (S : Sx) (t : Ty) (e : Expr) : Bool := match e with
  | .Name x _ => glC S x && (match t with
    | .int => x == ("int" : Str) && G.glo x == some .blt
    | .bool => x == ("bool" : Str) && G.glo x == some .blt
    | .str => x == ("str" : Str) && G.glo x == some .blt
    | .list => x == ("list" : Str) && G.glo x == some .blt
    | .tuple => x == ("tuple" : Str) && G.glo x == some .blt
    | .dict => x == ("dict" : Str) && G.glo x == some .blt
    | .cls c => G.glo x == some (.cls c))
  | _ => false
def tysC (G : Gi) (S : Sx) : List Ty → List Expr → Bool
  | [], [] => true
  | t :: ts, e :: es => tyC G S t e && tysC G S ts es
  | _, _ => false
/-- a call's list: nobody starred, or one star alone -/
def noStarL (es : List Expr) : Bool := !es.any isStar
def callC (es : List Expr) : Bool := match es with
  | [] => true
  | e :: es => !isStar e || es.isEmpty
def ck (G : Gi) : Ex → Ck
  | .var i => ckE fun S a => match a with
    | .Name x _ => G.N[i]? == some x && visC S x && !(x == ("__debug__" : Str)) && !(x == ("__classdict__" : Str))
    | _ => false
  | .int i => ckE fun _ a => match a with
    | .Constant (.int j) _ _ => i == j
    | _ => false
  | .str x => ckE fun _ a => match a with
    | .Constant (.str y) _ _ => x == y
    | _ => false
  | .bl b => ckE fun _ a => match a with
    | .Constant (.bool c) _ _ => b == c
    | _ => false
  | .non => ckE fun _ a => match a with
    | .Constant .none _ _ => true
    | _ => false
  | .glob j => ckE fun S a => match a with
    | .Name x _ => glC S x && G.glo x == some (.const j)
    | _ => false
  | .bin op a b => ckE fun S e => match e with
    | .BinOp a' op' b' _ => op' == opOf op && (ck G a).e S a' && (ck G b).e S b'
    | _ => false
  | .neg a => ckE fun S e => match e with
    | .UnaryOp .USub a' _ => (ck G a).e S a'
    | _ => false
  | .not a => ckE fun S e => match e with
    | .UnaryOp .Not a' _ => (ck G a).e S a'
    | _ => false
  | .inv a => ckE fun S e => match e with
    | .UnaryOp .Invert a' _ => (ck G a).e S a'
    | _ => false
  | .and a b => { ckE (fun S e => match e with
      | .BoolOp .And (a' :: b' :: r) _ => (ck G a).e S a' && (ck G b).aL S (b' :: r)
      | _ => false) with aL := fun S es => match es with
      | a' :: b' :: r => (ck G a).e S a' && (ck G b).aL S (b' :: r)
      | [.BoolOp .And (a' :: b' :: r) _] => (ck G a).e S a' && (ck G b).aL S (b' :: r)
      | _ => false }
  | .or a b => { ckE (fun S e => match e with
      | .BoolOp .Or (a' :: b' :: r) _ => (ck G a).e S a' && (ck G b).oL S (b' :: r)
      | _ => false) with oL := fun S es => match es with
      | a' :: b' :: r => (ck G a).e S a' && (ck G b).oL S (b' :: r)
      | [.BoolOp .Or (a' :: b' :: r) _] => (ck G a).e S a' && (ck G b).oL S (b' :: r)
      | _ => false }
  | .cmp op a b => ckE fun S e => match e with
    | .Compare a' [op'] [b'] _ => op' == copOp op && (ck G a).e S a' && (ck G b).e S b' && !behindInMarks op' b'
    | _ => false
  | .cmpB op a b => ckE fun S e => match e with
    | .Compare a' [op'] [b'] _ => op' == copOp op && (ck G a).e S a' && (ck G b).e S b' && !behindInMarks op' b'
    | _ => false
  | .chain o p a b c => ckE fun S e => match e with
    | .Compare a' [o', p'] [b', c'] _ => o' == copOp o && p' == copOp p && (ck G a).e S a' && (ck G b).e S b' && (ck G c).e S c' && !lastMarks [o', p'] [b', c']
    | _ => false
  | .isn a => ckE fun S e => match e with
    | .Compare a' [.Is] [.Constant .none _ _] _ => (ck G a).e S a'
    | _ => false
  | .notn a => ckE fun S e => match e with
    | .Compare a' [.IsNot] [.Constant .none _ _] _ => (ck G a).e S a'
    | _ => false
  | .ifx c a b => ckE fun S e => match e with
    | .IfExp c' a' b' _ => (ck G c).e S c' && (ck G a).e S a' && (ck G b).e S b'
    | _ => false
  | .nil => { ckN with
      l := fun _ es => match es with
        | [] => true
        | _ => false
      f := fun _ es => match es with
        | [] => true
        | _ => false
      o := fun _ oe => match oe with
        | none => true
        | _ => false
      c := fun _ es => match es with
        | [] => true
        | _ => false
      k := fun _ ks => match ks with
        | [] => true
        | _ => false }
  | .cons a r => { ckN with
      l := fun S es => match es with
        | a' :: r' => (ck G a).e S a' && !isStar a' && (ck G r).l S r'
        | _ => false
      f := fun S es => match es with
        | a' :: r' => (ck G a).e S a' && (ck G r).f S r'
        | _ => false
      k := fun S ks => match ks with
        | ⟨some _, a', _⟩ :: r' => (ck G a).e S a' && (ck G r).k S r'
        | _ => false }
  | .star a r => { ckN with
      l := fun S es => match es with
        | .Starred a' _ :: r' => (ck G a).e S a' && (ck G r).l S r'
        | _ => false }
  | .tup as => ckE fun S e => match e with
    | .Tuple es _ _ => (ck G as).l S es
    | _ => false
  | .lst as => ckE fun S e => match e with
    | .List es _ => (ck G as).l S es
    | _ => false
  | .sub a i => ckE fun S e => match e with
    | .Subscript a' i' _ => (ck G a).e S a' && (ck G i).e S i' && plainSl i'
    | _ => false
  | .slice a lo hi => ckE fun S e => match e with
    | .Subscript a' (.Slice lo' hi' none _) _ => (ck G a).e S a' && (ck G lo).o S lo' && (ck G hi).o S hi'
    | _ => false
  | .rev a => ckE fun S e => match e with
    | .Subscript a' (.Slice none none (some (.UnaryOp .USub (.Constant (.int 1) _ _) _)) _) _ => (ck G a).e S a'
    | _ => false
  | .attr a j => ckE fun S e => match e with
    | .Attribute a' f _ => (ck G a).e S a' && G.at_ j == f && noSup a'
    | _ => false
  | .prop a j => ckE fun S e => match e with
    | .Attribute a' f _ => (ck G a).e S a' && G.at_ j == f && noSup a'
    | _ => false
  | .call f as => ckE fun S e => match e with
    | .Call (.Name x _) es [] _ => glC S x && G.glo x == some (.fn f) && (ck G as).l S es && callC es
    | _ => false
  | .callk _ _ _ _ => ckN
  | .new c as => ckE fun S e => match e with
    | .Call (.Name x _) es [] _ => glC S x && G.glo x == some (.cls c) && (ck G as).l S es && callC es && (match G.T.cls[c]? with
      | some k => k.init.isSome
      | none => false)
    | _ => false
  | .newk _ _ _ _ => ckN
  | .meth m o as => ckE fun S e => match e with
    | .Call (.Attribute o' ms apos) es [] pos => (ck G o).e S o' && G.mt m == ms && noSup o' && (ck G as).l S es && noStarL es && decide (es.length < 30) && apos.endLine == pos.line
    | _ => false
  | .methk m o as kas perm => ckE fun S e => match e with
    | .Call (.Attribute o' ms apos) es kws pos => (ck G o).e S o' && G.mt m == ms && noSup o' && (ck G as).l S es && noStarL es && (ck G kas).k S kws && decide (es.length + kws.length < 29) && apos.endLine == pos.line &&
      (match kwNames kws with
      | some ks => G.T.cls.all fun k => k.meths.all fun p => p.1 != m || G.kw p.2 (es.length + 1) ks (permS perm)
      | none => false)
    | _ => false
  | .blt b as => ckE fun S e => match e with
    | .Call (.Name x _) (a :: es) [] _ => bOk b && glC S x && x == bName b && G.glo x == some .blt && (ck G as).l S (a :: es) && noStarL (a :: es)
    | _ => false
  | .isi a ts => ckE fun S e => match e with
    | .Call (.Name x _) [a', c'] [] _ => glC S x && x == ("isinstance" : Str) && G.glo x == some .blt && (ck G a).e S a' && !isStar a' && (match ts, c' with
      | ts, .Tuple es _ _ => decide (ts.length < 100) && tysC G S ts es
      | [t], c' => tyC G S t c'
      | _, _ => false)
    | _ => false
  | .fmt a => ckE fun S e => match e with
    | .FormattedValue a' (-1) none _ => (ck G a).e S a'
    | .JoinedStr [.FormattedValue a' (-1) none _] _ => (ck G a).e S a'
    | _ => false
  | .fstr as => ckE fun S e => match e with
    | .JoinedStr (a :: b :: r) _ => (ck G as).f S (a :: b :: r)
    | _ => false
  | .split a b => ckE fun S e => match e with
    | .Call (.Attribute a' m apos) [b'] [] pos => m == ("split" : Str) && (ck G a).e S a' && (ck G b).e S b' && !isStar b' && noSup a' && apos.endLine == pos.line
    | _ => false
  | .join a b => ckE fun S e => match e with
    | .Call (.Attribute a' m apos) [b'] [] pos => m == ("join" : Str) && (ck G a).e S a' && (ck G b).e S b' && !isStar b' && noSup a' && apos.endLine == pos.line
    | _ => false
  | .comp elt tg one src cond => ckE fun S e => match e with
    | .ListComp elt' [⟨tg', iter, ifs, 0⟩] scope _ => (ck G src).it S tg' iter && blkC G.N S.sc scope (tgNames tg' tg) && decide ((tgNames tg' tg).map (·.2) = tg) && tgC G ⟨relS scope S.sc, fun x => scope.names.lookup x == some .cell⟩ tg' tg one &&
        (ck G elt).e ⟨relS scope S.sc, fun x => scope.names.lookup x == some .cell⟩ elt' && (ck G cond).c ⟨relS scope S.sc, fun x => scope.names.lookup x == some .cell⟩ ifs
    | _ => false
  | .rng a => { ckN with
      it := fun S _ e => match e with
        | .Call (.Name x _) [a'] [] _ => glC S x && x == ("range" : Str) && G.glo x == some .blt && (ck G a).e S a' && !isStar a'
        | _ => false }
  | .rng2 a b => { ckN with
      it := fun S _ e => match e with
        | .Call (.Name x _) [a', b'] [] _ => glC S x && x == ("range" : Str) && G.glo x == some .blt && (ck G a).e S a' && !isStar a' && (ck G b).e S b' && !isStar b'
        | _ => false }
  | .enum a => { ckN with
      it := fun S tg e => match tg, e with
        | .Tuple _ _ _, .Call (.Name x _) [a'] [] _ => glC S x && x == ("enumerate" : Str) && G.glo x == some .blt && (ck G a).e S a' && !isStar a'
        | _, _ => false }
  | .zip _ _ => ckN
end Dv
end
section
set_option Elab.async false
set_option linter.all false
set_option maxRecDepth 100000
set_option maxHeartbeats 4000000
namespace Dv
open PySem PySem.Spec PyProof.Rows L2
/-! ### the look's answer is right: expressions -/
structure Gok (T : Tab) (nm : Nm) (K : PySem.W.Frag) (mg : Str → Option Value) (G : Gi) : Prop where
  at_ : G.at_ = nm.at_
  mt : G.mt = nm.mt
  kw : G.kw = nm.kw
  tab : G.T = T
  fn : ∀ x f, G.glo x = some (.fn f) → mg x = some (.ref (nm.fa f)) ∧ PySem.W.keepIn K (.ref (nm.fa f)) = true
  cls : ∀ x c, G.glo x = some (.cls c) → mg x = some (.ref (nm.ca c))
  blt : ∀ x, G.glo x = some .blt → mg x = none
  const : ∀ x j, G.glo x = some (.const j) → ∃ u v d, mg x = some u ∧ RelV v u ∧ T.consts[j]? = some d ∧ ∀ g H, Rep K nm g H d v
/-- the text, so many calls deep -/
structure Bs (T : Tab) (O : Orc) (nm : Nm) (G : Gi) (P : Program) (w : World) (K : PySem.W.Frag) (mg : Str → Option Value) (base : Heap) (k : Nat) : Prop where
  top : Top T nm K
  gok : Gok T nm K mg G
  fnr : ∀ f, FnR P w K mg base C8.CX0 k (nm.fa f) (spO K nm E0 O f)
  fni : ∀ c k' f, T.cls[c]? = some k' → k'.init = some f → FnR P w K mg base C8.CX0 k (nm.fa f) (spI K nm E0 O c f)
  fnk : ∀ f n ks perm, nm.kw f n ks perm = true → FnK P w K mg base C8.CX0 k (nm.fa f) n ks perm (spO K nm E0 O f)
structure SOk (X : Cx) (G : Gi) (S : Sx) (k : Nat) : Prop where
  sc : X.env.scope = S.sc
  fn : X.fn = S.fn
  N : X.N = G.N
  nd : G.N.Nodup
  calm : X.calm = true
  room : Room (k + 3) X.A
  kind : S.sc.kind = .function
def Good (T : Tab) (O : Orc) (nm : Nm) (G : Gi) (X : Cx) (S : Sx) : Prop := ∃ k, Bs T O nm G X.prog X.w X.K X.mg X.base k ∧ SOk X G S k
section
variable {T : Tab} {O : Orc} {nm : Nm} {G : Gi} {X : Cx} {S : Sx}
theorem near_room {A A' : Around} {k : Nat} (h : Near A A') (r : Room (k + 2) A) : Room k A' := by
  rcases h with rfl | rfl | rfl
  · exact r.mono (by omega)
  · exact (Room.in1 (k := k + 1) r).mono (by omega)
  · exact (Room.in1 (k := k + 1) r).in1
theorem near_env {A A' : Around} {outer : List PySem.Env} {P : Program} {w : World} {K : PySem.W.Frag} {mg : Str → Option Value} {base : Heap} {s : Shared} {H : Hp} (h : Near A A') (e : Env0 P w K mg base A outer s H) : Env0 P w K mg base A' outer s H := by
  rcases h with rfl | rfl | rfl
  · exact e
  · exact e.in1
  · exact e.in1.in1
theorem calls_of {k : Nat} (hF : ∀ f, FnR X.prog X.w X.K X.mg X.base C8.CX0 k (nm.fa f) (spO X.K nm E0 O f)) (hr : Room (k + 2) X.A) : CallsOk X nm E0 O := by
  intro f A' pins s σ H us vs ds cs g Q hn I r co rs p
  refine wpAny_call (codeAny_mono (hF f A' X.stack s H us vs Q E0 (near_room hn hr) (near_env hn I.env0) r ⟨rfl, g, cs, ds, co, rs, p⟩) fun r s' hq => ?_)
  cases r with
  | error e => exact hq.elim
  | ok fl =>
    cases fl with
    | ret u => exact I.after hq
    | next => exact False.elim hq
    | brk => exact False.elim hq
    | cont => exact False.elim hq
theorem Good.ctx (h : Good T O nm G X S) : Ctx T O nm X E0 := by
  obtain ⟨k, b, s⟩ := h
  refine ⟨b.top, s.calm, by rw [s.N]; exact s.nd, s.room.mono (j := 1) (by omega), calls_of b.fnr (s.room.mono (by omega)), C8.CX0, k, s.room, C8.pass0, C8.pass0, b.fnr, b.fni, b.fnk⟩
theorem Good.gok (h : Good T O nm G X S) : Gok T nm X.K X.mg G := by
  obtain ⟨k, b, s⟩ := h
  exact b.gok
theorem Good.sc (h : Good T O nm G X S) : X.env.scope = S.sc := by
  obtain ⟨k, b, s⟩ := h
  exact s.sc
theorem Good.N (h : Good T O nm G X S) : X.N = G.N := by
  obtain ⟨k, b, s⟩ := h
  exact s.N
theorem Good.fn (h : Good T O nm G X S) : X.fn = S.fn := by
  obtain ⟨k, b, s⟩ := h
  exact s.fn
theorem Good.kind (h : Good T O nm G X S) : X.env.scope.kind = .function := by
  obtain ⟨k, b, s⟩ := h
  rw [s.sc]
  exact s.kind
theorem Good.blk (h : Good T O nm G X S) {scope : Scope} (hk : scope.kind = .function) (s : Shared) (H : Hp) (C : Addr) (cl : List (Str × Addr)) (fp : List Addr) : Good T O nm G (X.blk s H scope (compEnvC scope cl C X.env) fp) ⟨relS scope S.sc, fun x => scope.names.lookup x == some .cell⟩ := by
  obtain ⟨k, b, so⟩ := h
  refine ⟨k, b, ?_, rfl, so.N, so.nd, so.calm, so.room, hk⟩
  show relabel scope X.env = relS scope S.sc
  rw [← so.sc]
  rfl
theorem vis_of (g : Good T O nm G X S) {x : Str} (h : visC S x = true) : Vis X.env.scope x := by
  unfold visC at h
  rw [g.sc]
  simp only [Bool.or_eq_true, beq_iff_eq] at h
  rcases h with (h | h) | h
  · exact .inl h
  · exact .inr (.inl h)
  · exact .inr (.inr h)
theorem gl_of (g : Good T O nm G X S) {x : Str} (h : glC S x = true) : Gl X x ∧ (x == ("__debug__" : Str)) = false := by
  unfold glC at h
  simp only [Bool.and_eq_true, beq_iff_eq, Bool.not_eq_true'] at h
  refine ⟨?_, h.2⟩
  show X.env.scope.names.lookup x = some .globalImplicit
  rw [g.sc]
  exact h.1
theorem loc_of (g : Good T O nm G X S) {x : Str} {i : Nat} (h : locC G S i x = true) : X.N[i]? = some x ∧ Loc X.env.scope x ∧ (X.fn x = true ∨ X.env.scope.names.lookup x = some .local) := by
  unfold locC at h
  simp only [Bool.and_eq_true, Bool.or_eq_true, beq_iff_eq] at h
  obtain ⟨⟨h1, h2⟩, h3⟩ := h
  rw [g.sc, g.N, g.fn]
  exact ⟨h1, h2, h3⟩
theorem assignEach_names : ∀ {es : List Expr} {is : List Nat} {env : PySem.Env}, tgsC G S es is = true → (assignEach es env).length = is.length ∧ (assignEach es env).findIdx? (·.1) = none ∧ es.length = is.length
  | [], [], _, _ => ⟨rfl, rfl, rfl⟩
  | [], _ :: _, _, h => by simp [tgsC] at h
  | e :: es, [], _, h => by cases e <;> simp [tgsC] at h
  | e :: es, i :: is, env, h => by
    cases e with
    | Name x p =>
      simp only [tgsC, Bool.and_eq_true] at h
      obtain ⟨h1, h2, h3⟩ := assignEach_names (env := env) h.2
      refine ⟨?_, ?_, ?_⟩
      · simp [assignEach, h1]
      · simp only [assignEach, List.findIdx?_cons, h2]
        rfl
      · simp [h3]
    | _ => simp [tgsC] at h
theorem tgs_of (g : Good T O nm G X S) : ∀ {es : List Expr} {is : List Nat}, tgsC G S es is = true → PGs X es (gTgs is)
  | [], [], _ => tgs_nil
  | [], _ :: _, h => by simp [tgsC] at h
  | e :: es, [], h => by cases e <;> simp [tgsC] at h
  | e :: es, i :: is, h => by
    cases e with
    | Name x p =>
      simp only [tgsC, Bool.and_eq_true] at h
      obtain ⟨h1, h2, h3⟩ := loc_of g h.1
      exact tgs_cons g.ctx.nd h1 h2 h3 (tgs_of g h.2)
    | _ => simp [tgsC] at h
theorem tg_of (g : Good T O nm G X S) {e : Expr} {is : List Nat} {one : Bool} (h : tgC G S e is one = true) : PG X e (tgOf X.K is one) := by
  unfold tgC at h
  split at h
  · obtain ⟨h1, h2, h3⟩ := loc_of g h
    exact tg_name g.ctx.nd h1 h2 h3
  · obtain ⟨h1, h2, _⟩ := assignEach_names (env := X.env) h
    exact tg_tup g.ctx.calm (tgs_of g h) h1 h2
  · cases h
theorem notSet_of {e : Expr} (h : notSet e = true) (env : PySem.Env) (x : Value) : foldedSetIterable e env x = pure x := by
  cases e <;> first | rfl | (exact absurd h (by simp [notSet]))
end
/-- what a plan's look promises -/
structure Snd (T : Tab) (O : Orc) (nm : Nm) (G : Gi) (n : Den) (kk : Ck) : Prop where
  e : ∀ X S a, Good T O nm G X S → kk.e S a = true → DE X nm E0 a n
  l : ∀ X S es, Good T O nm G X S → kk.l S es = true → PA X es (tAs X.K nm E0 n.as)
  lb : ∀ X S es, Good T O nm G X S → kk.l S es = true → noStarL es = true → PA X es (tBs X.K nm E0 n.bs)
  ac : ∀ X S es, Good T O nm G X S → kk.l S es = true → callC es = true → AC X es (tAs X.K nm E0 n.as)
  ln : ∀ S es, kk.l S es = true → noStarL es = true → ∀ ρ cs ds cs', n.as ρ cs = .ok ds cs' → ds.length = es.length
  l0 : ∀ S, kk.l S [] = true → ∀ ρ cs, n.as ρ cs = .ok [] cs
  aL : ∀ X S es pos, Good T O nm G X S → kk.aL S es = true → DW X nm E0 (.BoolOp .And es pos) n
  oL : ∀ X S es pos, Good T O nm G X S → kk.oL S es = true → DW X nm E0 (.BoolOp .Or es pos) n
  f : ∀ X S es, Good T O nm G X S → kk.f S es = true → FJ X nm E0 es n.f
  o : ∀ X S oe, Good T O nm G X S → kk.o S oe = true → PO X oe (tO X.K nm E0 n.o)
  c : ∀ X S es, Good T O nm G X S → kk.c S es = true → PTs X es (tT X.K nm E0 n.c)
  it : ∀ X S tg a, Good T O nm G X S → kk.it S tg a = true → PI X tg a (tI X.K nm E0 n.it) ∧ notSet a = true
  k : ∀ X S ks, Good T O nm G X S → kk.k S ks = true → PK X ks (tAs X.K nm E0 n.as)
  kn : ∀ S ks, kk.k S ks = true → ∀ ρ cs ds cs', n.as ρ cs = .ok ds cs' → ds.length = ks.length
/-- a value, as most are -/
structure Std (n : Den) : Prop where
  it : n.it = fun ρ cs => (n.v ρ cs).bind fun x cs => ofRes cs (items x)
  o : n.o = fun ρ cs => (n.v ρ cs).bind fun x cs => (match x with
    | .int i => .ok (some i) cs
    | _ => .bad)
  c : n.c = n.t
section
variable {T : Tab} {O : Orc} {nm : Nm} {G : Gi} {n : Den}
theorem std_VB (f g : Env → Cells → Res D) : Std (ofVB f g) := ⟨rfl, rfl, rfl⟩
theorem std_VT (f : Env → Cells → Res D) (t : Env → Cells → Res Bool) : Std (ofVT f t) := ⟨rfl, rfl, rfl⟩
theorem snd_e {f : Sx → Expr → Bool} (hs : Std n) (h : ∀ X S a, Good T O nm G X S → f S a = true → DE X nm E0 a n) : Snd T O nm G n (ckE f) where
  e := h
  l := fun X S es g q => nomatch q
  lb := fun X S es g q => nomatch q
  ac := fun X S es g q => nomatch q
  ln := fun S es q => nomatch q
  l0 := fun S q => nomatch q
  aL := fun X S es pos g q => by
    dsimp only [ckE] at q
    split at q
    · exact d_and1 (h X S _ g q)
    · cases q
  oL := fun X S es pos g q => by
    dsimp only [ckE] at q
    split at q
    · exact d_or1 (h X S _ g q)
    · cases q
  f := fun X S es g q => nomatch q
  o := fun X S oe g q => by
    dsimp only [ckE] at q
    split at q
    · rw [hs.o]
      exact d_oS (h X S _ g q).v
    · cases q
  c := fun X S es g q => by
    dsimp only [ckE] at q
    split at q
    · rw [hs.c]
      exact d_if1 (h X S _ g q).t
    · cases q
  it := fun X S tg a g q => by
    have q : (f S a && notSet a) = true := q
    rw [Bool.and_eq_true] at q
    rw [hs.it]
    exact ⟨si_seq (h X S a g q.1).v, q.2⟩
  k := fun X S ks g q => nomatch q
  kn := fun S ks q => nomatch q
/-- nothing is promised -/
theorem snd_none : Snd T O nm G n ckN where
  e := fun X S a g q => nomatch q
  l := fun X S es g q => nomatch q
  lb := fun X S es g q => nomatch q
  ac := fun X S es g q => nomatch q
  ln := fun S es q => nomatch q
  l0 := fun S q => nomatch q
  aL := fun X S es pos g q => nomatch q
  oL := fun X S es pos g q => nomatch q
  f := fun X S es g q => nomatch q
  o := fun X S oe g q => nomatch q
  c := fun X S es g q => nomatch q
  it := fun X S tg a g q => nomatch q
  k := fun X S ks g q => nomatch q
  kn := fun S ks q => nomatch q
end
end Dv
end
section
set_option Elab.async false
set_option linter.all false
set_option maxRecDepth 100000
set_option maxHeartbeats 4000000
namespace Dv
open PySem PySem.Spec PyProof.Rows L2
section
variable {T : Tab} {O : Orc} {nm : Nm} {G : Gi}
abbrev SE (T : Tab) (O : Orc) (nm : Nm) (G : Gi) (e : Ex) : Prop := Snd T O nm G (den T O e) (ck G e)
theorem sn_var (i : Nat) : SE T O nm G (.var i) := snd_e (std_VB _ _) fun X S a g h => by
  split at h
  · rename_i x p
    simp only [Bool.and_eq_true, beq_iff_eq, Bool.not_eq_true'] at h
    obtain ⟨⟨⟨h1, h2⟩, h3⟩, h4⟩ := h
    have hv : PE X (.Name x p) (tVar i) := pe_var (by rw [g.N]; exact h1) (vis_of g h2) h3 h4
    exact .ofB rfl (d_var hv) (d_varB hv)
  · cases h
theorem sn_int (i : Int) : SE T O nm G (.int i) := snd_e (std_VB _ _) fun X S a g h => by
  split at h
  · rw [beq_iff_eq] at h
    subst h
    exact .of rfl (d_c pe_int fun _ _ => .int _)
  · cases h
theorem sn_str (x : Str) : SE T O nm G (.str x) := snd_e (std_VB _ _) fun X S a g h => by
  split at h
  · rw [beq_iff_eq] at h
    subst h
    exact .of rfl (d_c pe_str fun _ _ => .str _)
  · cases h
theorem sn_bl (b : Bool) : SE T O nm G (.bl b) := snd_e (std_VB _ _) fun X S a g h => by
  split at h
  · rw [beq_iff_eq] at h
    subst h
    exact .of rfl (d_c pe_bl fun _ _ => .bl _)
  · cases h
theorem sn_non : SE T O nm G .non := snd_e (std_VB _ _) fun X S a g h => by
  split at h
  · exact .of rfl (d_c pe_non fun _ _ => .non)
  · cases h
theorem sn_glob (j : Nat) : SE T O nm G (.glob j) := snd_e (std_VB _ _) fun X S a g h => by
  split at h
  · rename_i x p
    simp only [Bool.and_eq_true, beq_iff_eq] at h
    obtain ⟨u, v, d, h1, h2, h3, h4⟩ := g.gok.const _ j h.2
    obtain ⟨g1, g2⟩ := gl_of g h.1
    have hv := d_c (nm := nm) (W := E0) (pe_glob (pos := p) g1 h1 h2 g2) h4
    refine .of rfl (hv.imp fun σ H Q q => ?_)
    obtain ⟨gg, ρ, cs, en, c, p⟩ := q
    refine ⟨gg, ρ, cs, en, c, ?_⟩
    have p : Post X.K nm E0 (Rep X.K nm) gg H (ofRes cs T.consts[j]?) Q := p
    rw [h3] at p
    exact p
  · cases h
theorem o_bin {X : Cx} (C : Ctx T O nm X E0) (op : Bop) : OpR X (binaryOp (opOf op)) (rD X.K nm E0 (Rep X.K nm) (Rep X.K nm) (binD T O op)) := by
  cases op with
  | add => exact o_add C
  | sub => exact o_sub C
  | mul => exact o_mul
  | fdiv => exact o_fdiv
  | mod => exact o_mod
  | pow => exact o_pow
theorem sn_bin (op : Bop) {a b : Ex} (ha : SE T O nm G a) (hb : SE T O nm G b) : SE T O nm G (.bin op a b) := snd_e (std_VB _ _) fun X S e g h => by
  split at h
  · simp only [Bool.and_eq_true, beq_iff_eq] at h
    obtain ⟨⟨h1, h2⟩, h3⟩ := h
    subst h1
    exact .of rfl (d_bin (o_bin g.ctx op) (ha.e X S _ g h2).v (hb.e X S _ g h3).v)
  · cases h
theorem sn_neg {a : Ex} (ha : SE T O nm G a) : SE T O nm G (.neg a) := snd_e (std_VB _ _) fun X S e g h => by
  split at h
  · exact d_neg (ha.e X S _ g h)
  · cases h
theorem sn_not {a : Ex} (ha : SE T O nm G a) : SE T O nm G (.not a) := snd_e (std_VT _ _) fun X S e g h => by
  split at h
  · exact d_not (ha.e X S _ g h)
  · cases h
theorem sn_inv {a : Ex} (ha : SE T O nm G a) : SE T O nm G (.inv a) := snd_e (std_VB _ _) fun X S e g h => by
  split at h
  · exact d_inv g.ctx (ha.e X S _ g h)
  · cases h
theorem sn_and {a b : Ex} (ha : SE T O nm G a) (hb : SE T O nm G b) : SE T O nm G (.and a b) := by
  have he : ∀ X S e, Good T O nm G X S → (ck G (.and a b)).e S e = true → DE X nm E0 e (den T O (.and a b)) := fun X S e g h => by
    have h : (match (generalizing := false) e with
      | .BoolOp .And (a' :: b' :: r) _ => (ck G a).e S a' && (ck G b).aL S (b' :: r)
      | _ => false) = true := h
    split at h
    · rw [Bool.and_eq_true] at h
      exact (d_and (ha.e X S _ g h.1) (hb.aL X S _ _ g h.2)).de rfl
    · cases h
  have base := snd_e (T := T) (O := O) (nm := nm) (G := G) (n := den T O (.and a b)) (f := (ck G (.and a b)).e) (std_VT _ _) he
  exact { base with
    aL := fun X S es pos g h => by
      have h : (match (generalizing := false) es with
        | a' :: b' :: r => (ck G a).e S a' && (ck G b).aL S (b' :: r)
        | [.BoolOp .And (a' :: b' :: r) _] => (ck G a).e S a' && (ck G b).aL S (b' :: r)
        | _ => false) = true := h
      split at h
      · rw [Bool.and_eq_true] at h
        exact d_and (ha.e X S _ g h.1) (hb.aL X S _ _ g h.2)
      · exact d_and1 (he X S _ g h)
      · cases h }
theorem sn_or {a b : Ex} (ha : SE T O nm G a) (hb : SE T O nm G b) : SE T O nm G (.or a b) := by
  have he : ∀ X S e, Good T O nm G X S → (ck G (.or a b)).e S e = true → DE X nm E0 e (den T O (.or a b)) := fun X S e g h => by
    have h : (match (generalizing := false) e with
      | .BoolOp .Or (a' :: b' :: r) _ => (ck G a).e S a' && (ck G b).oL S (b' :: r)
      | _ => false) = true := h
    split at h
    · rw [Bool.and_eq_true] at h
      exact (d_or (ha.e X S _ g h.1) (hb.oL X S _ _ g h.2)).de rfl
    · cases h
  have base := snd_e (T := T) (O := O) (nm := nm) (G := G) (n := den T O (.or a b)) (f := (ck G (.or a b)).e) (std_VT _ _) he
  exact { base with
    oL := fun X S es pos g h => by
      have h : (match (generalizing := false) es with
        | a' :: b' :: r => (ck G a).e S a' && (ck G b).oL S (b' :: r)
        | [.BoolOp .Or (a' :: b' :: r) _] => (ck G a).e S a' && (ck G b).oL S (b' :: r)
        | _ => false) = true := h
      split at h
      · rw [Bool.and_eq_true] at h
        exact d_or (ha.e X S _ g h.1) (hb.oL X S _ _ g h.2)
      · exact d_or1 (he X S _ g h)
      · cases h }
theorem sn_cmp (op : Cop) {a b : Ex} (ha : SE T O nm G a) (hb : SE T O nm G b) : SE T O nm G (.cmp op a b) := snd_e (std_VB _ _) fun X S e g h => by
  split at h
  · simp only [Bool.and_eq_true, beq_iff_eq, Bool.not_eq_true'] at h
    obtain ⟨⟨⟨h1, h2⟩, h3⟩, h4⟩ := h
    subst h1
    exact d_cmpE (o_cmp g.ctx op) (ha.e X S _ g h2) (hb.e X S _ g h3) h4 cmpD_bl
  · cases h
theorem sn_cmpB (op : Cop) {a b : Ex} (ha : SE T O nm G a) (hb : SE T O nm G b) : SE T O nm G (.cmpB op a b) := snd_e (std_VB _ _) fun X S e g h => by
  split at h
  · simp only [Bool.and_eq_true, beq_iff_eq, Bool.not_eq_true'] at h
    obtain ⟨⟨⟨h1, h2⟩, h3⟩, h4⟩ := h
    subst h1
    exact d_cmpBE (o_cmpB g.ctx op) (ha.e X S _ g h2) (hb.e X S _ g h3) h4 cmpBD_bl
  · cases h
theorem sn_chain (o p : Cop) {a b c : Ex} (ha : SE T O nm G a) (hb : SE T O nm G b) (hc : SE T O nm G c) : SE T O nm G (.chain o p a b c) := snd_e (std_VB _ _) fun X S e g h => by
  split at h
  · simp only [Bool.and_eq_true, beq_iff_eq, Bool.not_eq_true'] at h
    obtain ⟨⟨⟨⟨⟨h1, h2⟩, h3⟩, h4⟩, h5⟩, h6⟩ := h
    subst h1 h2
    exact d_chain (o_cmp g.ctx o) (o_cmp g.ctx p) (ha.e X S _ g h3) (hb.e X S _ g h4) (hc.e X S _ g h5) cmpD_bl cmpD_bl h6
  · cases h
theorem sn_isn {a : Ex} (ha : SE T O nm G a) : SE T O nm G (.isn a) := snd_e (std_VB _ _) fun X S e g h => by
  split at h
  · exact d_isN (ha.e X S _ g h)
  · cases h
theorem sn_notn {a : Ex} (ha : SE T O nm G a) : SE T O nm G (.notn a) := snd_e (std_VB _ _) fun X S e g h => by
  split at h
  · exact d_notN (ha.e X S _ g h)
  · cases h
theorem sn_ifx {c a b : Ex} (hc : SE T O nm G c) (ha : SE T O nm G a) (hb : SE T O nm G b) : SE T O nm G (.ifx c a b) := snd_e (std_VT _ _) fun X S e g h => by
  split at h
  · simp only [Bool.and_eq_true] at h
    exact d_ifx (hc.e X S _ g h.1.1) (ha.e X S _ g h.1.2) (hb.e X S _ g h.2)
  · cases h
end
end Dv
end
section
set_option Elab.async false
set_option linter.all false
set_option maxRecDepth 100000
set_option maxHeartbeats 4000000
namespace Dv
open PySem PySem.Spec PyProof.Rows L2
section
variable {T : Tab} {O : Orc} {nm : Nm} {G : Gi}
theorem sn_nil : SE T O nm G .nil where
  e := fun X S a g q => nomatch q
  l := fun X S es g h => by
    have h : (match (generalizing := false) es with | [] => true | _ => false) = true := h
    split at h
    · exact d_nil
    · cases h
  lb := fun X S es g h _ => by
    have h : (match (generalizing := false) es with | [] => true | _ => false) = true := h
    split at h
    · exact d_nilB
    · cases h
  ac := fun X S es g h _ => by
    have h : (match (generalizing := false) es with | [] => true | _ => false) = true := h
    split at h
    · exact AC.nil
    · cases h
  ln := fun S es h _ ρ cs ds cs' q => by
    have h : (match (generalizing := false) es with | [] => true | _ => false) = true := h
    split at h
    · have q : Res.ok [] cs = .ok ds cs' := q
      cases q
      rfl
    · cases h
  l0 := fun S h ρ cs => rfl
  aL := fun X S es pos g q => nomatch q
  oL := fun X S es pos g q => nomatch q
  f := fun X S es g h => by
    have h : (match (generalizing := false) es with | [] => true | _ => false) = true := h
    split at h
    · exact fj_nil
    · cases h
  o := fun X S oe g h => by
    have h : (match (generalizing := false) oe with | none => true | _ => false) = true := h
    split at h
    · exact d_oN
    · cases h
  c := fun X S es g h => by
    have h : (match (generalizing := false) es with | [] => true | _ => false) = true := h
    split at h
    · exact d_if0
    · cases h
  it := fun X S tg a g q => nomatch q
  k := fun X S ks g h => by
    have h : (match (generalizing := false) ks with | [] => true | _ => false) = true := h
    split at h
    · exact d_pkNil
    · cases h
  kn := fun S ks h ρ cs ds cs' q => by
    have h : (match (generalizing := false) ks with | [] => true | _ => false) = true := h
    split at h
    · have q : Res.ok [] cs = .ok ds cs' := q
      cases q
      rfl
    · cases h
theorem as_len {a r : Ex} {n : Nat} {ρ : Env} {cs cs' : Cells} {ds : List D} (hr : ∀ cs ds cs', (den T O r).as ρ cs = .ok ds cs' → ds.length = n) (h : (den T O (.cons a r)).as ρ cs = .ok ds cs') : ds.length = n + 1 := by
  have h : (((den T O a).v ρ cs).bind fun x cs => ((den T O r).as ρ cs).bind fun xs cs => .ok (x :: xs) cs) = .ok ds cs' := h
  cases e1 : (den T O a).v ρ cs with
  | ok x cs1 =>
    rw [e1] at h
    have h : (((den T O r).as ρ cs1).bind fun xs cs => .ok (x :: xs) cs) = .ok ds cs' := h
    cases e2 : (den T O r).as ρ cs1 with
    | ok xs cs2 =>
      rw [e2] at h
      cases h
      rw [List.length_cons, hr _ _ _ e2]
    | exc _ _ => rw [e2] at h; cases h
    | bad => rw [e2] at h; cases h
  | exc _ _ => rw [e1] at h; cases h
  | bad => rw [e1] at h; cases h
theorem noStar_cons {a : Expr} {es : List Expr} (h : noStarL (a :: es) = true) : isStar a = false ∧ noStarL es = true := by
  unfold noStarL at h ⊢
  simp only [List.any_cons, Bool.not_or, Bool.and_eq_true, Bool.not_eq_true'] at h
  exact ⟨h.1, by simpa using h.2⟩
theorem sn_cons {a r : Ex} (ha : SE T O nm G a) (hr : SE T O nm G r) : SE T O nm G (.cons a r) where
  e := fun X S a g q => nomatch q
  l := fun X S es g h => by
    have h : (match (generalizing := false) es with
      | a' :: r' => (ck G a).e S a' && !isStar a' && (ck G r).l S r'
      | _ => false) = true := h
    split at h
    · simp only [Bool.and_eq_true, Bool.not_eq_true'] at h
      exact d_cons (isStar_not h.1.2) (ha.e X S _ g h.1.1).v (hr.l X S _ g h.2)
    · cases h
  lb := fun X S es g h hn => by
    have h : (match (generalizing := false) es with
      | a' :: r' => (ck G a).e S a' && !isStar a' && (ck G r).l S r'
      | _ => false) = true := h
    split at h
    · simp only [Bool.and_eq_true, Bool.not_eq_true'] at h
      exact d_consB (isStar_not h.1.2) (ha.e X S _ g h.1.1).b (hr.lb X S _ g h.2 (noStar_cons hn).2)
    · cases h
  ac := fun X S es g h _ => by
    have h : (match (generalizing := false) es with
      | a' :: r' => (ck G a).e S a' && !isStar a' && (ck G r).l S r'
      | _ => false) = true := h
    split at h
    · simp only [Bool.and_eq_true, Bool.not_eq_true'] at h
      exact AC.cons h.1.2 (d_cons (isStar_not h.1.2) (ha.e X S _ g h.1.1).v (hr.l X S _ g h.2))
    · cases h
  ln := fun S es h hn ρ cs ds cs' q => by
    have h : (match (generalizing := false) es with
      | a' :: r' => (ck G a).e S a' && !isStar a' && (ck G r).l S r'
      | _ => false) = true := h
    split at h
    · simp only [Bool.and_eq_true, Bool.not_eq_true'] at h
      exact as_len (fun cs ds cs' q => hr.ln S _ h.2 (noStar_cons hn).2 ρ cs ds cs' q) q
    · cases h
  l0 := fun S h ρ cs => nomatch h
  aL := fun X S es pos g q => nomatch q
  oL := fun X S es pos g q => nomatch q
  f := fun X S es g h => by
    have h : (match (generalizing := false) es with
      | a' :: r' => (ck G a).e S a' && (ck G r).f S r'
      | _ => false) = true := h
    split at h
    · simp only [Bool.and_eq_true] at h
      exact fj_cons (ha.e X S _ g h.1).v (hr.f X S _ g h.2)
    · cases h
  o := fun X S oe g h => nomatch h
  c := fun X S es g h => nomatch h
  it := fun X S tg a g q => nomatch q
  k := fun X S ks g h => by
    have h : (match (generalizing := false) ks with
      | ⟨some _, a', _⟩ :: r' => (ck G a).e S a' && (ck G r).k S r'
      | _ => false) = true := h
    split at h
    · simp only [Bool.and_eq_true] at h
      exact d_pkCons (ha.e X S _ g h.1).v (hr.k X S _ g h.2)
    · cases h
  kn := fun S ks h ρ cs ds cs' q => by
    have h : (match (generalizing := false) ks with
      | ⟨some _, a', _⟩ :: r' => (ck G a).e S a' && (ck G r).k S r'
      | _ => false) = true := h
    split at h
    · simp only [Bool.and_eq_true] at h
      exact as_len (fun cs ds cs' q => hr.kn S _ h.2 ρ cs ds cs' q) q
    · cases h
theorem sn_star {a r : Ex} (ha : SE T O nm G a) (hr : SE T O nm G r) : SE T O nm G (.star a r) where
  e := fun X S a g q => nomatch q
  l := fun X S es g h => by
    have h : (match (generalizing := false) es with
      | .Starred a' _ :: r' => (ck G a).e S a' && (ck G r).l S r'
      | _ => false) = true := h
    split at h
    · simp only [Bool.and_eq_true] at h
      exact d_star (ha.e X S _ g h.1).b (hr.l X S _ g h.2)
    · cases h
  lb := fun X S es g h hn => by
    have h : (match (generalizing := false) es with
      | .Starred a' _ :: r' => (ck G a).e S a' && (ck G r).l S r'
      | _ => false) = true := h
    split at h
    · exact absurd (noStar_cons hn).1 (by simp [isStar])
    · cases h
  ac := fun X S es g h hc => by
    have h : (match (generalizing := false) es with
      | .Starred a' _ :: r' => (ck G a).e S a' && (ck G r).l S r'
      | _ => false) = true := h
    split at h
    · rename_i a' p r' _
      simp only [Bool.and_eq_true] at h
      have hc : (!isStar (.Starred a' p) || r'.isEmpty) = true := hc
      have hc : r' = [] := by simpa [isStar] using hc
      subst hc
      have e : (den T O (.star a r)).as = fun ρ cs => ((den T O a).b ρ cs).bind fun x cs => (match seqOf x cs with
        | some ds => (Res.ok [] cs).bind fun xs cs => .ok (ds ++ xs) cs
        | none => .bad) := by
        funext ρ cs
        show (((den T O a).b ρ cs).bind fun x cs => (match seqOf x cs with
          | some ds => ((den T O r).as ρ cs).bind fun xs cs => .ok (ds ++ xs) cs
          | none => .bad)) = _
        refine bind_kk ?_
        funext x cs1
        rw [hr.l0 S h.2 ρ cs1]
      rw [e]
      exact AC.lone (ha.e X S _ g h.1).b
    · cases h
  ln := fun S es h hn ρ cs ds cs' q => by
    have h : (match (generalizing := false) es with
      | .Starred a' _ :: r' => (ck G a).e S a' && (ck G r).l S r'
      | _ => false) = true := h
    split at h
    · exact absurd (noStar_cons hn).1 (by simp [isStar])
    · cases h
  l0 := fun S h ρ cs => nomatch h
  aL := fun X S es pos g q => nomatch q
  oL := fun X S es pos g q => nomatch q
  f := fun X S es g h => nomatch h
  o := fun X S oe g h => nomatch h
  c := fun X S es g h => nomatch h
  it := fun X S tg a g q => nomatch q
  k := fun X S ks g h => nomatch h
  kn := fun S ks h => nomatch h
theorem sn_tup {as : Ex} (ha : SE T O nm G as) : SE T O nm G (.tup as) := snd_e (std_VB _ _) fun X S e g h => by
  split at h
  · exact .of rfl (d_tup (ha.l X S _ g h))
  · cases h
theorem sn_lst {as : Ex} (ha : SE T O nm G as) : SE T O nm G (.lst as) := snd_e (std_VB _ _) fun X S e g h => by
  split at h
  · exact .of rfl (d_lst (ha.l X S _ g h))
  · cases h
theorem sn_sub {a i : Ex} (ha : SE T O nm G a) (hi : SE T O nm G i) : SE T O nm G (.sub a i) := snd_e (std_VB _ _) fun X S e g h => by
  split at h
  · simp only [Bool.and_eq_true] at h
    exact .of rfl (d_sub g.ctx (ha.e X S _ g h.1.1).b (hi.e X S _ g h.1.2).v h.2)
  · cases h
theorem sn_slice {a lo hi : Ex} (ha : SE T O nm G a) (hl : SE T O nm G lo) (hh : SE T O nm G hi) : SE T O nm G (.slice a lo hi) := snd_e (std_VB _ _) fun X S e g h => by
  split at h
  · simp only [Bool.and_eq_true] at h
    exact .of rfl (d_slice (ha.e X S _ g h.1.1).b (hl.o X S _ g h.1.2) (hh.o X S _ g h.2))
  · cases h
theorem sn_rev {a : Ex} (ha : SE T O nm G a) : SE T O nm G (.rev a) := snd_e (std_VB _ _) fun X S e g h => by
  split at h
  · exact .of rfl (d_rev (ha.e X S _ g h).b)
  · cases h
theorem name_var {i : Nat} {X : Cx} {S : Sx} {a : Expr} (g : Good T O nm G X S) (h : (ck G (.var i)).e S a = true) : PE X a (tG X.K nm E0 (ARep X.K nm) fun ρ cs => ofRes cs (getA ρ i)) := by
  have h : (match (generalizing := false) a with
    | .Name x _ => G.N[i]? == some x && visC S x && !(x == ("__debug__" : Str)) && !(x == ("__classdict__" : Str))
    | _ => false) = true := h
  split at h
  · rename_i x p
    simp only [Bool.and_eq_true, beq_iff_eq, Bool.not_eq_true'] at h
    obtain ⟨⟨⟨h1, h2⟩, h3⟩, h4⟩ := h
    exact arep_var (pe_var (by rw [g.N]; exact h1) (vis_of g h2) h3 h4)
  · cases h
theorem sn_attr {a : Ex} (j : Nat) (ha : SE T O nm G a) : SE T O nm G (.attr a j) := snd_e (std_VB _ _) fun X S e g h => by
  split at h
  · rename_i a' f pos
    simp only [Bool.and_eq_true, beq_iff_eq] at h
    have hf := h.1.2
    rw [g.gok.at_] at hf
    have hb : PE X a' (tG X.K nm E0 (ARep X.K nm) (baseA a (den T O a).v)) := by
      cases a with
      | var i => exact name_var g h.1.1
      | _ => exact arep_of (ha.e X S _ g h.1.1).v
    exact .of rfl (d_attr g.ctx.top hf h.2 hb)
  · cases h
theorem sn_prop {a : Ex} (j : Nat) (ha : SE T O nm G a) : SE T O nm G (.prop a j) := snd_e (std_VB _ _) fun X S e g h => by
  split at h
  · simp only [Bool.and_eq_true, beq_iff_eq] at h
    have hf := h.1.2
    rw [g.gok.at_] at hf
    exact .of rfl (d_prop g.ctx hf h.2 (ha.e X S _ g h.1.1).v)
  · cases h
theorem sn_call (f : Nat) {as : Ex} (ha : SE T O nm G as) : SE T O nm G (.call f as) := snd_e (std_VB _ _) fun X S e g h => by
  split at h
  · simp only [Bool.and_eq_true, beq_iff_eq] at h
    obtain ⟨⟨⟨h1, h2⟩, h3⟩, h4⟩ := h
    obtain ⟨g1, g2⟩ := gl_of g h1
    obtain ⟨m1, m2⟩ := g.gok.fn _ _ h2
    exact .of rfl (d_call g.ctx g1 m1 m2 (ha.ac X S _ g h3 h4) g2)
  · cases h
theorem sn_new (c : Nat) {as : Ex} (ha : SE T O nm G as) : SE T O nm G (.new c as) := snd_e (std_VB _ _) fun X S e g h => by
  split at h
  · simp only [Bool.and_eq_true, beq_iff_eq] at h
    obtain ⟨⟨⟨⟨h1, h2⟩, h3⟩, h4⟩, h5⟩ := h
    obtain ⟨g1, g2⟩ := gl_of g h1
    have m1 := g.gok.cls _ _ h2
    rw [g.gok.tab] at h5
    have hki : ∃ k f, T.cls[c]? = some k ∧ k.init = some f := by
      cases hk : T.cls[c]? with
      | none => rw [hk] at h5; cases h5
      | some k =>
        rw [hk] at h5
        obtain ⟨f, hf⟩ := Option.isSome_iff_exists.mp h5
        exact ⟨k, f, rfl, hf⟩
    exact .of rfl (d_new g.ctx g1 m1 (ha.ac X S _ g h3 h4) g2 hki)
  · cases h
theorem callC_ns {es : List Expr} (h : noStarL es = true) : callC es = true := by
  cases es with
  | nil => rfl
  | cons e es =>
    show (!isStar e || es.isEmpty) = true
    rw [(noStar_cons h).1]
    rfl
theorem any_ns {es : List Expr} (h : noStarL es = true) : es.any isStar = false := by
  unfold noStarL at h
  simpa using h
theorem sn_meth (m : Nat) {o as : Ex} (ho : SE T O nm G o) (ha : SE T O nm G as) : SE T O nm G (.meth m o as) := snd_e (std_VB _ _) fun X S e g h => by
  split at h
  · simp only [Bool.and_eq_true, beq_iff_eq, decide_eq_true_eq] at h
    obtain ⟨⟨⟨⟨⟨⟨h1, h2⟩, h3⟩, h4⟩, h5⟩, h6⟩, h7⟩ := h
    rw [g.gok.mt] at h2
    exact .of rfl (d_meth g.ctx h2 h3 (any_ns h5) h6 (by rw [h7]; simp) (ho.e X S _ g h1).v (ha.ac X S _ g h4 (callC_ns h5)))
  · cases h
theorem mem_lk : ∀ {l : List (Nat × Nat)} {m f : Nat}, l.lookup m = some f → (m, f) ∈ l
  | [], _, _, h => by cases h
  | (a, b) :: l, m, f, h => by
    unfold List.lookup at h
    split at h
    · rename_i e
      rw [beq_iff_eq] at e
      cases h
      subst e
      exact List.mem_cons_self
    · exact List.mem_cons_of_mem _ (mem_lk h)
theorem sn_methk (m : Nat) (perm : List Nat) {o as kas : Ex} (ho : SE T O nm G o) (ha : SE T O nm G as) (hk : SE T O nm G kas) : SE T O nm G (.methk m o as kas perm) := snd_e (std_VB _ _) fun X S e g h => by
  split at h
  · rename_i o' ms apos es kws pos
    simp only [Bool.and_eq_true, beq_iff_eq, decide_eq_true_eq] at h
    obtain ⟨⟨⟨⟨⟨⟨⟨⟨h1, h2⟩, h3⟩, h4⟩, h5⟩, h6⟩, h7⟩, h8⟩, h9⟩ := h
    rw [g.gok.mt] at h2
    cases hn : kwNames kws with
    | none => rw [hn] at h9; cases h9
    | some ks =>
      rw [hn] at h9
      have h9 : (G.T.cls.all fun k => k.meths.all fun p => p.1 != m || G.kw p.2 (es.length + 1) ks (permS perm)) = true := h9
      rw [g.gok.tab, g.gok.kw] at h9
      have hl := (kwNames_all pos X.env hn).2.2.2
      refine .of rfl (d_methk (n := es.length) g.ctx h2 h3 (any_ns h5) h7 (by rw [h8]; simp) (fun e => ?_) hn (ha.ln S es h4 h5) (fun ρ cs ds cs' q => by rw [← hl]; exact hk.kn S kws h6 ρ cs ds cs' q) (fun c f hm => ?_) (ho.e X S _ g h1).v (ha.l X S _ g h4) (hk.k X S _ g h6))
      · subst e
        exact ha.l0 S h4
      · unfold methOf at hm
        cases hc : T.cls[c]? with
        | none => rw [hc] at hm; cases hm
        | some k =>
          rw [hc] at hm
          have hm : k.meths.lookup m = some f := hm
          have z := List.all_eq_true.mp h9 k (List.mem_of_getElem? hc)
          have z := List.all_eq_true.mp z (m, f) (mem_lk hm)
          simpa using z
  · cases h
end
end Dv
end
section
set_option Elab.async false
set_option linter.all false
set_option maxRecDepth 100000
set_option maxHeartbeats 4000000
namespace Dv
open PySem PySem.Spec PyProof.Rows L2
section
variable {T : Tab} {O : Orc} {nm : Nm} {G : Gi}
/-! ### built-in functions -/
theorem d_bs {X : Cx} {e : Expr} {b : Blt} {fs : Env → Cells → Res (List D)} (h : PE X e (tCB (rB T O X nm E0 b) (tBs X.K nm E0 fs))) : PE X e (tV X.K nm E0 fun ρ cs => (fs ρ cs).bind fun ds cs => bltD T O b ds cs) := h.imp fun σ H Q q => by
  obtain ⟨g, ρ, cs, en, c, p⟩ := q
  refine ⟨g, ρ, cs, en, c, (Post.bind (R := BReps X.K nm) p).imp ?_⟩
  rintro x H1 ⟨dx, g1, cs1, e1, c1, r1, p1⟩
  exact ⟨g1, cs1, dx, c1, r1, p1⟩
theorem blt_fn {X : Cx} {x : Str} {id : String} {b : Blt} {a : Expr} {es : List Expr} {p pos : Pos} {fs : Env → Cells → Res (List D)} (hc : CallR X (.builtin id) (rB T O X nm E0 b)) (hg : Gl X x) (hm : X.mg x = none) (hv : bootBuiltins x = some (.builtin id)) (hn : x ≠ "__name__") (hd : (x == ("__debug__" : Str)) = false)
    (ha : PA X (a :: es) (tBs X.K nm E0 fs)) (hs : noStarL (a :: es) = true) : PE X (.Call (.Name x p) (a :: es) [] pos) (tV X.K nm E0 fun ρ cs => (fs ρ cs).bind fun ds cs => bltD T O b ds cs) :=
  d_bs (pe_callB hc hg hm hv ha hn hd (star_not (isStar_not (noStar_cons hs).1)) (by rw [any_star]; exact any_ns (noStar_cons hs).2))
theorem blt_ty {X : Cx} {x : Str} {id : String} {b : Blt} {a : Expr} {es : List Expr} {p pos : Pos} {fs : Env → Cells → Res (List D)} (hc : CallR X (.type id) (rB T O X nm E0 b)) (hg : Gl X x) (hm : X.mg x = none) (hv : bootBuiltins x = some (.type id)) (hn : x ≠ "__name__") (hd : (x == ("__debug__" : Str)) = false)
    (ha : PA X (a :: es) (tBs X.K nm E0 fs)) (hs : noStarL (a :: es) = true) : PE X (.Call (.Name x p) (a :: es) [] pos) (tV X.K nm E0 fun ρ cs => (fs ρ cs).bind fun ds cs => bltD T O b ds cs) :=
  d_bs (pe_callTy hc hg hm hv ha hn hd (star_not (isStar_not (noStar_cons hs).1)) (by rw [any_star]; exact any_ns (noStar_cons hs).2))
theorem sn_blt (b : Blt) {as : Ex} (ha : SE T O nm G as) : SE T O nm G (.blt b as) := snd_e (std_VB _ _) fun X S e g h => by
  split at h
  · simp only [Bool.and_eq_true, beq_iff_eq] at h
    obtain ⟨⟨⟨⟨⟨h0, h1⟩, h2⟩, h3⟩, h4⟩, h5⟩ := h
    subst h2
    obtain ⟨g1, g2⟩ := gl_of g h1
    have m1 := g.gok.blt _ h3
    have hA := ha.lb X S _ g h4 h5
    have C := g.ctx
    cases b with
    | len => exact .of rfl (blt_fn (b_len C) g1 m1 (by kernel_rfl) (by decide) g2 hA h5)
    | int => exact .of rfl (blt_ty (b_int C) g1 m1 (by kernel_rfl) (by decide) g2 hA h5)
    | bool => cases h0
    | str => exact .of rfl (blt_ty (b_str C) g1 m1 (by kernel_rfl) (by decide) g2 hA h5)
    | sum => exact .of rfl (blt_fn (b_sum C) g1 m1 (by kernel_rfl) (by decide) g2 hA h5)
    | all => exact .of rfl (blt_fn (b_all C) g1 m1 (by kernel_rfl) (by decide) g2 hA h5)
    | any => exact .of rfl (blt_fn (b_any C) g1 m1 (by kernel_rfl) (by decide) g2 hA h5)
    | abs => exact .of rfl (blt_fn (b_abs C) g1 m1 (by kernel_rfl) (by decide) g2 hA h5)
    | tuple => exact .of rfl (blt_ty (b_tuple C) g1 m1 (by kernel_rfl) (by decide) g2 hA h5)
    | list => exact .of rfl (blt_ty (b_list C) g1 m1 (by kernel_rfl) (by decide) g2 hA h5)
    | sorted => exact .of rfl (blt_fn (b_sorted C) g1 m1 (by kernel_rfl) (by decide) g2 hA h5)
    | max => cases h0
    | min => cases h0
    | max2 => exact .of rfl (blt_fn (b_max2 C) g1 m1 (by kernel_rfl) (by decide) g2 hA h5)
    | min2 => exact .of rfl (blt_fn (b_min2 C) g1 m1 (by kernel_rfl) (by decide) g2 hA h5)
  · cases h
/-! ### isinstance -/
theorem ty_of {X : Cx} {S : Sx} (g : Good T O nm G X S) {t : Ty} {e : Expr} (h : tyC G S t e = true) : PE X e (tC (tyVV nm t)) ∧ isStar e = false := by
  unfold tyC at h
  split at h
  · rw [Bool.and_eq_true] at h
    obtain ⟨g1, g2⟩ := gl_of g h.1
    refine ⟨?_, rfl⟩
    have h2 := h.2
    cases t with
    | int =>
      simp only [Bool.and_eq_true, beq_iff_eq] at h2
      obtain ⟨rfl, h2⟩ := h2
      exact pe_bltn g1 (g.gok.blt _ h2) (by kernel_rfl) rfl (by decide) g2
    | bool =>
      simp only [Bool.and_eq_true, beq_iff_eq] at h2
      obtain ⟨rfl, h2⟩ := h2
      exact pe_bltn g1 (g.gok.blt _ h2) (by kernel_rfl) rfl (by decide) g2
    | str =>
      simp only [Bool.and_eq_true, beq_iff_eq] at h2
      obtain ⟨rfl, h2⟩ := h2
      exact pe_bltn g1 (g.gok.blt _ h2) (by kernel_rfl) rfl (by decide) g2
    | list =>
      simp only [Bool.and_eq_true, beq_iff_eq] at h2
      obtain ⟨rfl, h2⟩ := h2
      exact pe_bltn g1 (g.gok.blt _ h2) (by kernel_rfl) rfl (by decide) g2
    | tuple =>
      simp only [Bool.and_eq_true, beq_iff_eq] at h2
      obtain ⟨rfl, h2⟩ := h2
      exact pe_bltn g1 (g.gok.blt _ h2) (by kernel_rfl) rfl (by decide) g2
    | dict =>
      simp only [Bool.and_eq_true, beq_iff_eq] at h2
      obtain ⟨rfl, h2⟩ := h2
      exact pe_bltn g1 (g.gok.blt _ h2) (by kernel_rfl) rfl (by decide) g2
    | cls c =>
      have h2 : (G.glo _ == some (.cls c)) = true := h2
      rw [beq_iff_eq] at h2
      exact pe_glob g1 (g.gok.cls _ _ h2) rfl g2
  · cases h
theorem tys_of {X : Cx} {S : Sx} (g : Good T O nm G X S) : ∀ {ts : List Ty} {es : List Expr}, tysC G S ts es = true → PA X es (fun _ H Q => Q (ts.map (tyVV nm)) H) ∧ ts.length = es.length
  | [], [], _ => ⟨⟨fun _ _ _ _ H Q I h => Calls.spliced_nil ⟨[], H, I, .nil, h⟩⟩, rfl⟩
  | [], _ :: _, h => by simp [tysC] at h
  | _ :: _, [], h => by simp [tysC] at h
  | t :: ts, e :: es, h => by
    simp only [tysC, Bool.and_eq_true] at h
    obtain ⟨h1, h2⟩ := ty_of g h.1
    obtain ⟨h3, h4⟩ := tys_of g h.2
    exact ⟨(pa_cons h1 h3 (star_not (isStar_not h2))).imp fun σ H Q q => q, by simp [h4]⟩
theorem sn_isi (ts : List Ty) {a : Ex} (ha : SE T O nm G a) : SE T O nm G (.isi a ts) := snd_e (std_VB _ _) fun X S e g h => by
  split at h
  · rename_i x p a' c' pos
    simp only [Bool.and_eq_true, beq_iff_eq, Bool.not_eq_true'] at h
    obtain ⟨⟨⟨⟨⟨h1, h2⟩, h3⟩, h4⟩, h5⟩, h6⟩ := h
    subst h2
    obtain ⟨g1, g2⟩ := gl_of g h1
    have m1 := g.gok.blt _ h3
    split at h6
    · rw [Bool.and_eq_true, decide_eq_true_eq] at h6
      obtain ⟨q1, q2⟩ := tys_of g h6.2
      have hz : ts.length ≤ sizeLine := by rw [sizeLine_eq]; omega
      exact .of rfl (d_isiT g.ctx.top g1 m1 h5 (ha.e X S _ g h4).v hz q1)
    · obtain ⟨q1, q2⟩ := ty_of g h6
      exact .of rfl (d_isi1 g.ctx.top g1 m1 h5 (ha.e X S _ g h4).v q2 q1)
    · cases h6
  · cases h
/-! ### texts -/
theorem sn_fmt {a : Ex} (ha : SE T O nm G a) : SE T O nm G (.fmt a) := snd_e (std_VB _ _) fun X S e g h => by
  split at h
  · exact .of rfl (d_fmt (ha.e X S _ g h).v)
  · exact .of rfl (d_fstr1 (d_fmt (ha.e X S _ g h).v))
  · cases h
theorem sn_fstr {as : Ex} (ha : SE T O nm G as) : SE T O nm G (.fstr as) := snd_e (std_VB _ _) fun X S e g h => by
  split at h
  · exact .of rfl (d_fstr (ha.f X S _ g h))
  · cases h
theorem sn_split {a b : Ex} (ha : SE T O nm G a) (hb : SE T O nm G b) : SE T O nm G (.split a b) := snd_e (std_VB _ _) fun X S e g h => by
  split at h
  · simp only [Bool.and_eq_true, beq_iff_eq, Bool.not_eq_true'] at h
    obtain ⟨⟨⟨⟨⟨rfl, h2⟩, h3⟩, h4⟩, h5⟩, h6⟩ := h
    exact .of rfl (d_split (ha.e X S _ g h2).v (hb.e X S _ g h3).v h4 h5 (by rw [h6]; simp))
  · cases h
theorem sn_join {a b : Ex} (ha : SE T O nm G a) (hb : SE T O nm G b) : SE T O nm G (.join a b) := snd_e (std_VB _ _) fun X S e g h => by
  split at h
  · simp only [Bool.and_eq_true, beq_iff_eq, Bool.not_eq_true'] at h
    obtain ⟨⟨⟨⟨⟨rfl, h2⟩, h3⟩, h4⟩, h5⟩, h6⟩ := h
    exact .of rfl (d_join (ha.e X S _ g h2).v (hb.e X S _ g h3).b h4 h5 (by rw [h6]; simp))
  · cases h
/-! ### comprehensions, what is walked -/
theorem blk_kind {N : List Str} {sc scope : Scope} {own : List (Str × Nat)} (h : blkC N sc scope own = true) : scope.kind = .function := (blkOk_by h).kind
theorem sn_comp (tg : List Nat) (one : Bool) {elt src cond : Ex} (h1 : SE T O nm G elt) (h2 : SE T O nm G src) (h3 : SE T O nm G cond) : SE T O nm G (.comp elt tg one src cond) := snd_e (std_VB _ _) fun X S e g h => by
  split at h
  · simp only [Bool.and_eq_true, decide_eq_true_eq] at h
    obtain ⟨⟨⟨⟨⟨q1, q2⟩, q3⟩, q4⟩, q5⟩, q6⟩ := h
    obtain ⟨i1, i2⟩ := h2.it X S _ _ g q1
    have hk := blk_kind q2
    rw [← g.N, ← g.sc] at q2
    exact .of rfl (d_comp g.ctx.calm g.ctx.nd i1 (blkOk_by q2) q3 (fun s H C cl fp => tg_of (g.blk hk s H C cl fp) q4) (fun s H C cl fp => h3.c _ _ _ (g.blk hk s H C cl fp) q6) (fun s H C cl fp => (h1.e _ _ _ (g.blk hk s H C cl fp) q5).v) (notSet_of i2 _))
  · cases h
theorem snd_it {n : Den} {f : Sx → Expr → Expr → Bool} (h : ∀ X S tg a, Good T O nm G X S → f S tg a = true → PI X tg a (tI X.K nm E0 n.it) ∧ notSet a = true) : Snd T O nm G n { ckN with it := f } := { snd_none with it := h }
theorem sn_rng {a : Ex} (ha : SE T O nm G a) : SE T O nm G (.rng a) := snd_it fun X S tg e g h => by
  split at h
  · simp only [Bool.and_eq_true, beq_iff_eq, Bool.not_eq_true'] at h
    obtain ⟨⟨⟨⟨h1, rfl⟩, h3⟩, h4⟩, h5⟩ := h
    exact ⟨si_rng (gl_of g h1).1 (g.gok.blt _ h3) h5 (ha.e X S _ g h4).v, rfl⟩
  · cases h
theorem sn_rng2 {a b : Ex} (ha : SE T O nm G a) (hb : SE T O nm G b) : SE T O nm G (.rng2 a b) := snd_it fun X S tg e g h => by
  split at h
  · simp only [Bool.and_eq_true, beq_iff_eq, Bool.not_eq_true'] at h
    obtain ⟨⟨⟨⟨⟨⟨h1, rfl⟩, h3⟩, h4⟩, h5⟩, h6⟩, h7⟩ := h
    exact ⟨si_rng2 (gl_of g h1).1 (g.gok.blt _ h3) h5 h7 (ha.e X S _ g h4).v (hb.e X S _ g h6).v, rfl⟩
  · cases h
theorem sn_enum {a : Ex} (ha : SE T O nm G a) : SE T O nm G (.enum a) := snd_it fun X S tg e g h => by
  split at h
  · simp only [Bool.and_eq_true, beq_iff_eq, Bool.not_eq_true'] at h
    obtain ⟨⟨⟨⟨h1, rfl⟩, h3⟩, h4⟩, h5⟩ := h
    exact ⟨si_enum (gl_of g h1).1 (g.gok.blt _ h3) h5 (ha.e X S _ g h4).v, rfl⟩
  · cases h
/-- THE LOOK IS RIGHT: expressions -/
theorem snd : ∀ e : Ex, SE T O nm G e
  | .var i => sn_var i
  | .int i => sn_int i
  | .str x => sn_str x
  | .bl b => sn_bl b
  | .non => sn_non
  | .glob j => sn_glob j
  | .bin op a b => sn_bin op (snd a) (snd b)
  | .neg a => sn_neg (snd a)
  | .not a => sn_not (snd a)
  | .inv a => sn_inv (snd a)
  | .and a b => sn_and (snd a) (snd b)
  | .or a b => sn_or (snd a) (snd b)
  | .cmp op a b => sn_cmp op (snd a) (snd b)
  | .cmpB op a b => sn_cmpB op (snd a) (snd b)
  | .chain o p a b c => sn_chain o p (snd a) (snd b) (snd c)
  | .isn a => sn_isn (snd a)
  | .notn a => sn_notn (snd a)
  | .ifx c a b => sn_ifx (snd c) (snd a) (snd b)
  | .nil => sn_nil
  | .cons a r => sn_cons (snd a) (snd r)
  | .star a r => sn_star (snd a) (snd r)
  | .tup as => sn_tup (snd as)
  | .lst as => sn_lst (snd as)
  | .sub a i => sn_sub (snd a) (snd i)
  | .slice a lo hi => sn_slice (snd a) (snd lo) (snd hi)
  | .rev a => sn_rev (snd a)
  | .attr a j => sn_attr j (snd a)
  | .prop a j => sn_prop j (snd a)
  | .call f as => sn_call f (snd as)
  | .callk f as kas perm => snd_none
  | .new c as => sn_new c (snd as)
  | .newk c as kas perm => snd_none
  | .meth m o as => sn_meth m (snd o) (snd as)
  | .methk m o as kas perm => sn_methk m perm (snd o) (snd as) (snd kas)
  | .blt b as => sn_blt b (snd as)
  | .isi a ts => sn_isi ts (snd a)
  | .fstr as => sn_fstr (snd as)
  | .fmt a => sn_fmt (snd a)
  | .split a b => sn_split (snd a) (snd b)
  | .join a b => sn_join (snd a) (snd b)
  | .comp elt tg one src cond => sn_comp tg one (snd elt) (snd src) (snd cond)
  | .rng a => sn_rng (snd a)
  | .rng2 a b => sn_rng2 (snd a) (snd b)
  | .enum a => sn_enum (snd a)
  | .zip a b => snd_none
end
end Dv
end
section
set_option Elab.async false
set_option linter.all false
set_option maxRecDepth 100000
set_option maxHeartbeats 4000000
namespace Dv
open PySem PySem.Spec PyProof.Rows L2
/-! ### the look at statements -/
structure CkS where
  s : Sx → List Stmt → Bool
  one : Sx → Stmt → Bool
def ckO (f : Sx → Stmt → Bool) : CkS := ⟨fun _ _ => false, f⟩
def isLc : Expr → Bool
  | .ListComp _ _ _ _ => true
  | _ => false
def notTup : Expr → Bool
  | .Tuple _ _ _ => false
  | _ => true
def parC (G : Gi) (S : Sx) (i j : Nat) (x y : Str) (px py : Pos) (a b : Expr) : Bool :=
  G.N[i]? == some x && G.N[j]? == some y && !(i == j) && !(x == y) && S.sc.names.lookup x == some .local && S.sc.names.lookup y == some .local && px.line == py.line && !isStar a && !isStar b && !(foldedForSure 8 a && foldedForSure 8 b) && !(constantsAlone 8 a && constantsAlone 8 b)
def augOp : Bop → Option Operator
  | .add => some .Add
  | .sub => some .Sub
  | _ => none
def ckS (G : Gi) : Sm → CkS
  | .skip => ⟨fun _ ss => match ss with
      | [] => true
      | _ => false, fun _ st => match st with
      | .Pass _ => true
      | .Expr (.Constant (.str _) _ _) _ => true
      | _ => false⟩
  | .seq a b => ⟨fun S ss => match ss with
      | st :: r => (ckS G a).one S st && (ckS G b).s S r
      | _ => false, fun _ _ => false⟩
  | .frz _ b => ⟨fun S ss => (ckS G b).s S ss, fun _ _ => false⟩
  | .set i e => ckO fun S st => match st with
      | .Assign [.Name x _] v _ => locC G S i x && (ck G e).e S v && (notComp v || isLc v)
      | _ => false
  | .own i as => ckO fun S st => match st with
      | .Assign [.Name x _] (.List es _) _ => locC G S i x && (ck G as).l S es
      | _ => false
  | .setT is e => ckO fun S st => match st with
      | .Assign [.Tuple es k pt] v _ => tgC G S (.Tuple es k pt) is false && (ck G e).e S v && notComp v && notTup v
      | _ => false
  | .par is as => ckO fun S st => match is, st with
      | [i, j], .Assign [.Tuple [.Name x px, .Name y py] _ _] (.Tuple [a, b] _ _) _ => parC G S i j x y px py a b && (ck G as).l S [a, b]
      | _, _ => false
  | .setA i j e => ckO fun S st => match st with
      | .Assign [.Attribute (.Name x px) f _] v _ => (ck G (.var i)).e S (.Name x px) && G.at_ j == f && (ck G e).e S v
      | _ => false
  | .setI i k e => ckO fun S st => match st with
      | .Assign [.Subscript (.Name x px) k' _] v _ => (ck G (.var i)).e S (.Name x px) && (ck G k).e S k' && (ck G e).e S v && plainSl k'
      | _ => false
  | .aug i op e => ckO fun S st => match st with
      | .AugAssign (.Name x _) op' v _ => locC G S i x && augOp op == some op' && (ck G e).e S v
      | _ => false
  | .ex e => ckO fun S st => match st with
      | .Expr v _ => (ck G e).e S v && notComp v
      | _ => false
  | .app i e => ckO fun S st => match st with
      | .Expr (.Call (.Attribute (.Name x px) m apos) [v] [] cpos) _ => m == ("append" : Str) && (ck G (.var i)).e S (.Name x px) && (ck G e).e S v && !isStar v && apos.endLine == cpos.line
      | _ => false
  | .ext i e => ckO fun S st => match st with
      | .Expr (.Call (.Attribute (.Name x px) m apos) [v] [] cpos) _ => m == ("extend" : Str) && (ck G (.var i)).e S (.Name x px) && (ck G e).e S v && !isStar v && apos.endLine == cpos.line
      | _ => false
  | .ite c a b => ckO fun S st => match st with
      | .If c' as bs _ => (ck G c).e S c' && (ckS G a).s S as && (ckS G b).s S bs
      | _ => false
  | .for_ tg one src body => ckO fun S st => match st with
      | .For tg' iter bs [] _ => (ck G src).it S tg' iter && tgC G S tg' tg one && (ckS G body).s S bs
      | _ => false
  | .while_ c body => ckO fun S st => match st with
      | .While c' bs [] _ => (ck G c).e S c' && (ckS G body).s S bs
      | _ => false
  | .ret e => ckO fun S st => match st with
      | .Return (some v) _ => (ck G e).e S v
      | _ => false
  | .retC as => ckO fun S st => match st with
      | .Return (some (.List es _)) _ => (ck G as).l S es
      | _ => false
  | .brk => ckO fun _ st => match st with
      | .Break _ => true
      | _ => false
  | .cnt => ckO fun _ st => match st with
      | .Continue _ => true
      | _ => false
  | .never => ⟨fun _ _ => true, fun _ _ => true⟩
def GoodS (T : Tab) (O : Orc) (nm : Nm) (G : Gi) (X : Cx) (S : Sx) : Prop := Good T O nm G X S ∧ PassesOwn (model X.prog X.w) X.A X.env X.xe
structure SndS (T : Tab) (O : Orc) (nm : Nm) (G : Gi) (f : Env → Cells → Res Flw) (kk : CkS) : Prop where
  s : ∀ X S ss, GoodS T O nm G X S → kk.s S ss = true → PSs X ss (tS X.K nm E0 f)
  one : ∀ X S st, GoodS T O nm G X S → kk.one S st = true → PS X st (tS X.K nm E0 f)
section
variable {T : Tab} {O : Orc} {nm : Nm} {G : Gi}
abbrev SS (T : Tab) (O : Orc) (nm : Nm) (G : Gi) (m : Sm) : Prop := SndS T O nm G (fun ρ cs => sm T O m ρ cs) (ckS G m)
theorem snd_o {f : Env → Cells → Res Flw} {k : Sx → Stmt → Bool} (h : ∀ X S st, GoodS T O nm G X S → k S st = true → PS X st (tS X.K nm E0 f)) : SndS T O nm G f (ckO k) := { s := (fun X S ss g q => nomatch q), one := h }
theorem PS.skip {X : Cx} {st : Stmt} (h : PS X st tNext) : PS X st (tS X.K nm E0 fun ρ cs => .ok (.nx ρ) cs) := h.imp fun D σ H q => by
  obtain ⟨x0, g0, H0, g, ρ, cs, f, p⟩ := q
  exact PostS.nx p f
theorem ss_skip : SS T O nm G .skip where
  s := fun X S ss g h => by
    have h : (match (generalizing := false) ss with | [] => true | _ => false) = true := h
    split at h
    · exact s_nil
    · cases h
  one := fun X S st g h => by
    have h : (match (generalizing := false) st with
      | .Pass _ => true
      | .Expr (.Constant (.str _) _ _) _ => true
      | _ => false) = true := h
    split at h
    · exact PS.skip ps_pass
    · exact PS.skip ps_doc
    · cases h
theorem ss_seq {a b : Sm} (ha : SS T O nm G a) (hb : SS T O nm G b) : SS T O nm G (.seq a b) where
  s := fun X S ss g h => by
    have h : (match (generalizing := false) ss with
      | st :: r => (ckS G a).one S st && (ckS G b).s S r
      | _ => false) = true := h
    split at h
    · rw [Bool.and_eq_true] at h
      exact s_cons (ha.one X S _ g h.1) (hb.s X S _ g h.2)
    · cases h
  one := fun X S st g h => nomatch h
theorem ss_frz (i : Nat) {b : Sm} (hb : SS T O nm G b) : SS T O nm G (.frz i b) where
  s := fun X S ss g h => s_frz (hb.s X S ss g h)
  one := fun X S st g h => nomatch h
theorem ss_never : SS T O nm G .never where
  s := fun X S ss g h => s_nevers
  one := fun X S st g h => s_never
theorem notComp_sw {e : Expr} (h : notComp e = true) (t : Option Expr) (l : Nat) (env : PySem.Env) : swapsWith e t l env = pure false := by
  cases e <;> first | rfl | (exact absurd h (by simp [notComp]))
theorem sole_sw {t e : Expr} {l : Nat} {env : PySem.Env} (h : swapsWith e (some t) l env = pure false) : swapsWithSole [t] e l env = pure false := by
  unfold swapsWithSole
  exact h
theorem star_fun : (fun (e : Expr) => match e with | .Starred .. => true | _ => false) = isStar := by
  funext e
  cases e <;> rfl
theorem attr_sw (e a : Expr) (f : Str) (p : Pos) (l : Nat) (env : PySem.Env) : swapsWith e (some (.Attribute a f p)) l env = pure false := by
  cases e <;> rfl
theorem sub_sw (e a f : Expr) (p : Pos) (l : Nat) (env : PySem.Env) : swapsWith e (some (.Subscript a f p)) l env = pure false := by
  cases e <;> rfl
/-- what a plan of a comprehension says -/
theorem lc_comp {S : Sx} {e : Ex} {elt : Expr} {gs : List Comprehension} {scope : Scope} {p : Pos} (h : (ck G e).e S (.ListComp elt gs scope p) = true) : ∃ elt' tg one src cond, e = .comp elt' tg one src cond := by
  cases e with
  | comp elt' tg one src cond => exact ⟨_, _, _, _, _, rfl⟩
  | _ => exact absurd h (by first | exact Bool.false_ne_true | (intro z; exact nomatch z))
theorem ss_set (i : Nat) (e : Ex) : SS T O nm G (.set i e) := snd_o fun X S st g h => by
  split at h
  · rename_i x px v pos
    simp only [Bool.and_eq_true, Bool.or_eq_true] at h
    obtain ⟨⟨h1, h2⟩, h3⟩ := h
    obtain ⟨l1, l2, l3⟩ := loc_of g.1 h1
    have he := ((snd e).e X S v g.1 h2).v
    rcases h3 with h3 | h3
    · exact s_set g.1.ctx.nd l1 l2 he (notComp_sw h3 _ _ _) l3
    · cases v with
      | ListComp elt gs scope p =>
        have sw : swapsWith (.ListComp elt gs scope p) (some (.Name x px)) pos.line X.env = pure (X.env.blockKind == .function && X.env.kindOf x == some .local && px.line == p.line && !(scope.names.any fun (n, k) => n == x && (k == .local || k == .cell))) := rfl
        cases hb : (X.env.blockKind == .function && X.env.kindOf x == some .local && px.line == p.line && !(scope.names.any fun (n, k) => n == x && (k == .local || k == .cell))) with
        | false =>
          rw [hb] at sw
          exact s_set g.1.ctx.nd l1 l2 he sw l3
        | true =>
          rw [hb] at sw
          simp only [Bool.and_eq_true, beq_iff_eq] at hb
          have hyl : X.env.scope.names.lookup x = some .local := hb.1.1.2
          obtain ⟨elt', tg, one, src, cond, rfl⟩ := lc_comp h2
          have h2 : (match (generalizing := false) (Expr.ListComp elt gs scope p) with
            | .ListComp elt1 [⟨tg', iter, ifs, 0⟩] scope _ => (ck G src).it S tg' iter && blkC G.N S.sc scope (tgNames tg' tg) && decide ((tgNames tg' tg).map (·.2) = tg) && tgC G ⟨relS scope S.sc, fun x => scope.names.lookup x == some .cell⟩ tg' tg one &&
                (ck G elt').e ⟨relS scope S.sc, fun x => scope.names.lookup x == some .cell⟩ elt1 && (ck G cond).c ⟨relS scope S.sc, fun x => scope.names.lookup x == some .cell⟩ ifs
            | _ => false) = true := h2
          split at h2
          · rename_i eq
            cases eq
            simp only [Bool.and_eq_true, decide_eq_true_eq] at h2
            obtain ⟨⟨⟨⟨⟨q1, q2⟩, q3⟩, q4⟩, q5⟩, q6⟩ := h2
            obtain ⟨i1, i2⟩ := (snd src).it X S _ _ g.1 q1
            have hk := blk_kind q2
            have q2' := q2
            rw [← g.1.N, ← g.1.sc] at q2'
            exact s_setLc g.1.ctx.calm g.1.ctx.nd l1 hyl sw i1 (blkOk_by q2') q3 (fun s H C cl fp => tg_of (g.1.blk hk s H C cl fp) q4) (fun s H C cl fp => (snd cond).c _ _ _ (g.1.blk hk s H C cl fp) q6) (fun s H C cl fp => ((snd elt').e _ _ _ (g.1.blk hk s H C cl fp) q5).v) (notSet_of i2 _)
          · cases h2
      | _ => simp [isLc] at h3
  · cases h
theorem ss_own (i : Nat) (as : Ex) : SS T O nm G (.own i as) := snd_o fun X S st g h => by
  split at h
  · simp only [Bool.and_eq_true] at h
    obtain ⟨l1, l2, l3⟩ := loc_of g.1 h.1
    exact s_own g.1.ctx.nd l1 l2 ((snd as).l X S _ g.1 h.2) l3
  · cases h
theorem ss_setT (is : List Nat) (e : Ex) : SS T O nm G (.setT is e) := snd_o fun X S st g h => by
  split at h
  · rename_i es k pt v pos
    simp only [Bool.and_eq_true] at h
    obtain ⟨⟨⟨h1, h2⟩, h3⟩, h4⟩ := h
    refine s_setT ((snd e).e X S _ g.1 h2).v (tg_of g.1 h1) (sole_sw (notComp_sw h3 _ _ _)) ?_ rfl
    cases v <;> first | rfl | (exact absurd h4 (by simp [notTup]))
  · cases h
theorem ss_par (is : List Nat) (as : Ex) : SS T O nm G (.par is as) := snd_o fun X S st g h => by
  split at h
  · rename_i i j x px y py kt pt a b k2 pt2 pos
    rw [Bool.and_eq_true] at h
    obtain ⟨h1, h2⟩ := h
    unfold parC at h1
    simp only [Bool.and_eq_true, beq_iff_eq, Bool.not_eq_true', beq_eq_false_iff_ne] at h1
    obtain ⟨⟨⟨⟨⟨⟨⟨⟨⟨⟨q1, q2⟩, q3⟩, q4⟩, q5⟩, q6⟩, q7⟩, q8⟩, q9⟩, q10⟩, q11⟩ := h1
    have e5 : X.env.scope.names.lookup x = some .local := by rw [g.1.sc]; exact q5
    have e6 : X.env.scope.names.lookup y = some .local := by rw [g.1.sc]; exact q6
    have hi : X.N[i]? = some x := by rw [g.1.N]; exact q1
    have hj : X.N[j]? = some y := by rw [g.1.N]; exact q2
    have hA := (snd as).l X S _ g.1 h2
    have hk5 : X.env.kindOf x = some .local := e5
    have hk6 : X.env.kindOf y = some .local := e6
    have hbk : X.env.blockKind = .function := by
      unfold PySem.Env.blockKind
      rw [g.1.kind]
      rfl
    have hw : swappedStores [.Tuple [.Name x px, .Name y py] kt pt] (.Tuple [a, b] k2 pt2) X.env = pure (some [x, y]) := by
      have hxy : [x, y].eraseDups.length = 2 := by
        have : (y == x) = false := beq_eq_false_iff_ne.mpr (Ne.symm q4)
        simp [List.eraseDups_cons, this]
      have hv : ([a, b].any fun (e : Expr) => match e with | .Starred .. => true | _ => false) = false := by
        rw [star_fun]
        simp only [List.any_cons, List.any_nil, q8, q9, Bool.or_false]
      have hf : [a, b].all (foldedForSure 8) = false := by
        simpa using q10
      have hc : [a, b].all (constantsAlone 8) = false := by
        simpa using q11
      have hnm : ([Expr.Name x px, Expr.Name y py].filterMap fun
          | .Name id pos => if X.env.kindOf id == some .local && pos.line == px.line then some id else none
          | _ => none) = [x, y] := by
        simp [hk5, hk6, q7]
      show (if (!(([Expr.Name x px, Expr.Name y py].length == 2) || ([Expr.Name x px, Expr.Name y py].length == 3)) || [a, b].length != [Expr.Name x px, Expr.Name y py].length || X.env.blockKind != .function) = true then (pure none : Sem (Option (List Str))) else _) = _
      rw [hbk]
      show (if ([a, b].any fun | .Starred .. => true | _ => false) = true then (pure none : Sem (Option (List Str))) else _) = _
      rw [hv]
      show (let names := [Expr.Name x px, Expr.Name y py].filterMap fun
          | .Name id pos => if X.env.kindOf id == some .local && pos.line == px.line then some id else none
          | _ => none
        if (names.length != [Expr.Name x px, Expr.Name y py].length || names.eraseDups.length != names.length) = true then (pure none : Sem (Option (List Str))) else _) = _
      rw [hnm]
      show (if ([x, y].length != 2 || [x, y].eraseDups.length != 2) = true then (pure none : Sem (Option (List Str))) else _) = _
      rw [hxy]
      show (if [a, b].all (foldedForSure 8) = true then (pure none : Sem (Option (List Str))) else _) = _
      rw [hf]
      rw [if_neg Bool.false_ne_true, hc, if_neg Bool.false_ne_true]
      exact congrArg (fun l => (pure (some l) : Sem (Option (List Str)))) hnm
    exact s_par g.1.ctx.calm g.1.ctx.nd hi hj q3 (ps_par g.1.ctx.calm g.1.ctx.nd hi hj q3 e5 e6 hA hw rfl)
  · cases h
end
end Dv
end
section
set_option Elab.async false
set_option linter.all false
set_option maxRecDepth 100000
set_option maxHeartbeats 4000000
namespace Dv
open PySem PySem.Spec PyProof.Rows L2
section
variable {T : Tab} {O : Orc} {nm : Nm} {G : Gi}
theorem name_pe {i : Nat} {X : Cx} {S : Sx} {x : Str} {px : Pos} (g : Good T O nm G X S) (h : (ck G (.var i)).e S (.Name x px) = true) : PE X (.Name x px) (tVar i) := by
  have h : (G.N[i]? == some x && visC S x && !(x == ("__debug__" : Str)) && !(x == ("__classdict__" : Str))) = true := h
  simp only [Bool.and_eq_true, beq_iff_eq, Bool.not_eq_true'] at h
  obtain ⟨⟨⟨h1, h2⟩, h3⟩, h4⟩ := h
  exact pe_var (by rw [g.N]; exact h1) (vis_of g h2) h3 h4
theorem ss_setA (i j : Nat) (e : Ex) : SS T O nm G (.setA i j e) := snd_o fun X S st g h => by
  split at h
  · simp only [Bool.and_eq_true, beq_iff_eq] at h
    obtain ⟨⟨h1, h2⟩, h3⟩ := h
    rw [g.1.gok.at_] at h2
    exact s_setA g.1.ctx.top h2 (name_pe g.1 h1) ((snd e).e X S _ g.1 h3).v (attr_sw _ _ _ _ _ _)
  · cases h
theorem ss_setI (i : Nat) (k e : Ex) : SS T O nm G (.setI i k e) := snd_o fun X S st g h => by
  split at h
  · rename_i x px k' pos' v pos
    simp only [Bool.and_eq_true, beq_iff_eq] at h
    obtain ⟨⟨⟨h1, h2⟩, h3⟩, h4⟩ := h
    refine s_setI (name_pe g.1 h1) ((snd e).e X S _ g.1 h3).v ((snd k).e X S _ g.1 h2).v (sole_sw (sub_sw _ _ _ _ _ _)) ?_ rfl ?_
    · cases v <;> rfl
    · intro v
      cases k' <;> first | rfl | (exact absurd h4 (by simp [plainSl]))
  · cases h
theorem ss_aug (i : Nat) (op : Bop) (e : Ex) : SS T O nm G (.aug i op e) := snd_o fun X S st g h => by
  split at h
  · simp only [Bool.and_eq_true, beq_iff_eq] at h
    obtain ⟨⟨h1, h2⟩, h3⟩ := h
    obtain ⟨l1, l2, l3⟩ := loc_of g.1 h1
    cases op with
    | add =>
      cases h2
      exact s_aug (aug_add g.1.ctx) g.1.ctx.nd l1 l2 ((snd e).e X S _ g.1 h3).v l3
    | sub =>
      cases h2
      exact s_aug aug_sub g.1.ctx.nd l1 l2 ((snd e).e X S _ g.1 h3).v l3
    | _ => cases h2
  · cases h
theorem ss_ex (e : Ex) : SS T O nm G (.ex e) := snd_o fun X S st g h => by
  split at h
  · rw [Bool.and_eq_true] at h
    exact s_ex ((snd e).e X S _ g.1 h.1).v (notComp_sw h.2 _ _ _)
  · cases h
theorem ss_app (i : Nat) (e : Ex) : SS T O nm G (.app i e) := snd_o fun X S st g h => by
  split at h
  · simp only [Bool.and_eq_true, beq_iff_eq, Bool.not_eq_true'] at h
    obtain ⟨⟨⟨⟨rfl, h1⟩, h2⟩, h3⟩, h4⟩ := h
    exact s_app (name_pe g.1 h1) ((snd e).e X S _ g.1 h2).v h3 (by rw [h4]; simp)
  · cases h
theorem ss_ext (i : Nat) (e : Ex) : SS T O nm G (.ext i e) := snd_o fun X S st g h => by
  split at h
  · simp only [Bool.and_eq_true, beq_iff_eq, Bool.not_eq_true'] at h
    obtain ⟨⟨⟨⟨rfl, h1⟩, h2⟩, h3⟩, h4⟩ := h
    exact s_ext (name_pe g.1 h1) ((snd e).e X S _ g.1 h2).v h3 (by rw [h4]; simp)
  · cases h
theorem ss_ite (c : Ex) {a b : Sm} (ha : SS T O nm G a) (hb : SS T O nm G b) : SS T O nm G (.ite c a b) := snd_o fun X S st g h => by
  split at h
  · simp only [Bool.and_eq_true] at h
    exact s_ite ((snd c).e X S _ g.1 h.1.1).t (ha.s X S _ g h.1.2) (hb.s X S _ g h.2)
  · cases h
theorem ss_for (tg : List Nat) (one : Bool) (src : Ex) {b : Sm} (hb : SS T O nm G b) : SS T O nm G (.for_ tg one src b) := snd_o fun X S st g h => by
  split at h
  · simp only [Bool.and_eq_true] at h
    obtain ⟨⟨h1, h2⟩, h3⟩ := h
    obtain ⟨i1, i2⟩ := (snd src).it X S _ _ g.1 h1
    exact s_for g.2 g.1.ctx.calm i1 (tg_of g.1 h2) (hb.s X S _ g h3) (notSet_of i2 _)
  · cases h
theorem ss_while (c : Ex) {b : Sm} (hb : SS T O nm G b) : SS T O nm G (.while_ c b) := snd_o fun X S st g h => by
  split at h
  · simp only [Bool.and_eq_true] at h
    exact s_while g.2 ((snd c).e X S _ g.1 h.1).t (hb.s X S _ g h.2)
  · cases h
theorem ss_ret (e : Ex) : SS T O nm G (.ret e) := snd_o fun X S st g h => by
  split at h
  · exact s_ret ((snd e).e X S _ g.1 h).v
  · cases h
theorem ss_retC (as : Ex) : SS T O nm G (.retC as) := snd_o fun X S st g h => by
  split at h
  · exact s_retC ((snd as).l X S _ g.1 h)
  · cases h
theorem ss_brk : SS T O nm G .brk := snd_o fun X S st g h => by
  split at h
  · exact s_brk
  · cases h
theorem ss_cnt : SS T O nm G .cnt := snd_o fun X S st g h => by
  split at h
  · exact s_cnt
  · cases h
/-- THE LOOK IS RIGHT: statements -/
theorem sndS : ∀ m : Sm, SS T O nm G m
  | .skip => ss_skip
  | .seq a b => ss_seq (sndS a) (sndS b)
  | .frz i b => ss_frz i (sndS b)
  | .set i e => ss_set i e
  | .own i as => ss_own i as
  | .setT is e => ss_setT is e
  | .par is as => ss_par is as
  | .setA i j e => ss_setA i j e
  | .setI i k e => ss_setI i k e
  | .aug i op e => ss_aug i op e
  | .ex e => ss_ex e
  | .app i e => ss_app i e
  | .ext i e => ss_ext i e
  | .ite c a b => ss_ite c (sndS a) (sndS b)
  | .for_ tg one src b => ss_for tg one src (sndS b)
  | .while_ c b => ss_while c (sndS b)
  | .ret e => ss_ret e
  | .retC as => ss_retC as
  | .brk => ss_brk
  | .cnt => ss_cnt
  | .never => ss_never
end
end Dv
end
section
set_option Elab.async false
set_option linter.all false
set_option maxRecDepth 100000
set_option maxHeartbeats 4000000
namespace Dv
open PySem PySem.Spec PyProof.Rows L2
/-! ### defs -/
/-- a def as the text has it -/
structure FI where
  name : Str
  qual : Str
  params : Arguments
  body : List Stmt
  scope : Scope
  N : List Str
  ps : List Str
def chkF (G : Gi) (F : Fn) (I : FI) : Bool := C8.scC I.N I.ps I.scope && F.n == I.N.length && (I.ps.length == if F.star then F.np + 1 else F.np) && F.dfl.isEmpty && (F.ini.isNone || 0 < F.np) && (ckS { G with N := I.N } F.body).s ⟨I.scope, fun _ => true⟩ I.body
abbrev fdOf (I : FI) (kV doc pm : Value) (an : Option Addr) (cdv ct : Value) : FuncData := PySem.W.fnOf I.name I.qual I.params I.body I.scope .none kV doc pm an cdv ct
structure FnB (nm : Nm) (f : Nat) (F : Fn) (I : FI) : Prop where
  pos : F.star = false → ∀ (kV doc pm : Value) (an : Option Addr) (cdv ct : Value) (us : List Value), us.length = I.ps.length → bindArgs (fdOf I kV doc pm an cdv ct) ⟨us, []⟩ = pure (I.ps.zip us)
  star : F.star = true → ∃ ps' pv, I.ps = ps' ++ [pv] ∧ ∀ (kV doc pm : Value) (an : Option Addr) (cdv ct : Value) (us rest : List Value), us.length = ps'.length → bindArgs (fdOf I kV doc pm an cdv ct) ⟨us ++ rest, []⟩ = (newTuple rest >>= fun t => pure (ps'.zip us ++ [(pv, t)]))
  kw : ∀ n ks perm, nm.kw f n ks perm = true → F.star = false ∧ ∀ (kV doc pm : Value) (an : Option Addr) (cdv ct : Value) (us ws : List Value), us.length = n → ws.length = ks.length → ∃ ys, permD perm (us ++ ws) = some ys ∧ ys.length = I.ps.length ∧ bindArgs (fdOf I kV doc pm an cdv ct) ⟨us, ks.zip ws⟩ = pure (I.ps.zip ys)
section
variable {K : PySem.W.Frag} {nm : Nm} {W : XK} {g g' g2 : Gh} {H H' H2 : Hp} {cs : Cells}
theorem vals_perm : ∀ {perm : List Nat} {vs : List V} {us : List Value} {ys : List V} {zs : List Value}, Vals vs us → permD perm vs = some ys → permD perm us = some zs → Vals ys zs
  | [], _, _, ys, zs, r, h1, h2 => by
    simp [permD] at h1 h2
    subst h1 h2
    exact .nil
  | i :: p, vs, us, ys, zs, r, h1, h2 => by
    simp only [permD] at h1 h2
    cases e1 : vs[i]? with
    | none => rw [e1] at h1; cases h1
    | some v =>
      obtain ⟨u, hu, ru⟩ := r.get e1
      cases e3 : permD p vs with
      | none => rw [e1, e3] at h1; cases h1
      | some ys' =>
        cases e4 : permD p us with
        | none => rw [hu, e4] at h2; cases h2
        | some zs' =>
          rw [e1, e3] at h1
          rw [hu, e4] at h2
          cases h1
          cases h2
          exact .cons ru (vals_perm r e3 e4)
/-- a frame's slots as a call begins: the values, then nothing -/
theorem env_start {N : List Str} {ds : List D} {vs : List V} {n : Nat} (r : Reps K nm g H ds vs) (hn : N.length = n) (hl : ds.length ≤ n) : EnvOk K nm g H (L2.start N vs) (ds.map Slot.val ++ List.replicate (n - ds.length) .emp) := by
  have hlen := r.length
  refine ⟨?_, fun i s hs => ?_, fun i j d e v h1 => ?_⟩
  · unfold L2.start
    simp only [List.length_append, List.length_map, List.length_replicate]
    omega
  · rcases Nat.lt_or_ge i ds.length with q | q
    · rw [List.getElem?_append_left (by simpa using q), List.getElem?_map] at hs
      have hd : ds[i]? = some ds[i] := by simp [q]
      rw [hd] at hs
      cases hs
      obtain ⟨v, hv, rv⟩ := r.get hd
      refine ⟨v, ?_, rv⟩
      unfold L2.start
      rw [List.getElem?_append_left (by simp; omega), List.getElem?_map, hv]
      rfl
    · rw [List.getElem?_append_right (by simpa using q)] at hs
      have := (List.getElem?_eq_some_iff.mp hs)
      obtain ⟨h1, h2⟩ := this
      rw [List.getElem_replicate] at h2
      subst h2
      exact True.intro
  · exfalso
    rcases Nat.lt_or_ge i ds.length with q | q
    · rw [List.getElem?_append_left (by simpa using q), List.getElem?_map] at h1
      have hd : ds[i]? = some ds[i] := by simp [q]
      rw [hd] at h1
      cases h1
    · rw [List.getElem?_append_right (by simpa using q)] at h1
      obtain ⟨h1, h2⟩ := (List.getElem?_eq_some_iff.mp h1)
      rw [List.getElem_replicate] at h2
      cases h2
theorem no_own {ds : List D} {m : Nat} {i : Nat} {d : D} (h1 : (ds.map Slot.val ++ List.replicate m .emp)[i]? = some (.own d)) : False := by
  rcases Nat.lt_or_ge i ds.length with q | q
  · rw [List.getElem?_append_left (by simpa using q), List.getElem?_map] at h1
    have hd : ds[i]? = some ds[i] := by simp [q]
    rw [hd] at h1
    cases h1
  · rw [List.getElem?_append_right (by simpa using q)] at h1
    obtain ⟨h1, h2⟩ := (List.getElem?_eq_some_iff.mp h1)
    rw [List.getElem_replicate] at h2
    cases h2
/-- .. its first slot a thing of its own -/
theorem env_self {N : List Str} {ds : List D} {vs : List V} {n : Nat} {x : Addr} {d : D} (r : Reps K nm g H ds vs) (hn : N.length = n + 1) (hl : ds.length ≤ n) (ow : Own K nm g H d (.ref x)) :
    EnvOk K nm g H (L2.start N (.ref x :: vs)) (.own d :: (ds.map Slot.val ++ List.replicate (n - ds.length) .emp)) := by
  have hlen := r.length
  have e : L2.start N (.ref x :: vs) = some (.ref x) :: (vs.map some ++ List.replicate (n - vs.length) none) := by
    unfold L2.start
    rw [List.map_cons, List.length_cons, hn]
    simp
  have rest : ∀ (i : Nat) (s : Slot), (ds.map Slot.val ++ List.replicate (n - ds.length) .emp)[i]? = some s → SlotOk K nm g H s (vs.map some ++ List.replicate (n - vs.length) none)[i]? := fun i s hs => by
    rcases Nat.lt_or_ge i ds.length with q | q
    · rw [List.getElem?_append_left (by simpa using q), List.getElem?_map] at hs
      have hd : ds[i]? = some ds[i] := by simp [q]
      rw [hd] at hs
      cases hs
      obtain ⟨v, hv, rv⟩ := r.get hd
      refine ⟨v, ?_, rv⟩
      rw [List.getElem?_append_left (by simp; omega), List.getElem?_map, hv]
      rfl
    · rw [List.getElem?_append_right (by simpa using q)] at hs
      obtain ⟨h1, h2⟩ := (List.getElem?_eq_some_iff.mp hs)
      rw [List.getElem_replicate] at h2
      subst h2
      exact True.intro
  rw [e]
  refine ⟨?_, fun i s hs => ?_, fun i j d1 d2 v h1 h2 h3 h4 => ?_⟩
  · simp only [List.length_cons, List.length_append, List.length_map, List.length_replicate]
    omega
  · cases i with
    | zero =>
      rw [List.getElem?_cons_zero] at hs ⊢
      cases hs
      exact ⟨_, rfl, ow⟩
    | succ i =>
      rw [List.getElem?_cons_succ] at hs ⊢
      exact rest i s hs
  · cases i with
    | zero =>
      cases j with
      | zero => rfl
      | succ j =>
        rw [List.getElem?_cons_succ] at h2
        exact (no_own h2).elim
    | succ i =>
      rw [List.getElem?_cons_succ] at h1
      exact (no_own h1).elim
/-- what a body has to reach, from what its call has to reach -/
theorem post_end {x0 : Addr} {r : Res Flw} {Q : VK} (p : Post K nm W (Rep K nm) g H (r.bind endF) Q) {De : Ends} (h1 : ∀ σ H', Q .non H' → De.nx σ H') (h2 : ∀ v H', Q v H' → De.rt v H') : PostS K nm W x0 g H g2 H2 r De := by
  match r, p with
  | .ok (.nx ρ) cs, p => exact fun σ' g' H' e f => h1 σ' H' (Post.okE (a := D.non) p f.ex f.cs .non)
  | .ok (.ret d) cs, p => exact fun v g' H' e c rv => h2 v H' (Post.okE (a := d) p e c rv)
  | .ok (.brk ρ) cs, p => exact p.elim
  | .ok (.cnt ρ) cs, p => exact p.elim
  | .exc e cs, p => exact p
  | .bad, p => exact p
/-- .. an __init__'s -/
theorem post_ini {x0 : Addr} {m : Bool} {r : Res Flw} {Q : VK} (hn : H x0 = none) (p : Post K nm W (Rep K nm) g H (r.bind (endI m)) (fun v H' => v = .ref x0 → Q .non H')) {De : Ends} (h1 : ∀ σ H', Q .non H' → De.nx σ H') : PostS K nm W x0 g H g2 H2 r De := by
  match r, p with
  | .ok (.nx ρ) cs, p =>
    intro σ' g' H' e f
    have p : Post K nm W (Rep K nm) g H (match ρ[0]? with
      | some (Slot.own (D.ins c fs)) => if m then .ok (.cell cs.length) (cs ++ [.ins c fs]) else .ok (.ins c fs) cs
      | _ => .bad) (fun v H' => v = .ref x0 → Q .non H') := p
    cases hr : ρ[0]? with
    | none => rw [hr] at p; exact p.elim
    | some s =>
      rw [hr] at p
      cases s with
      | own d =>
        cases d with
        | ins c fs =>
          have p : Post K nm W (Rep K nm) g H (if m then .ok (.cell cs.length) (cs ++ [.ins c fs]) else .ok (.ins c fs) cs) (fun v H' => v = .ref x0 → Q .non H') := p
          have hs := f.slf 0 c fs hr
          obtain ⟨v, e1, ow⟩ := f.en.sl 0 _ hr
          rw [hs] at e1
          cases e1
          cases m with
          | false =>
            have p : Post K nm W (Rep K nm) g H (.ok (.ins c fs) cs) (fun v H' => v = .ref x0 → Q .non H') := p
            obtain ⟨r1, c1, _⟩ := own_frz ow f.cs
            exact h1 σ' H' (Post.okE p (frz_ext f.ex hn) c1 r1 rfl)
          | true =>
            have p : Post K nm W (Rep K nm) g H (.ok (.cell cs.length) (cs ++ [.ins c fs])) (fun v H' => v = .ref x0 → Q .non H') := p
            obtain ⟨a, ea, f1, f2, dx, vs, q1, q2⟩ := ow
            cases ea
            have np : x0 ∉ g'.io := f2
            have e2 : ExtS g' H' ⟨g'.fz, g'.io ++ [x0]⟩ H' := ⟨⟨[x0], rfl⟩, fun _ h => h, fun _ _ _ h => h⟩
            obtain ⟨t, t1, t2⟩ := f.ex.io
            have e3 : Ext g H ⟨g'.fz, g'.io ++ [x0]⟩ H' := ⟨⟨t ++ [x0], by show g'.io ++ [x0] = _; rw [t1, List.append_assoc], fun a ha => by
              rcases List.mem_append.mp ha with z | z
              · exact t2 a z
              · rw [List.mem_singleton.mp z]; exact hn⟩, f.ex.fz, f.ex.fzn, f.ex.keep, f.ex.there⟩
            have ok : GOk ⟨g'.fz, g'.io ++ [x0]⟩ H' := by
              refine ⟨f.cs.ok.fzt, fun a q => ?_, fun a q z => ?_, ?_⟩
              · rcases List.mem_append.mp q with q | q
                · exact f.cs.ok.iot a q
                · rw [List.mem_singleton.mp q, q1]; simp
              · rcases List.mem_append.mp q with q | q
                · exact f.cs.ok.dis a q z
                · rw [List.mem_singleton.mp q] at z
                  exact f1 z
              · rw [List.nodup_append]
                exact ⟨f.cs.ok.nd, by simp, fun a ha b hb => by rw [List.mem_singleton.mp hb]; exact fun z => np (z ▸ ha)⟩
            refine h1 σ' H' (Post.okE (b := .ref x0) p e3 ⟨ok, by simp [f.cs.len], fun n x a hn' ha => ?_⟩ (.cell ?_) rfl)
            · rcases Nat.lt_or_ge n cs.length with hl | hl
              · rw [List.getElem?_append_left hl] at hn'
                have ha : (g'.io ++ [x0])[n]? = some a := ha
                rw [List.getElem?_append_left (by rw [← f.cs.len]; exact hl)] at ha
                have z := f.cs.at_ n x a hn' ha
                cases x with
                | lst ds => obtain ⟨vs, z1, z2⟩ := z; exact ⟨vs, z1, z2.monoS e2⟩
                | ins c fs => obtain ⟨dx, vs, z1, z2⟩ := z; exact ⟨dx, vs, z1, z2.monoS e2⟩
              · have e1 : n = cs.length := by
                  have := (List.getElem?_eq_some_iff.mp hn').1
                  simp at this
                  omega
                subst e1
                have ha : (g'.io ++ [x0])[cs.length]? = some a := ha
                rw [List.getElem?_append_right (Nat.le_refl _)] at hn'
                rw [List.getElem?_append_right (by rw [f.cs.len]; exact Nat.le_refl _)] at ha
                simp at hn'
                simp [f.cs.len] at ha
                subst hn' ha
                exact ⟨dx, vs, q1, q2.monoS e2⟩
            · show (g'.io ++ [x0])[cs.length]? = some x0
              rw [f.cs.len]
              simp
        | _ => exact p.elim
      | _ => exact p.elim
  | .ok (.ret d) cs, p => exact p.elim
  | .ok (.brk ρ) cs, p => exact p.elim
  | .ok (.cnt ρ) cs, p => exact p.elim
  | .exc e cs, p => exact p
  | .bad, p => exact p
end
end Dv
end
section
set_option Elab.async false
set_option linter.all false
set_option maxRecDepth 100000
set_option maxHeartbeats 4000000
namespace Dv
open PySem PySem.Spec PyProof.Rows L2
section
variable {T : Tab} {nm : Nm} {G : Gi} {P : Program} {w : World} {K : PySem.W.Frag} {mg : Str → Option Value} {base : Heap} {n k : Nat}
theorem fill_nil {F : Fn} (h : F.dfl = []) (args : List D) : fillD F args = args := by
  unfold fillD
  split
  · rfl
  · rw [h]; simp
theorem run_false {f : Nat} {F : Fn} (hF : T.fns[f]? = some F) (hi : F.ini = none) (hd : F.dfl = []) (ds : List D) (cs : Cells) : run T (k + 1) false f ds cs = (match freshE F ds with
        | none => Res.bad
        | some ρ => (sm T (run T k) F.body ρ cs).bind endF) := by
  unfold run
  simp only [hF, hi, fill_nil hd]
  try rfl
theorem run_true {f c : Nat} {F : Fn} (hF : T.fns[f]? = some F) (hi : F.ini = some c) (hd : F.dfl = []) (ds : List D) (cs : Cells) : run T (k + 1) true f ds cs = (match freshI F c ds with
        | none => Res.bad
        | some ρ => (sm T (run T k) F.body ρ cs).bind (endI (mutOf T c))) := by
  unfold run
  simp only [hF, hi]
  rw [fill_nil (by exact hd)]
  try rfl
/-- a def's body, walked -/
theorem body_ok {I : FI} {F : Fn} {f : Addr} {cdv : Value} {A : Around} {outer : List PySem.Env} {s : Shared} {H2 : Hp} (b : Bs T (run T k) nm { G with N := I.N } P w K mg base n) (S : FnScope I.N I.ps I.scope) (hc : (ckS { G with N := I.N } F.body).s ⟨I.scope, fun _ => true⟩ I.body = true) (hr : Room (n + 3) (A.deeper (envOfC I.qual I.scope s.heap.objs.size f cdv))) :
    PSs (cxOf C8.CX0 P w K mg base I.N I.qual I.scope f cdv A outer s H2 E0) I.body (tS K nm E0 fun ρ cs => sm T (run T k) F.body ρ cs) := by
  have g : Good T (run T k) nm { G with N := I.N } (cxOf C8.CX0 P w K mg base I.N I.qual I.scope f cdv A outer s H2 E0) ⟨I.scope, fun _ => true⟩ := ⟨n, b, ⟨rfl, rfl, rfl, S.nd, rfl, hr, S.kind⟩⟩
  exact (sndS F.body).s _ _ _ ⟨g, passes_of rfl⟩ hc
structure FOkk (nm : Nm) (K : PySem.W.Frag) (G : Gi) (f : Nat) (F : Fn) (I : FI) (fd : FuncData) : Prop where
  ck : chkF G F I = true
  fd : FunD K I.name I.qual I.params I.body I.scope [] [] (nm.fa f) fd
  b : FnB nm f F I
theorem chkF_of {F : Fn} {I : FI} (h : chkF G F I = true) : FnScope I.N I.ps I.scope ∧ F.n = I.N.length ∧ (I.ps.length = if F.star then F.np + 1 else F.np) ∧ F.dfl = [] ∧ (F.ini = none ∨ 0 < F.np) ∧ (ckS { G with N := I.N } F.body).s ⟨I.scope, fun _ => true⟩ I.body = true := by
  unfold chkF at h
  simp only [Bool.and_eq_true, beq_iff_eq, Bool.or_eq_true, decide_eq_true_eq, Option.isNone_iff_eq_none, List.isEmpty_iff] at h
  obtain ⟨⟨⟨⟨⟨h1, h2⟩, h3⟩, h4⟩, h5⟩, h6⟩ := h
  exact ⟨C8.fnScope_by h1, h2, h3, h4, h5, h6⟩
theorem ps_le {I : FI} (S : FnScope I.N I.ps I.scope) : I.ps.length ≤ I.N.length := by
  have := congrArg List.length S.pre
  rw [List.length_take] at this
  omega
/-- the slots where nothing is left over -/
theorem fresh_plain {F : Fn} {ds : List D} {ρ : Env} (hs : F.star = false) (h : freshE F ds = some ρ) : ds.length = F.np ∧ ρ = ds.map Slot.val ++ List.replicate (F.n - F.np) .emp := by
  unfold freshE at h
  rw [hs] at h
  simp only [Bool.false_eq_true, if_false] at h
  split at h
  · rename_i e
    exact ⟨e, (Option.some.inj h).symm⟩
  · cases h
theorem fresh_star {F : Fn} {ds : List D} {ρ : Env} (hs : F.star = true) (h : freshE F ds = some ρ) : F.np ≤ ds.length ∧ ds.length ≤ sizeLine ∧ ρ = (ds.take F.np).map Slot.val ++ Slot.val (.tup (ds.drop F.np)) :: List.replicate (F.n - (F.np + 1)) .emp := by
  unfold freshE at h
  rw [hs] at h
  simp only [if_true] at h
  split at h
  · rename_i e
    exact ⟨e.1, e.2, (Option.some.inj h).symm⟩
  · cases h
theorem fn_plain {f : Nat} {F : Fn} {I : FI} {fd : FuncData} (hF : T.fns[f]? = some F) (o : FOkk nm K G f F I fd) (hs : F.star = false) (hi : F.ini = none) (b : Bs T (run T k) nm { G with N := I.N } P w K mg base n) :
    FnOk P w K mg base C8.CX0 (n + 4) (nm.fa f) fd I.ps (spO K nm E0 (run T (k + 1)) f) := by
  obtain ⟨S, hn, hp, hd, _, hc⟩ := chkF_of o.ck
  rw [hs] at hp
  simp only [Bool.false_eq_true, if_false] at hp
  refine o.fd.ok S (fun vs H Q E h => ?_) (fun cdv A outer s H vs Q E hr h => ?_)
  · obtain ⟨_, g, cs, ds, co, rs, p⟩ := h
    rw [run_false hF hi hd] at p
    cases hρ : freshE F ds with
    | none => rw [hρ] at p; exact p.elim
    | some ρ =>
      rw [← rs.length, (fresh_plain hs hρ).1, hp]
  · obtain ⟨rfl, g, cs, ds, co, rs, p⟩ := h
    rw [run_false hF hi hd] at p
    cases hρ : freshE F ds with
    | none => rw [hρ] at p; exact p.elim
    | some ρ =>
      rw [hρ] at p
      obtain ⟨e1, rfl⟩ := fresh_plain hs hρ
      refine ⟨_, body_ok b S hc hr, 0, g, H, g, _, cs, ⟨?_, co, .refl, fun i d a h1 => ?_, fun i c fs h1 => ?_⟩, post_end p (fun _ _ z => z) (fun _ _ z => z)⟩
      · have := env_start rs (N := I.N) (n := F.n) hn.symm (by have := ps_le S; omega)
        rw [e1] at this
        exact this
      · exact (no_own h1).elim
      · exact (no_own h1).elim
theorem binds_plain {f : Nat} {F : Fn} {I : FI} {fd : FuncData} (o : FOkk nm K G f F I fd) (hs : F.star = false) : Binds K fd I.ps [] := o.fd.bindsN fun kV doc pm an cdv ct us hl => o.b.pos hs kV doc pm an cdv ct us hl
/-- with a star: what is left over is a new tuple -/
theorem fn_starred {f : Nat} {F : Fn} {I : FI} {fd : FuncData} (hF : T.fns[f]? = some F) (o : FOkk nm K G f F I fd) (hs : F.star = true) (hi : F.ini = none) (b : Bs T (run T k) nm { G with N := I.N } P w K mg base n) :
    FnR P w K mg base C8.CX0 (n + 4) (nm.fa f) (spO K nm E0 (run T (k + 1)) f) := by
  obtain ⟨S, hn, hp, hd, _, hc⟩ := chkF_of o.ck
  rw [hs] at hp
  simp only [if_true] at hp
  obtain ⟨ps', pv, eps, hb⟩ := o.b.star hs
  have hps : ps'.length = F.np := by
    rw [eps] at hp
    simpa using hp
  obtain ⟨oc, od, dV, kV, doc, pm, an, cdv, ct, osl, rfl, lk, hcd, hD, hK⟩ := o.fd.ex
  have hdV : dV = .none := by
    rcases hD with ⟨_, e⟩ | ⟨e, _⟩
    · exact e
    · exact absurd rfl e
  subst hdV
  have S2 : FnScope I.N (ps' ++ [pv]) I.scope := by rw [← eps]; exact S
  refine (StX.fn_star (k := n + 3) (sp := fun vs H2 Q E => E = E0 ∧ ∃ ws p rest H g cs ds, vs = ws ++ [V.ref p] ∧ ws.length = ps'.length ∧ H p = none ∧ H2 = upd H p (.tup rest) ∧ CsOk K nm g H cs ∧ Reps K nm g H ds (ws ++ rest) ∧ Post K nm E0 (Rep K nm) g H (run T (k + 1) false f ds cs) Q) lk hcd S2 (fun _ _ _ _ _ _ _ _ _ _ _ z => z) (fun us rest hl => hb kV doc pm an cdv ct us rest hl) (fun A outer s H2 vs Q E hr h => ?_)).imp fun vs H Q E h => ?_
  · obtain ⟨rfl, ws, p, rest, H, g, cs, ds, rfl, hl, hp0, rfl, co, rs, pp⟩ := h
    rw [run_false hF hi hd] at pp
    cases hρ : freshE F ds with
    | none => rw [hρ] at pp; exact pp.elim
    | some ρ =>
      rw [hρ] at pp
      obtain ⟨e1, e2, rfl⟩ := fresh_star hs hρ
      have e : Ext g H (g.add p) (upd H p (.tup rest)) := ext_new hp0
      have co2 := co.new (o := .tup rest) hp0
      have r1 : Reps K nm (g.add p) (upd H p (.tup rest)) (ds.take F.np) ws := by
        have := (rs.take F.np).mono e co.ok
        rwa [show (ws ++ rest).take F.np = ws by rw [← hps, ← hl]; simp] at this
      have r2 : Reps K nm (g.add p) (upd H p (.tup rest)) (ds.drop F.np) rest := by
        have := (rs.drop F.np).mono e co.ok
        rwa [show (ws ++ rest).drop F.np = rest by rw [← hps, ← hl]; simp] at this
      have r3 : Reps K nm (g.add p) (upd H p (.tup rest)) (ds.take F.np ++ [D.tup (ds.drop F.np)]) (ws ++ [V.ref p]) := r1.append (.cons (.tup (.inr rfl) upd_same r2) .nil)
      have eρ : (ds.take F.np).map Slot.val ++ Slot.val (.tup (ds.drop F.np)) :: List.replicate (F.n - (F.np + 1)) .emp = (ds.take F.np ++ [D.tup (ds.drop F.np)]).map Slot.val ++ List.replicate (F.n - (ds.take F.np ++ [D.tup (ds.drop F.np)]).length) .emp := by
        have : (ds.take F.np ++ [D.tup (ds.drop F.np)]).length = F.np + 1 := by simp; omega
        rw [this]
        simp
      rw [eρ] at pp
      refine ⟨_, body_ok b S hc hr, 0, g, H, g.add p, _, cs, ⟨?_, co2, e, fun i d a h1 => ?_, fun i c fs h1 => ?_⟩, post_end pp (fun _ _ z => z) (fun _ _ z => z)⟩
      · refine env_start r3 (N := I.N) (n := F.n) hn.symm ?_
        have := ps_le S
        simp
        omega
      · exact (no_own h1).elim
      · exact (no_own h1).elim
  · obtain ⟨rfl, g, cs, ds, co, rs, p⟩ := h
    have p0 := p
    rw [run_false hF hi hd] at p
    cases hρ : freshE F ds with
    | none => rw [hρ] at p; exact p.elim
    | some ρ =>
      obtain ⟨e1, e2, _⟩ := fresh_star hs hρ
      have hl := rs.length
      refine ⟨vs.take F.np, vs.drop F.np, (List.take_append_drop _ _).symm, by simp; omega, by simp; omega, fun q hq => ⟨rfl, vs.take F.np, q, vs.drop F.np, H, g, cs, ds, rfl, by simp; omega, hq, rfl, co, by rw [List.take_append_drop]; exact rs, p0⟩⟩
end
end Dv
end
section
set_option Elab.async false
set_option linter.all false
set_option maxRecDepth 100000
set_option maxHeartbeats 4000000
namespace Dv
open PySem PySem.Spec PyProof.Rows L2
section
variable {T : Tab} {nm : Nm} {G : Gi} {P : Program} {w : World} {K : PySem.W.Frag} {mg : Str → Option Value} {base : Heap} {n k : Nat}
theorem freshI_some {F : Fn} {c : Nat} {ds : List D} {ρ : Env} (h : freshI F c ds = some ρ) : ∃ ρ', freshE { F with np := F.np - 1, n := F.n - 1 } ds = some ρ' ∧ ρ = .own (.ins c []) :: ρ' := by
  unfold freshI at h
  cases q : freshE { F with np := F.np - 1, n := F.n - 1 } ds with
  | none => rw [q] at h; cases h
  | some ρ' => rw [q] at h; cases h; exact ⟨ρ', rfl, rfl⟩
theorem ini_laid {g : Gh} {H : Hp} {cs : Cells} {x dx : Addr} {C : Addr} (co : CsOk K nm g H cs) (h1 : H x = none) (h2 : H dx = none) (h3 : dx ≠ x) :
    Ext g H g (upd (upd H dx (.own x)) x (.ins C dx [])) ∧ CsOk K nm g (upd (upd H dx (.own x)) x (.ins C dx [])) cs := by
  have hx : upd H dx (.own x) x = none := by rw [upd_ne (Ne.symm h3)]; exact h1
  exact ⟨(ext_laid h2).trans (ext_laid hx), (co.laid h2).laid hx⟩
theorem fok_self {N : List Str} {ds : List D} {vs : List V} {m : Nat} {c : Nat} {x dx : Addr} {g g2 : Gh} {H H2 : Hp} {cs : Cells} (hx : H x = none) (hfz : ¬ g2.fz x) (hio : x ∉ g2.io) (hH : H2 x = some (.ins (nm.ca c) dx [])) (e : Ext g H g2 H2) (co : CsOk K nm g2 H2 cs) (r : Reps K nm g2 H2 ds vs) (hn : N.length = m + 1) (hl : ds.length ≤ m) :
    FOk K nm x g H g2 H2 (L2.start N (.ref x :: vs)) (.own (.ins c []) :: (ds.map Slot.val ++ List.replicate (m - ds.length) .emp)) cs := by
  have en := env_self (d := D.ins c []) r hn hl ⟨x, rfl, hfz, hio, dx, [], hH, .nil⟩
  have first : ∀ {i : Nat} {d : D}, (Slot.own (.ins c []) :: (ds.map Slot.val ++ List.replicate (m - ds.length) .emp))[i]? = some (.own d) → i = 0 := fun {i d} h => by
    cases i with
    | zero => rfl
    | succ i =>
      rw [List.getElem?_cons_succ] at h
      exact (no_own h).elim
  have s0 : (L2.start N (.ref x :: vs))[0]? = some (some (V.ref x)) := by
    unfold L2.start
    rfl
  refine ⟨en, co, e, fun i d a h1 h2 => ?_, fun i c' fs h1 => ?_⟩
  · have := first h1
    subst this
    rw [s0] at h2
    cases h2
    exact hx
  · have := first h1
    subst this
    exact s0
theorem ini_plain {f c : Nat} {F : Fn} {I : FI} {fd : FuncData} (hF : T.fns[f]? = some F) (o : FOkk nm K G f F I fd) (hs : F.star = false) (hi : F.ini = some c) (b : Bs T (run T k) nm { G with N := I.N } P w K mg base n) :
    FnOk P w K mg base C8.CX0 (n + 4) (nm.fa f) fd I.ps (spI K nm E0 (run T (k + 1)) c f) := by
  obtain ⟨S, hn, hp, hd, hp0, hc⟩ := chkF_of o.ck
  rw [hs] at hp
  simp only [Bool.false_eq_true, if_false] at hp
  have hnp : 0 < F.np := by
    rcases hp0 with z | z
    · rw [hi] at z; cases z
    · exact z
  refine o.fd.ok S (fun vs H Q E h => ?_) (fun cdv A outer s H vs Q E hr h => ?_)
  · obtain ⟨_, x, dx, vs', H, g, cs, ds, rfl, h1, h2, h3, _, co, rs, p⟩ := h
    rw [run_true hF hi hd] at p
    cases hρ : freshI F c ds with
    | none => rw [hρ] at p; exact p.elim
    | some ρ =>
      obtain ⟨ρ', e1, _⟩ := freshI_some hρ
      obtain ⟨e2, _⟩ := fresh_plain (F := { F with np := F.np - 1, n := F.n - 1 }) hs e1
      have e2 : ds.length = F.np - 1 := e2
      rw [List.length_cons, ← rs.length, e2, hp]
      omega
  · obtain ⟨rfl, x, dx, vs', H, g, cs, ds, rfl, h1, h2, h3, rfl, co, rs, p⟩ := h
    rw [run_true hF hi hd] at p
    cases hρ : freshI F c ds with
    | none => rw [hρ] at p; exact p.elim
    | some ρ =>
      rw [hρ] at p
      obtain ⟨ρ', e1, rfl⟩ := freshI_some hρ
      obtain ⟨e2, rfl⟩ := fresh_plain (F := { F with np := F.np - 1, n := F.n - 1 }) hs e1
      have e2 : ds.length = F.np - 1 := e2
      obtain ⟨ex, co2⟩ := ini_laid (C := nm.ca c) co h1 h2 h3
      have hle := ps_le S
      have fo := fok_self (N := I.N) (m := F.n - 1) (c := c) h1 (fun z => co.ok.fzt x z h1) (fun z => co.ok.iot x z h1) upd_same ex co2 (rs.mono ex co.ok) (by omega) (by omega)
      rw [e2] at fo
      exact ⟨_, body_ok b S hc hr, x, g, H, g, _, cs, fo, post_ini h1 p fun _ _ z => z⟩
theorem ini_starred {f c : Nat} {F : Fn} {I : FI} {fd : FuncData} (hF : T.fns[f]? = some F) (o : FOkk nm K G f F I fd) (hs : F.star = true) (hi : F.ini = some c) (b : Bs T (run T k) nm { G with N := I.N } P w K mg base n) :
    FnR P w K mg base C8.CX0 (n + 4) (nm.fa f) (spI K nm E0 (run T (k + 1)) c f) := by
  obtain ⟨S, hn, hp, hd, hp0, hc⟩ := chkF_of o.ck
  rw [hs] at hp
  simp only [if_true] at hp
  have hnp : 0 < F.np := by
    rcases hp0 with z | z
    · rw [hi] at z; cases z
    · exact z
  obtain ⟨ps', pv, eps, hb⟩ := o.b.star hs
  have hps : ps'.length = F.np := by
    rw [eps] at hp
    simpa using hp
  obtain ⟨oc, od, dV, kV, doc, pm, an, cdv, ct, osl, rfl, lk, hcd, hD, hK⟩ := o.fd.ex
  have hdV : dV = .none := by
    rcases hD with ⟨_, e⟩ | ⟨e, _⟩
    · exact e
    · exact absurd rfl e
  subst hdV
  have S2 : FnScope I.N (ps' ++ [pv]) I.scope := by rw [← eps]; exact S
  refine (StX.fn_star (k := n + 3) (sp := fun vs H3 Q E => E = E0 ∧ ∃ x dx ws p rest H g cs ds, vs = V.ref x :: (ws ++ [V.ref p]) ∧ ws.length + 1 = ps'.length ∧ H x = none ∧ H dx = none ∧ dx ≠ x ∧ upd (upd H dx (.own x)) x (.ins (nm.ca c) dx []) p = none ∧
      H3 = upd (upd (upd H dx (.own x)) x (.ins (nm.ca c) dx [])) p (.tup rest) ∧ CsOk K nm g H cs ∧ Reps K nm g H ds (ws ++ rest) ∧ Post K nm E0 (Rep K nm) g H (run T (k + 1) true f ds cs) (fun v H' => v = .ref x → Q .non H')) lk hcd S2 (fun _ _ _ _ _ _ _ _ _ _ _ z => z) (fun us rest hl => hb kV doc pm an cdv ct us rest hl) (fun A outer s H3 vs Q E hr h => ?_)).imp fun vs H Q E h => ?_
  · obtain ⟨rfl, x, dx, ws, p, rest, H, g, cs, ds, rfl, hl, h1, h2, h3, hp1, rfl, co, rs, pp⟩ := h
    rw [run_true hF hi hd] at pp
    cases hρ : freshI F c ds with
    | none => rw [hρ] at pp; exact pp.elim
    | some ρ =>
      rw [hρ] at pp
      obtain ⟨ρ', e0, rfl⟩ := freshI_some hρ
      obtain ⟨e1, e2, rfl⟩ := fresh_star (F := { F with np := F.np - 1, n := F.n - 1 }) hs e0
      have e1 : F.np - 1 ≤ ds.length := e1
      obtain ⟨ex, co2⟩ := ini_laid (C := nm.ca c) co h1 h2 h3
      have ex2 : Ext g (upd (upd H dx (.own x)) x (.ins (nm.ca c) dx [])) (g.add p) (upd (upd (upd H dx (.own x)) x (.ins (nm.ca c) dx [])) p (.tup rest)) := ext_new hp1
      have co3 := co2.new (o := .tup rest) hp1
      have ex3 := ex.trans ex2
      have hpx : x ≠ p := fun z => by subst z; rw [upd_same] at hp1; cases hp1
      have r1 : Reps K nm (g.add p) (upd (upd (upd H dx (.own x)) x (.ins (nm.ca c) dx [])) p (.tup rest)) (ds.take (F.np - 1)) ws := by
        have := (rs.take (F.np - 1)).mono ex3 co.ok
        rwa [show (ws ++ rest).take (F.np - 1) = ws by rw [show F.np - 1 = ws.length by omega]; simp] at this
      have r2 : Reps K nm (g.add p) (upd (upd (upd H dx (.own x)) x (.ins (nm.ca c) dx [])) p (.tup rest)) (ds.drop (F.np - 1)) rest := by
        have := (rs.drop (F.np - 1)).mono ex3 co.ok
        rwa [show (ws ++ rest).drop (F.np - 1) = rest by rw [show F.np - 1 = ws.length by omega]; simp] at this
      have r3 : Reps K nm (g.add p) (upd (upd (upd H dx (.own x)) x (.ins (nm.ca c) dx [])) p (.tup rest)) (ds.take (F.np - 1) ++ [D.tup (ds.drop (F.np - 1))]) (ws ++ [V.ref p]) := r1.append (.cons (.tup (.inr rfl) upd_same r2) .nil)
      have len : (ds.take (F.np - 1) ++ [D.tup (ds.drop (F.np - 1))]).length = F.np := by simp; omega
      have eρ : (ds.take (F.np - 1)).map Slot.val ++ Slot.val (.tup (ds.drop (F.np - 1))) :: List.replicate (F.n - 1 - (F.np - 1 + 1)) .emp = (ds.take (F.np - 1) ++ [D.tup (ds.drop (F.np - 1))]).map Slot.val ++ List.replicate (F.n - 1 - (ds.take (F.np - 1) ++ [D.tup (ds.drop (F.np - 1))]).length) .emp := by
        rw [len, show F.np - 1 + 1 = F.np by omega]
        simp
      have pp : Post K nm E0 (Rep K nm) g H ((sm T (run T k) F.body (.own (.ins c []) :: ((ds.take (F.np - 1)).map Slot.val ++ Slot.val (.tup (ds.drop (F.np - 1))) :: List.replicate (F.n - 1 - (F.np - 1 + 1)) .emp)) cs).bind (endI (mutOf T c))) (fun v H' => v = .ref x → Q .non H') := pp
      rw [eρ] at pp
      have hle := ps_le S
      have fo := fok_self (N := I.N) (m := F.n - 1) (c := c) (dx := dx) (g2 := g.add p) (H2 := upd (upd (upd H dx (.own x)) x (.ins (nm.ca c) dx [])) p (.tup rest)) h1 (fun z => Or.elim z (fun z => co.ok.fzt x z h1) fun z => hpx z) (fun z => co.ok.iot x z h1) (by rw [upd_ne hpx]; exact upd_same) ex3 co3 r3 (by omega) (by rw [len]; omega)
      exact ⟨_, body_ok b S hc hr, x, g, H, g.add p, _, cs, fo, post_ini h1 pp fun _ _ z => z⟩
  · obtain ⟨rfl, x, dx, vs', H0, g, cs, ds, rfl, h1, h2, h3, rfl, co, rs, p⟩ := h
    have p0 := p
    rw [run_true hF hi hd] at p
    cases hρ : freshI F c ds with
    | none => rw [hρ] at p; exact p.elim
    | some ρ =>
      obtain ⟨ρ', e0, _⟩ := freshI_some hρ
      obtain ⟨e1, e2, _⟩ := fresh_star (F := { F with np := F.np - 1, n := F.n - 1 }) hs e0
      have e1 : F.np - 1 ≤ ds.length := e1
      have hl := rs.length
      refine ⟨.ref x :: vs'.take (F.np - 1), vs'.drop (F.np - 1), by rw [List.cons_append, List.take_append_drop], by simp; omega, by simp; omega, fun q hq => ⟨rfl, x, dx, vs'.take (F.np - 1), q, vs'.drop (F.np - 1), H0, g, cs, ds, rfl, by simp; omega, h1, h2, h3, hq, rfl, co, by rw [List.take_append_drop]; exact rs, p0⟩⟩
theorem kw_plain {f : Nat} {F : Fn} {I : FI} {fd : FuncData} (hF : T.fns[f]? = some F) (o : FOkk nm K G f F I fd) (hi : F.ini = none) (b : Bs T (run T k) nm { G with N := I.N } P w K mg base n) {m : Nat} {ks : List Str} {perm : List Nat} (hk : nm.kw f m ks perm = true) :
    FnK P w K mg base C8.CX0 (n + 4) (nm.fa f) m ks perm (spO K nm E0 (run T (k + 1)) f) := by
  obtain ⟨hs, hb⟩ := o.b.kw m ks perm hk
  have FO := fn_plain hF o hs hi b
  intro A outer s H us ws vs zs ys Q E hr e0 rv rz h1 h2 h3 hsp
  obtain ⟨oc, od, dV, kV, doc, pm, an, cdv, ct, osl, rfl, lk, hcd, hD, hK⟩ := o.fd.ex
  have hdV : dV = .none := by
    rcases hD with ⟨_, e⟩ | ⟨e, _⟩
    · exact e
    · exact absurd rfl e
  subst hdV
  obtain ⟨yv, y1, y2, y3⟩ := hb kV doc pm an cdv ct us ws (by rw [← rv.length]; exact h1) (by rw [← rz.length]; exact h2)
  exact FO.run A outer s H ⟨us, ks.zip ws⟩ yv ys Q E hr e0 (.of_eq y3) (vals_perm (rv.append rz) h3 y1) hsp
theorem fnr_none {f : Nat} {sp : Sp} {m : Nat} (h : ∀ vs H Q E, ¬ sp vs H Q E) : FnR P w K mg base C8.CX0 m (nm.fa f) sp := fun A outer s H us vs Q E hr e0 r hs => (h _ _ _ _ hs).elim
theorem run_out {f : Nat} {b : Bool} {ds : List D} {cs : Cells} (hF : T.fns[f]? = none) : run T (k + 1) b f ds cs = .bad := by
  cases b <;> (unfold run; rw [hF])
theorem run_ini {f c : Nat} {F : Fn} {ds : List D} {cs : Cells} (hF : T.fns[f]? = some F) (hi : F.ini = some c) : run T (k + 1) false f ds cs = .bad := by
  unfold run
  simp only [hF, hi]
theorem spO_bad {O : Orc} {f : Nat} (h : ∀ ds cs, O false f ds cs = .bad) (vs : List V) (H : Hp) (Q : VK) (E : XK) : ¬ spO K nm E0 O f vs H Q E := fun ⟨_, g, cs, ds, _, _, p⟩ => by rw [h] at p; exact p
theorem spI_bad {O : Orc} {c f : Nat} (h : ∀ ds cs, O true f ds cs = .bad) (vs : List V) (H : Hp) (Q : VK) (E : XK) : ¬ spI K nm E0 O c f vs H Q E := fun ⟨_, x, dx, vs', H0, g, cs, ds, _, _, _, _, _, _, _, p⟩ => by rw [h] at p; exact p
theorem fnk_none {f m : Nat} {sp : Sp} {ks : List Str} {perm : List Nat} {l : Nat} (h : ∀ vs H Q E, ¬ sp vs H Q E) : FnK P w K mg base C8.CX0 l (nm.fa f) m ks perm sp := fun A outer s H us ws vs zs ys Q E hr e0 rv rz h1 h2 h3 hs => (h _ _ _ _ hs).elim
/-- ALL DEFS, so many calls deep -/
theorem bs_all (fi : Nat → FI) (hT : Top T nm K) (hG : ∀ N, Gok T nm K mg { G with N := N }) (hf : ∀ f F, T.fns[f]? = some F → ∃ fd, FOkk nm K G f F (fi f) fd) (hini : ∀ (c : Nat) (k' : Cl) (f : Nat) (F : Fn), T.cls[c]? = some k' → k'.init = some f → T.fns[f]? = some F → F.ini = some c)
    (hkw : ∀ f n ks perm, nm.kw f n ks perm = true → ∃ F, T.fns[f]? = some F) :
    ∀ k N, Bs T (run T k) nm { G with N := N } P w K mg base (4 * k)
  | 0, N => ⟨hT, hG N, fun f => fnr_none (spO_bad fun _ _ => rfl), fun c k' f _ _ => fnr_none (spI_bad fun _ _ => rfl), fun f n ks perm _ => fnk_none (spO_bad fun _ _ => rfl)⟩
  | k + 1, N => by
    have IH := bs_all fi hT hG hf hini hkw k
    refine ⟨hT, hG N, fun f => ?_, fun c k' f hc hk' => ?_, fun f n ks perm hk => ?_⟩
    · cases hF : T.fns[f]? with
      | none => exact fnr_none (spO_bad fun _ _ => run_out hF)
      | some F =>
        obtain ⟨fd, o⟩ := hf f F hF
        cases hi : F.ini with
        | some c => exact fnr_none (spO_bad fun _ _ => run_ini hF hi)
        | none =>
          cases hs : F.star with
          | true => exact fn_starred hF o hs hi (IH (fi f).N)
          | false => exact (FnOk.raw (fn_plain hF o hs hi (IH (fi f).N)) (binds_plain o hs) .nil).imp fun vs H Q E h => by rw [List.append_nil]; exact h
    · cases hF : T.fns[f]? with
      | none => exact fnr_none (spI_bad fun _ _ => run_out hF)
      | some F =>
        obtain ⟨fd, o⟩ := hf f F hF
        have hi := hini c k' f F hc hk' hF
        cases hs : F.star with
        | true => exact ini_starred hF o hs hi (IH (fi f).N)
        | false => exact (FnOk.raw (ini_plain hF o hs hi (IH (fi f).N)) (binds_plain o hs) .nil).imp fun vs H Q E h => by rw [List.append_nil]; exact h
    · obtain ⟨F, hF⟩ := hkw f n ks perm hk
      obtain ⟨fd, o⟩ := hf f F hF
      cases hi : F.ini with
      | some c => exact fnk_none (spO_bad fun _ _ => run_ini hF hi)
      | none => exact kw_plain hF o hi (IH (fi f).N) hk
end
end Dv
end
section
set_option Elab.async false
set_option linter.all false
set_option maxRecDepth 100000
set_option maxHeartbeats 4000000
namespace Dv
open PySem PySem.Spec PyProof.Rows L2
/-! ### a law's data, and the look at the heap behind the top -/
inductive FW where
  | glo (x : Str) | meth (x m : Str) | prp (x m : Str)
def FW.ad (K : PySem.W.Frag) : FW → Addr
  | .glo x => He.ga K x
  | .meth x m => He.ma K (He.ga K x) m
  | .prp x m => match PySem.W.recIn K (He.ma K (He.ga K x) m) "property" with
    | some (.ref g :: _) => g
    | _ => 0
structure LD where
  T : Tab
  cn : List Str
  ats : List Str
  mts : List Str
  fi : List FI
  fw : List FW
  glo : List (Str × GV)
  kw : List (Nat × Nat × List Str × List Nat)
def LD.ca (L : LD) (K : PySem.W.Frag) (c : Nat) : Addr := He.ga K (L.cn.getD c ⟨#[]⟩)
def LD.fa (L : LD) (K : PySem.W.Frag) (f : Nat) : Addr := (L.fw.getD f (.glo ⟨#[]⟩)).ad K
def LD.mt (L : LD) (m : Nat) : Str := L.mts.getD m ⟨#[]⟩
def LD.kwB (L : LD) (f n : Nat) (ks : List Str) (perm : List Nat) : Bool := L.kw.contains (f, n, ks, perm)
def LD.nm (L : LD) (K : PySem.W.Frag) : Nm := ⟨L.ca K, mkAt L.ats, L.fa K, L.mt, L.kwB⟩
def LD.gi (L : LD) : Gi := ⟨[], fun x => L.glo.lookup x, mkAt L.ats, L.mt, L.kwB, L.T⟩
def tB : List String := ["int", "bool", "str", "list", "tuple", "dict"]
def tN : List String := ["NoneType", "bool", "int", "str", "tuple", "list", "dict"]
def prpB (K : PySem.W.Frag) (C : Addr) (x : Str) (g : Addr) : Bool :=
  He.eqO (PySem.W.findIn K (.ref C) x) (some (some (.ref (He.ma K C x)))) && He.eqO (PySem.W.specialIn K (.ref (He.ma K C x)) "__get__") (some (some (.builtin "property.__get__"))) &&
    decide (PySem.W.takesIn K (.ref (He.ma K C x)) = some true) && (match PySem.W.recIn K (He.ma K C x) "property" with
    | some (.ref b :: _) => decide (b = g)
    | _ => false)
theorem prpB_ok {K : PySem.W.Frag} {C g : Addr} {x : Str} (h : prpB K C x g = true) : PropOf K C x (He.ma K C x) g := by
  unfold prpB at h
  simp only [Bool.and_eq_true, decide_eq_true_eq] at h
  obtain ⟨⟨⟨h1, h2⟩, h3⟩, h4⟩ := h
  refine ⟨He.eqO_ok h1, He.eqO_ok h2, h3, ?_⟩
  split at h4
  · rename_i b r q
    exact ⟨r, by rw [← of_decide_eq_true h4]; exact q⟩
  · cases h4
def clsB (L : LD) (K : PySem.W.Frag) (c : Nat) (k : Cl) : Bool :=
  (PySem.W.plainGet K (L.ca K c) Str.empty && PySem.W.hasDictIn K (L.ca K c) && PySem.W.plainOver K (L.ca K c) && He.eqO (PySem.W.findIn K (.ref (L.ca K c)) "__setattr__") (some (some (.builtin "object.__setattr__")))) &&
  (k.atr.all fun j => He.eqO (PySem.W.findIn K (.ref (L.ca K c)) (mkAt L.ats j)) (some none)) &&
  (k.meths.all fun p => He.eqO (PySem.W.findIn K (.ref (L.ca K c)) (L.mt p.1)) (some (some (.ref (L.fa K p.2)))) && PySem.W.isFn K (.ref (L.fa K p.2)) && PySem.W.keepIn K (.ref (L.fa K p.2)) && PySem.W.fnIn K (L.fa K p.2)) &&
  (k.init.all fun f => PySem.W.makesIn K (L.ca K c) && He.eqO (PySem.W.findIn K (.ref (L.ca K c)) "__init__") (some (some (.ref (L.fa K f)))) && PySem.W.isFn K (.ref (L.fa K f)) && PySem.W.keepIn K (.ref (L.ca K c))) &&
  (k.props.all fun p => prpB K (L.ca K c) (mkAt L.ats p.1) (L.fa K p.2)) &&
  PySem.W.selfFirst K (L.ca K c) &&
  (He.eqO (PySem.W.findIn K (.ref (L.ca K c)) "__class__") (some (some (.builtin "object.__class__"))) && He.eqO (PySem.W.specialIn K (.builtin "object.__class__") "__get__") (some (some (.builtin "getset_descriptor.__get__"))) &&
    decide (PySem.W.takesIn K (.builtin "object.__class__") = some true) && decide (PySem.W.mroIn K (L.ca K c) (.type "object") = some true)) &&
  ((List.range L.T.cls.length).all fun c' => decide (PySem.W.kitOne K (.ref (L.ca K c)) (.ref (L.ca K c')) = some (k.anc.contains c')) && PySem.W.notFirst K (L.ca K c) (.ref (L.ca K c'))) &&
  (tB.all fun t => decide (PySem.W.kitOne K (.ref (L.ca K c)) (.type t) = some false)) &&
  (tN.all fun t => decide (PySem.W.kitOne K (.type t) (.ref (L.ca K c)) = some false) && PySem.W.notFirst K (L.ca K c) (.type t)) &&
  PySem.W.noIn K (L.ca K c) (Operator.info .Add).2 &&
  PySem.W.noSeq K (L.ca K c) &&
  ((k.meths.lookup nEq).isNone || He.eqO (PySem.W.findIn K (.ref (L.ca K c)) "__ne__") (some (some (.builtin "object.__ne__"))))
def LD.clsAll (L : LD) (K : PySem.W.Frag) : Bool := (List.range L.T.cls.length).all fun c => match L.T.cls[c]? with
  | some k => clsB L K c k
  | none => false
def dns : List Str := ["__eq__", "__add__", "__invert__", "__str__", "__len__", "__iter__", "__bool__", "__contains__", "__getitem__", "__call__", "__or__", "__and__", "__sub__"]
/-- the names are right -/
def LD.sane (L : LD) : Bool := decide L.ats.Nodup && (L.ats.all fun x => x.cps.all (· < 1114112)) && (L.mts.all fun x => x.cps.all (· < 1114112) && !L.ats.contains x) && !L.ats.contains ⟨#[]⟩ && decide (L.mts.take 13 = dns) && decide (L.fi.length = L.T.fns.length) && decide (L.fw.length = L.T.fns.length) && (L.kw.all fun q => decide (q.1 < L.T.fns.length)) &&
  ((List.range L.T.cls.length).all fun c => match L.T.cls[c]? with
    | some k => (match k.init with
      | some f => (match L.T.fns[f]? with
        | some F => decide (F.ini = some c)
        | none => true)
      | none => true)
    | none => true)
theorem mem_of_lookup {α β : Type} [BEq α] [LawfulBEq α] {a : α} {b : β} : ∀ {l : List (α × β)}, l.lookup a = some b → (a, b) ∈ l
  | [], h => by cases h
  | (x, y) :: r, h => by
    rw [List.lookup_cons] at h
    cases q : (a == x) with
    | true =>
      rw [q] at h
      cases h
      rw [eq_of_beq q]
      exact List.mem_cons_self
    | false =>
      rw [q] at h
      exact List.mem_cons_of_mem _ (mem_of_lookup h)
section
variable {L : LD} {K : PySem.W.Frag}
theorem cls_of (h : L.clsAll K = true) {c : Nat} {k : Cl} (e : L.T.cls[c]? = some k) : clsB L K c k = true := by
  have hc : c < L.T.cls.length := by
    rcases Nat.lt_or_ge c L.T.cls.length with q | q
    · exact q
    · rw [List.getElem?_eq_none q] at e; cases e
  have := List.all_eq_true.mp h c (List.mem_range.mpr hc)
  rw [e] at this
  exact this
theorem cls_lt {c : Nat} {k : Cl} (e : L.T.cls[c]? = some k) : c < L.T.cls.length := by
  rcases Nat.lt_or_ge c L.T.cls.length with q | q
  · exact q
  · rw [List.getElem?_eq_none q] at e; cases e
theorem mt_at (hs : L.sane = true) (m j : Nat) : L.mt m ≠ mkAt L.ats j := by
  unfold LD.sane at hs
  simp only [Bool.and_eq_true, List.all_eq_true, decide_eq_true_eq] at hs
  obtain ⟨⟨⟨⟨⟨⟨⟨⟨s1, s2⟩, s3⟩, s4⟩, s5⟩, s6⟩, s7⟩, s8⟩, s9⟩ := hs
  intro e
  unfold LD.mt mkAt at e
  rw [List.getD_eq_getElem?_getD, List.getD_eq_getElem?_getD] at e
  cases q1 : L.ats[j]? with
  | some x =>
    have hx := List.mem_of_getElem? q1
    rw [q1] at e
    cases q2 : L.mts[m]? with
    | some y =>
      rw [q2] at e
      have e : y = x := e
      have := (s3 y (List.mem_of_getElem? q2)).2
      rw [e] at this
      simp [hx] at this
    | none =>
      rw [q2] at e
      have e : (⟨#[]⟩ : Str) = x := e
      rw [e] at s4
      simp [hx] at s4
  | none =>
    rw [q1] at e
    cases q2 : L.mts[m]? with
    | some y =>
      rw [q2] at e
      have e : y = ⟨#[1114112 + j]⟩ := e
      have := (s3 y (List.mem_of_getElem? q2)).1
      rw [e] at this
      simp at this
      omega
    | none =>
      rw [q2] at e
      have e : (⟨#[]⟩ : Str) = ⟨#[1114112 + j]⟩ := e
      cases e
theorem mts_get (hs : L.sane = true) (i : Nat) (hi : i < 13) : L.mt i = dns.getD i ⟨#[]⟩ := by
  unfold LD.sane at hs
  simp only [Bool.and_eq_true, List.all_eq_true, decide_eq_true_eq] at hs
  obtain ⟨⟨⟨⟨⟨⟨⟨⟨s1, s2⟩, s3⟩, s4⟩, s5⟩, s6⟩, s7⟩, s8⟩, s9⟩ := hs
  unfold LD.mt
  rw [List.getD_eq_getElem?_getD, List.getD_eq_getElem?_getD, ← s5, List.getElem?_take, if_pos hi]
theorem top_ok (hs : L.sane = true) (h : L.clsAll K = true) : Top L.T (L.nm K) K := by
  have key : ∀ {c k}, L.T.cls[c]? = some k → _ := fun {c k} e => by
    have z := cls_of h e
    unfold clsB at z
    simp only [Bool.and_eq_true, decide_eq_true_eq, List.all_eq_true, Option.all_eq_true, Bool.or_eq_true, Option.isNone_iff_eq_none] at z
    exact z
  have hs' := hs
  unfold LD.sane at hs'
  simp only [Bool.and_eq_true, List.all_eq_true, decide_eq_true_eq] at hs'
  obtain ⟨⟨⟨⟨⟨⟨⟨⟨s1, s2⟩, s3⟩, s4⟩, s5⟩, s6⟩, s7⟩, s8⟩, s9⟩ := hs'
  refine { nmok := ?_, cls := ?_, at_ := ?_, met := ?_, mkr := ?_, prp := ?_, sf := ?_, insT := ?_, kCC := ?_, kCB := ?_, kBC := ?_, noi := ?_, mtat := mt_at hs, nosq := ?_, fni := ?_, ne := ?_, nfT := ?_, nfC := ?_, dn := ?_ }
  · exact mkAt_inj s1 s2
  · intro c k e
    obtain ⟨⟨⟨⟨⟨⟨⟨⟨⟨⟨⟨⟨z1, z2⟩, z3⟩, z4⟩, z5⟩, z6⟩, z7⟩, z8⟩, z9⟩, z10⟩, z11⟩, z12⟩, z13⟩ := key e
    exact ⟨z1.1.1.1, z1.1.1.2, z1.1.2, He.eqO_ok z1.2⟩
  · intro c k j e hj
    obtain ⟨⟨⟨⟨⟨⟨⟨⟨⟨⟨⟨⟨z1, z2⟩, z3⟩, z4⟩, z5⟩, z6⟩, z7⟩, z8⟩, z9⟩, z10⟩, z11⟩, z12⟩, z13⟩ := key e
    exact He.eqO_ok (z2 j hj)
  · intro c k m f e hl
    obtain ⟨⟨⟨⟨⟨⟨⟨⟨⟨⟨⟨⟨z1, z2⟩, z3⟩, z4⟩, z5⟩, z6⟩, z7⟩, z8⟩, z9⟩, z10⟩, z11⟩, z12⟩, z13⟩ := key e
    obtain ⟨⟨⟨w1, w2⟩, w3⟩, w4⟩ := z3 _ (mem_of_lookup hl)
    exact ⟨He.eqO_ok w1, w2, w3⟩
  · intro c k f e hi
    obtain ⟨⟨⟨⟨⟨⟨⟨⟨⟨⟨⟨⟨z1, z2⟩, z3⟩, z4⟩, z5⟩, z6⟩, z7⟩, z8⟩, z9⟩, z10⟩, z11⟩, z12⟩, z13⟩ := key e
    obtain ⟨⟨⟨w1, w2⟩, w3⟩, w4⟩ := z4 f hi
    exact ⟨w1, He.eqO_ok w2, w3, w4⟩
  · intro c k j f e hl
    obtain ⟨⟨⟨⟨⟨⟨⟨⟨⟨⟨⟨⟨z1, z2⟩, z3⟩, z4⟩, z5⟩, z6⟩, z7⟩, z8⟩, z9⟩, z10⟩, z11⟩, z12⟩, z13⟩ := key e
    exact ⟨_, prpB_ok (z5 _ (mem_of_lookup hl))⟩
  · intro c k e
    obtain ⟨⟨⟨⟨⟨⟨⟨⟨⟨⟨⟨⟨z1, z2⟩, z3⟩, z4⟩, z5⟩, z6⟩, z7⟩, z8⟩, z9⟩, z10⟩, z11⟩, z12⟩, z13⟩ := key e
    exact z6
  · intro c k e
    obtain ⟨⟨⟨⟨⟨⟨⟨⟨⟨⟨⟨⟨z1, z2⟩, z3⟩, z4⟩, z5⟩, z6⟩, z7⟩, z8⟩, z9⟩, z10⟩, z11⟩, z12⟩, z13⟩ := key e
    exact ⟨He.eqO_ok z7.1.1.1, He.eqO_ok z7.1.1.2, z7.1.2, z7.2⟩
  · intro c c' k k' e e'
    obtain ⟨⟨⟨⟨⟨⟨⟨⟨⟨⟨⟨⟨z1, z2⟩, z3⟩, z4⟩, z5⟩, z6⟩, z7⟩, z8⟩, z9⟩, z10⟩, z11⟩, z12⟩, z13⟩ := key e
    exact (z8 c' (List.mem_range.mpr (cls_lt e'))).1
  · intro c k t e ht
    obtain ⟨⟨⟨⟨⟨⟨⟨⟨⟨⟨⟨⟨z1, z2⟩, z3⟩, z4⟩, z5⟩, z6⟩, z7⟩, z8⟩, z9⟩, z10⟩, z11⟩, z12⟩, z13⟩ := key e
    exact z9 t ht
  · intro c k t e ht
    obtain ⟨⟨⟨⟨⟨⟨⟨⟨⟨⟨⟨⟨z1, z2⟩, z3⟩, z4⟩, z5⟩, z6⟩, z7⟩, z8⟩, z9⟩, z10⟩, z11⟩, z12⟩, z13⟩ := key e
    exact (z10 t ht).1
  · intro c k e
    obtain ⟨⟨⟨⟨⟨⟨⟨⟨⟨⟨⟨⟨z1, z2⟩, z3⟩, z4⟩, z5⟩, z6⟩, z7⟩, z8⟩, z9⟩, z10⟩, z11⟩, z12⟩, z13⟩ := key e
    exact z11
  · intro c k e
    obtain ⟨⟨⟨⟨⟨⟨⟨⟨⟨⟨⟨⟨z1, z2⟩, z3⟩, z4⟩, z5⟩, z6⟩, z7⟩, z8⟩, z9⟩, z10⟩, z11⟩, z12⟩, z13⟩ := key e
    exact z12
  · intro c k m f e hl
    obtain ⟨⟨⟨⟨⟨⟨⟨⟨⟨⟨⟨⟨z1, z2⟩, z3⟩, z4⟩, z5⟩, z6⟩, z7⟩, z8⟩, z9⟩, z10⟩, z11⟩, z12⟩, z13⟩ := key e
    exact (z3 _ (mem_of_lookup hl)).2
  · intro c k f e hl
    obtain ⟨⟨⟨⟨⟨⟨⟨⟨⟨⟨⟨⟨z1, z2⟩, z3⟩, z4⟩, z5⟩, z6⟩, z7⟩, z8⟩, z9⟩, z10⟩, z11⟩, z12⟩, z13⟩ := key e
    rcases z13 with q | q
    · rw [q] at hl; cases hl
    · exact ⟨He.eqO_ok q, z7.2⟩
  · intro c k t e ht
    obtain ⟨⟨⟨⟨⟨⟨⟨⟨⟨⟨⟨⟨z1, z2⟩, z3⟩, z4⟩, z5⟩, z6⟩, z7⟩, z8⟩, z9⟩, z10⟩, z11⟩, z12⟩, z13⟩ := key e
    exact (z10 t ht).2
  · intro c k c' k' e e'
    obtain ⟨⟨⟨⟨⟨⟨⟨⟨⟨⟨⟨⟨z1, z2⟩, z3⟩, z4⟩, z5⟩, z6⟩, z7⟩, z8⟩, z9⟩, z10⟩, z11⟩, z12⟩, z13⟩ := key e
    exact (z8 c' (List.mem_range.mpr (cls_lt e'))).2
  · exact ⟨mts_get hs 0 (by decide), mts_get hs 1 (by decide), mts_get hs 2 (by decide), mts_get hs 3 (by decide), mts_get hs 4 (by decide), mts_get hs 5 (by decide), mts_get hs 6 (by decide), mts_get hs 7 (by decide), mts_get hs 8 (by decide), mts_get hs 9 (by decide), mts_get hs 10 (by decide), mts_get hs 11 (by decide), mts_get hs 12 (by decide)⟩
end
end Dv
end
section
set_option Elab.async false
set_option linter.all false
set_option maxRecDepth 100000
set_option maxHeartbeats 4000000
namespace Dv
open PySem PySem.Spec PyProof.Rows L2
/-! ### the Hook and the end -/
def fnA (K : PySem.W.Frag) (a : Addr) : He.FnW := match K.lookup a with
  | some ⟨_, _, .func fd, _⟩ => some (fd.name, fd.qualname, fd.params, fd.body, fd.scope, fd.globals, fd.closure, fd.builtins)
  | _ => none
def FI.val (d : FI) : He.FnW := some (d.name, d.qual, d.params, .stmts d.body, d.scope, mainGlobals, [], builtinsNs)
def okA (K : PySem.W.Frag) (qual : Str) (a : Addr) : Bool := PySem.W.keepIn K (.ref a) && (match K.lookup a with
  | some ⟨_, _, .func fd, _⟩ => PySem.W.codeIn K fd.code qual && (He.dflB K fd.defaults [] && He.kwdB K fd.kwdefaults [])
  | _ => false)
theorem funA {K : PySem.W.Frag} {d : FI} {a : Addr} (e : fnA K a = d.val) (c : okA K d.qual a = true) : ∃ fd, FunD K d.name d.qual d.params d.body d.scope [] [] a fd := by
  unfold okA at c
  obtain ⟨kp, c2⟩ := He.ba c
  unfold fnA at e
  cases q : K.lookup a with
  | none =>
    rw [q] at c2
    cases c2
  | some o =>
    obtain ⟨oc, od, dt, osl⟩ := o
    rw [q] at c2 e
    cases dt with
    | func fd =>
      obtain ⟨n1, n2, n3, n4, n5, n6, n7, n8, n9, n10, n11, n12, n13, n14, n15⟩ := fd
      have e2 : (some (n1, n2, n3, n4, n5, n6, n7, n15) : He.FnW) = some (d.name, d.qual, d.params, .stmts d.body, d.scope, mainGlobals, [], builtinsNs) := e
      simp only [Option.some.injEq, Prod.mk.injEq] at e2
      obtain ⟨h1, h2, h3, h4, h5, h6, h7, h8⟩ := e2
      subst h1 h2 h3 h4 h5 h6 h7 h8
      have c3 : (PySem.W.codeIn K n13 d.qual && (He.dflB K n8 [] && He.kwdB K n9 [])) = true := c2
      obtain ⟨k1, k2⟩ := He.ba c3
      obtain ⟨k3, k4⟩ := He.ba k2
      exact ⟨_, ⟨oc, od, n8, n9, n10, n11, n12, n13, n14, osl, rfl, q, k1, He.dflB_ok k3, He.kwdB_ok k4⟩, kp⟩
    | _ => cases c2
def gloB (L : LD) (K : PySem.W.Frag) (p : Str × GV) : Bool := match p.2 with
  | .fn f => He.eqO (PySem.W.nsIn K mainGlobals p.1) (some (some (.ref (L.fa K f)))) && PySem.W.keepIn K (.ref (L.fa K f))
  | .cls c => He.eqO (PySem.W.nsIn K mainGlobals p.1) (some (some (.ref (L.ca K c))))
  | .blt => He.eqO (PySem.W.nsIn K mainGlobals p.1) (some none)
  | .const j => match PySem.W.nsIn K mainGlobals p.1, L.T.consts[j]? with
    | some (some (.int i _)), some (.int i') => decide (i = i')
    | some (some (.str i _)), some (.str i') => decide (i = i')
    | some (some .none), some .non => true
    | _, _ => false
def LD.exB (L : LD) (K : PySem.W.Frag) : Bool := L.clsAll K && L.glo.all (gloB L K) && (L.fi.zip L.fw).all fun q => okA K q.1.qual (q.2.ad K)
def LD.obs (L : LD) (K : PySem.W.Frag) : He.AlD := (L.exB K, L.fw.map fun w => fnA K (w.ad K))
def LD.val (L : LD) : He.AlD := (true, L.fi.map FI.val)
def LD.obsG (L : LD) (n : Nat) (g : Addr → Option Obj) : He.AlD := L.obs (He.frT g (He.asD g n))
def LD.hook (L : LD) (n : Nat) : PySem.W.Hook where
  α := He.AlD
  obs := fun s => L.obsG n s.heap.get?
  val := fun _ => L.val
  says := fun _ h => ∃ K : PySem.W.Frag, K.In h ∧ L.obs K = L.val
  of := fun _ _ e => ⟨_, He.frT_in, e⟩
  keeps := fun _ _ _ ⟨K, hK, c⟩ k => ⟨K, PySem.W.Frag.In.keeps hK k, c⟩
def LD.ob (L : LD) (n : Nat) (s : PySem.W.SharedT) : He.AlD := L.obsG n (HandSHeadRun.getT s)
theorem LD.ob_eq (L : LD) (n : Nat) (s : PySem.W.SharedT) : L.ob n s = (L.hook n).obs s.abs := by
  have e : HandSHeadRun.getT s = s.abs.heap.get? := funext (HandSHeadRun.getT_eq s)
  unfold LD.ob
  rw [e] <;> rfl
def noFI : FI := ⟨⟨#[]⟩, ⟨#[]⟩, ⟨[], [], none, [], [], none, []⟩, [], ⟨.function, [], false, false, []⟩, [], []⟩
def LD.fiAt (L : LD) (f : Nat) : FI := L.fi.getD f noFI
def LD.chk (L : LD) : Bool := (List.range L.T.fns.length).all fun f => match L.T.fns[f]? with
  | some F => chkF L.gi F (L.fiAt f)
  | none => true
section
variable {L : LD} {K : PySem.W.Frag} {h : Heap} {mg : Str → Option Value}
theorem gok_ok (X : K.In h) (G : h.Ns mainGlobals mg) (c : L.glo.all (gloB L K) = true) (N : List Str) : Gok L.T (L.nm K) K mg { L.gi with N := N } := by
  have key : ∀ {x v}, L.glo.lookup x = some v → gloB L K (x, v) = true := fun hl => List.all_eq_true.mp c _ (mem_of_lookup hl)
  refine ⟨rfl, rfl, rfl, rfl, fun x f hl => ?_, fun x f hl => ?_, fun x hl => ?_, fun x j hl => ?_⟩
  · have z := key hl
    obtain ⟨z1, z2⟩ := He.ba z
    exact ⟨PySem.W.mg_of X G (He.eqO_ok z1), z2⟩
  · exact PySem.W.mg_of X G (He.eqO_ok (key hl))
  · exact PySem.W.mg_none_of X G (He.eqO_ok (key hl))
  · have z : (match PySem.W.nsIn K mainGlobals x, L.T.consts[j]? with
      | some (some (.int i _)), some (.int i') => decide (i = i')
      | some (some (.str i _)), some (.str i') => decide (i = i')
      | some (some .none), some .non => true
      | _, _ => false) = true := key hl
    split at z
    · rename_i i t i' q1 q2
      have e : i = i' := of_decide_eq_true z
      subst e
      exact ⟨_, .int i, _, PySem.W.mg_of X G q1, ⟨t, rfl⟩, q2, fun _ _ => .int _⟩
    · rename_i i t i' q1 q2
      have e : i = i' := of_decide_eq_true z
      subst e
      exact ⟨_, .str i, _, PySem.W.mg_of X G q1, ⟨t, rfl⟩, q2, fun _ _ => .str _⟩
    · rename_i q1 q2
      exact ⟨_, .non, _, PySem.W.mg_of X G q1, rfl, q2, fun _ _ => .non⟩
    · cases z
/-- what is shown of the text alone -/
structure LD.Ok (L : LD) : Prop where
  sane : L.sane = true
  chk : L.chk = true
  b : ∀ f F, L.T.fns[f]? = some F → FnB (L.nm []) f F (L.fiAt f)
theorem fn_lt {f : Nat} {F : Fn} (e : L.T.fns[f]? = some F) : f < L.T.fns.length := by
  rcases Nat.lt_or_ge f L.T.fns.length with q | q
  · exact q
  · rw [List.getElem?_eq_none q] at e; cases e
theorem fn_all (ok : L.Ok) (c : L.obs K = L.val) {f : Nat} {F : Fn} (hF : L.T.fns[f]? = some F) : ∃ fd, FOkk (L.nm K) K L.gi f F (L.fiAt f) fd := by
  have c1 : L.exB K = true := congrArg Prod.fst c
  have c2 : (L.fw.map fun w => fnA K (w.ad K)) = L.fi.map FI.val := congrArg Prod.snd c
  have hs := ok.sane
  unfold LD.sane at hs
  simp only [Bool.and_eq_true, List.all_eq_true, decide_eq_true_eq] at hs
  obtain ⟨⟨⟨⟨⟨⟨⟨⟨s1, s2⟩, s3⟩, s4⟩, s5⟩, s6⟩, s7⟩, s8⟩, s9⟩ := hs
  have hl := fn_lt hF
  have e1 : L.fi[f]? = some (L.fiAt f) := by
    unfold LD.fiAt
    rw [List.getD_eq_getElem?_getD, List.getElem?_eq_getElem (by omega)] <;> rfl
  have e2 : L.fw[f]? = some (L.fw.getD f (.glo ⟨#[]⟩)) := by
    rw [List.getD_eq_getElem?_getD, List.getElem?_eq_getElem (by omega)] <;> rfl
  unfold LD.exB at c1
  obtain ⟨_, c3⟩ := He.ba c1
  have hz : (L.fiAt f, L.fw.getD f (.glo ⟨#[]⟩)) ∈ L.fi.zip L.fw := by
    refine List.mem_of_getElem? (i := f) ?_
    rw [List.getElem?_zip_eq_some]
    exact ⟨e1, e2⟩
  have c4 := List.all_eq_true.mp c3 _ hz
  have c5 : fnA K ((L.fw.getD f (.glo ⟨#[]⟩)).ad K) = (L.fiAt f).val := by
    have z : (L.fw.map fun w => fnA K (w.ad K))[f]? = (L.fi.map FI.val)[f]? := by rw [c2]
    rw [List.getElem?_map, List.getElem?_map, e1, e2] at z
    exact Option.some.inj z
  obtain ⟨fd, hfd⟩ := funA c5 c4
  have b := ok.b f F hF
  have hc := List.all_eq_true.mp ok.chk f (List.mem_range.mpr hl)
  rw [hF] at hc
  exact ⟨fd, ⟨hc, hfd, ⟨b.pos, b.star, b.kw⟩⟩⟩
theorem bs_of (ok : L.Ok) (c : L.obs K = L.val) (X : K.In h) (G : h.Ns mainGlobals mg) {P : Program} {w : World} {base : Heap} (k : Nat) (N : List Str) : Bs L.T (run L.T k) (L.nm K) { L.gi with N := N } P w K mg base (4 * k) := by
  have c1 : L.exB K = true := congrArg Prod.fst c
  unfold LD.exB at c1
  obtain ⟨c2, c3⟩ := He.ba c1
  obtain ⟨c4, c5⟩ := He.ba c2
  have hs := ok.sane
  unfold LD.sane at hs
  simp only [Bool.and_eq_true, List.all_eq_true, decide_eq_true_eq] at hs
  obtain ⟨⟨⟨⟨⟨⟨⟨⟨s1, s2⟩, s3⟩, s4⟩, s5⟩, s6⟩, s7⟩, s8⟩, s9⟩ := hs
  refine bs_all (G := L.gi) L.fiAt (top_ok ok.sane c4) (fun N => gok_ok X G c5 N) (fun f F hF => fn_all ok c hF) (fun cc k' f F hc hi hF => ?_) (fun f n ks perm hk => ?_) k N
  · have z := s9 cc (List.mem_range.mpr (cls_lt hc))
    rw [hc] at z
    have z : (match k'.init with
      | some f => (match L.T.fns[f]? with
        | some F => decide (F.ini = some cc)
        | none => true)
      | none => true) = true := z
    rw [hi] at z
    have z : (match L.T.fns[f]? with
      | some F => decide (F.ini = some cc)
      | none => true) = true := z
    rw [hF] at z
    exact of_decide_eq_true z
  · have hm : L.kw.contains (f, n, ks, perm) = true := hk
    have := s8 _ (List.contains_iff_mem.mp hm)
    exact ⟨L.T.fns[f], List.getElem?_eq_getElem this⟩
/-- the law's def: of one parameter -/
theorem law_of (ok : L.Ok) (c : L.obs K = L.val) (X : K.In h) (G : h.Ns mainGlobals mg) {k f : Nat} {F : Fn} {x y : Str} (hF : L.T.fns[f]? = some F) (hs : F.star = false) (hi : F.ini = none) (hps : (L.fiAt f).ps = [y]) {fa : Addr} (hfa : mg x = some (.ref fa)) (hg : L.glo.lookup x = some (.fn f))
    (plain : ∀ ns : List Int, ns.length ≤ 63 → ∃ cs, run L.T (k + 1) false f [.scr (ns.map .int)] [] = .ok (.bl true) cs) :
    ∃ fd : FuncData, (∀ (s : Shared) (u : Value), BindsTo s fd ⟨[u], []⟩ [(y, u)]) ∧ (∀ (H : Hp) (a : Addr) (ns : List Int), ns.length ≤ 63 → Only H → SqL K H a (ns.map V.int) → spO K (L.nm K) E0 (run L.T (k + 1)) f [.ref a] H (fun v _ => v = .bl true) fun _ _ _ => False) ∧
      ∀ (P : Program) (w : World) (base : Heap), K.In base → base.Ns mainGlobals mg → FnOk P w K mg base C8.CX0 (4 * k + 4) fa fd [y] (spO K (L.nm K) E0 (run L.T (k + 1)) f) := by
  obtain ⟨fd, o⟩ := fn_all ok c hF
  have c1 : L.exB K = true := congrArg Prod.fst c
  unfold LD.exB at c1
  obtain ⟨c2, c3⟩ := He.ba c1
  obtain ⟨c4, c5⟩ := He.ba c2
  have e : fa = (L.nm K).fa f := by
    have z := ((gok_ok X G c5 []).fn x f hg).1
    rw [hfa] at z
    cases z
    rfl
  subst e
  refine ⟨fd, fun s u => ?_, fun H a ns hl hO hS => ?_, fun P w base KX NX => ?_⟩
  · have b := FunD.bindsA (ps := [y]) o.fd (fun kV doc pm an cdv ct us hu => by
      have := o.b.pos hs kV doc pm an cdv ct us (by rw [hps]; exact hu)
      rw [hps] at this
      exact this)
    exact b s [u] rfl
  · obtain ⟨cs, e⟩ := plain ns hl
    refine ⟨rfl, ⟨fun b => H b ≠ none, []⟩, [], [.scr (ns.map .int)], ⟨⟨fun _ q => q, fun b q => (nomatch q), fun b q => (nomatch q), List.nodup_nil⟩, rfl, fun n c b q => (nomatch q)⟩, .cons ?_ .nil, ?_⟩
    · have rr : ∀ (g : Gh) (H : Hp) (ns : List Int), Reps K (L.nm K) g H (ns.map D.int) (ns.map V.int) := fun g H ns => by
        induction ns with
        | nil => exact .nil
        | cons n ns ih => exact .cons (.int n) ih
      rcases hS with (q | ⟨ob, q⟩) | q
      · rcases hO a with z | ⟨ob, xs, z⟩
        · rw [q] at z; cases z
        · rw [q] at z; cases z
      · exact .scr (show H a ≠ none by rw [q]; simp) q (rr _ _ _)
      · exact .scrK (fun _ => .inr q) (rr _ _ _)
    · rw [e]
      intro v g' H' _ _ r
      cases r
      rfl
  · have F1 := fn_plain (P := P) (w := w) (mg := mg) (base := base) hF o hs hi (bs_of ok c KX NX (P := P) (w := w) (base := base) k (L.fiAt f).N)
    rw [hps] at F1
    exact F1
theorem no_kw {f n : Nat} {ks : List Str} {perm : List Nat} (h : (L.nm K).kw f n ks perm = true) (hd : (L.kw.all fun q => q.1 != f) = true) : False := by
  have hk : L.kw.contains (f, n, ks, perm) = true := h
  have := List.all_eq_true.mp hd _ (List.contains_iff_mem.mp hk)
  simp at this
end
end Dv
end
section
set_option Elab.async false
set_option linter.all false
set_option maxRecDepth 100000
set_option maxHeartbeats 4000000
namespace Dv
open PySem PySem.Spec PyProof.Rows L2
/-! ### stepping through the IR by simp: the first part of a bind alone is looked at -/
@[simp] theorem ofVB_v (f g : Env → Cells → Res D) : (ofVB f g).v = f := rfl
@[simp] theorem ofVB_b (f g : Env → Cells → Res D) : (ofVB f g).b = g := rfl
@[simp] theorem ofVB_t (f g : Env → Cells → Res D) : (ofVB f g).t = fun ρ cs => (f ρ cs).bind fun x cs => truth x cs := rfl
@[simp] theorem ofVB_c (f g : Env → Cells → Res D) : (ofVB f g).c = fun ρ cs => (f ρ cs).bind fun x cs => truth x cs := rfl
@[simp] theorem ofVB_o (f g : Env → Cells → Res D) : (ofVB f g).o = fun ρ cs => (f ρ cs).bind fun x cs => (match x with
    | .int i => .ok (some i) cs
    | _ => .bad) := rfl
@[simp] theorem ofVB_it (f g : Env → Cells → Res D) : (ofVB f g).it = fun ρ cs => (f ρ cs).bind fun x cs => ofRes cs (items x) := rfl
@[simp] theorem ofRes_some {α : Type} (a : α) (cs : Cells) : ofRes cs (some a) = .ok a cs := rfl
@[simp] theorem getV_0 (d : D) (ρ : Env) : getV (.val d :: ρ) 0 = some d := rfl
@[simp] theorem getB_0 (d : D) (ρ : Env) : getB (.val d :: ρ) 0 = some d := rfl
@[simp] theorem getA_0 (d : D) (ρ : Env) : getA (.val d :: ρ) 0 = some d := rfl
@[simp] theorem getA_0i (c : Nat) (fs : List (Nat × D)) (ρ : Env) : getA (.own (.ins c fs) :: ρ) 0 = some (.ins c fs) := rfl
@[simp] theorem getB_0o (ds : List D) (ρ : Env) : getB (.own (.lst ds) :: ρ) 0 = some (.lst ds) := rfl
@[simp] theorem getV_s (s : Slot) (i : Nat) (ρ : Env) : getV (s :: ρ) (i + 1) = getV ρ i := rfl
@[simp] theorem getB_s (s : Slot) (i : Nat) (ρ : Env) : getB (s :: ρ) (i + 1) = getB ρ i := rfl
@[simp] theorem getA_s (s : Slot) (i : Nat) (ρ : Env) : getA (s :: ρ) (i + 1) = getA ρ i := rfl
@[simp] theorem isBl_bl (b : Bool) (cs : Cells) : isBl (.bl b) cs = .ok b cs := rfl
@[simp] theorem truth_bl (b : Bool) (cs : Cells) : truth (.bl b) cs = .ok b cs := rfl
@[simp] theorem truth_int (i : Int) (cs : Cells) : truth (.int i) cs = .ok (i != 0) cs := rfl
@[simp] theorem truth_tup (ds : List D) (cs : Cells) : truth (.tup ds) cs = .ok (!ds.isEmpty) cs := rfl
@[simp] theorem truth_lst (ds : List D) (cs : Cells) : truth (.lst ds) cs = .ok (!ds.isEmpty) cs := rfl
@[simp] theorem deref_int (i : Int) (cs : Cells) : deref (.int i) cs = .int i := rfl
@[simp] theorem deref_tup (ds : List D) (cs : Cells) : deref (.tup ds) cs = .tup ds := rfl
@[simp] theorem deref_lst (ds : List D) (cs : Cells) : deref (.lst ds) cs = .lst ds := rfl
@[simp] theorem deref_scr (ds : List D) (cs : Cells) : deref (.scr ds) cs = .scr ds := rfl
@[simp] theorem deref_str (x : Str) (cs : Cells) : deref (.str x) cs = .str x := rfl
@[simp] theorem deref_ins (c : Nat) (fs : List (Nat × D)) (cs : Cells) : deref (.ins c fs) cs = .ins c fs := rfl
@[simp] theorem cmp_lt (i j : Int) (cs : Cells) : cmpI .lt (.int i) (.int j) cs = .ok (.bl (decide (i < j))) cs := rfl
@[simp] theorem cmp_le (i j : Int) (cs : Cells) : cmpI .le (.int i) (.int j) cs = .ok (.bl (decide (i ≤ j))) cs := rfl
@[simp] theorem cmp_gt (i j : Int) (cs : Cells) : cmpI .gt (.int i) (.int j) cs = .ok (.bl (decide (j < i))) cs := rfl
@[simp] theorem cmp_ge (i j : Int) (cs : Cells) : cmpI .ge (.int i) (.int j) cs = .ok (.bl (decide (j ≤ i))) cs := rfl
@[simp] theorem end_ret (d : D) (cs : Cells) : endF (.ret d) cs = .ok d cs := rfl
@[simp] theorem end_nx (ρ : Env) (cs : Cells) : endF (.nx ρ) cs = .ok .non cs := rfl
@[simp] theorem items_tup (ds : List D) : items (.tup ds) = some ds := rfl
@[simp] theorem items_lst (ds : List D) : items (.lst ds) = some ds := rfl
@[simp] theorem seq_tup (ds : List D) (cs : Cells) : seqOf (.tup ds) cs = some ds := rfl
@[simp] theorem seq_lst (ds : List D) (cs : Cells) : seqOf (.lst ds) cs = some ds := rfl
/-- a comprehension without an if whose turns change nothing -/
theorem compL_pure {turn : D → Cells → Res (Option D)} {g : D → D} {cs : Cells} : ∀ {xs acc : List D}, (∀ x ∈ xs, turn x cs = .ok (some (g x)) cs) → acc.length + xs.length ≤ sizeLine → compL turn acc xs cs = .ok (acc ++ xs.map g) cs
  | [], acc, _, _ => by simp [compL]
  | x :: xs, acc, h, hl => by
    simp only [List.length_cons] at hl
    rw [compL, h x List.mem_cons_self]
    simp only
    rw [if_pos (by omega), compL_pure (fun y hy => h y (List.mem_cons_of_mem _ hy)) (by simp; omega)]
    simp
theorem compF_pure {turn : D → Cells → Res (Option D)} {g : D → D} {cs : Cells} {xs acc : List D} (h : ∀ x ∈ xs, turn x cs = .ok (some (g x)) cs) (hl : acc.length + xs.length ≤ sizeLine) : compF turn acc xs cs = .ok (acc ++ xs.map g) cs := compL_pure h hl
theorem intsD_map (ns : List Int) : intsD (ns.map D.int) = some ns := by
  induction ns with
  | nil => rfl
  | cons n ns ih => simp [intsD, ih]
theorem boolsD_map (ns : List Bool) : boolsD (ns.map D.bl) = some ns := by
  induction ns with
  | nil => rfl
  | cons n ns ih => simp [boolsD, ih]
theorem strsD_map (ns : List Str) : strsD (ns.map D.str) = some ns := by
  induction ns with
  | nil => rfl
  | cons n ns ih => simp [strsD, ih]
@[simp] theorem bind_assoc {α β γ : Type} (r : Res α) (k : α → Cells → Res β) (j : β → Cells → Res γ) : (r.bind k).bind j = r.bind fun a cs => (k a cs).bind j := by
  cases r <;> rfl
@[simp] theorem ret_tail (r : Res D) (k : Env → Cells → Res Flw) : (r.bind fun d cs => ((Res.ok (Flw.ret d) cs).bind (thenF k)).bind endF) = r := by cases r <;> rfl
@[simp] theorem ret_tail2 (r : Res D) (k : Env → Cells → Res Flw) (j : Env → Cells → Res Flw) : (r.bind fun d cs => (((Res.ok (Flw.ret d) cs).bind (thenF k)).bind (thenF j)).bind endF) = r := by cases r <;> rfl
/-- a comprehension at the head -/
theorem comp_bind {α : Type} {turn : D → Cells → Res (Option D)} (g : D → D) {cs : Cells} {xs : List D} {k : List D → Cells → Res α} {R : Res α} (h : ∀ x ∈ xs, turn x cs = .ok (some (g x)) cs) (hl : xs.length ≤ sizeLine) (hk : k (xs.map g) cs = R) : (compF turn [] xs cs).bind k = R := by
  rw [compF_pure h (by simpa using hl)]
  simpa using hk
/-- a loop at the head -/
theorem forL_inv {body : Env → Cells → Res Flw} {tg : List Nat} {one : Bool} (I : List D → Env → Cells → Prop) (hs : ∀ x xs ρ cs, I (x :: xs) ρ cs → ∃ ρ1 ρ2 cs2, setTg tg one x ρ = some ρ1 ∧ body ρ1 cs = .ok (.nx ρ2) cs2 ∧ I xs ρ2 cs2) : ∀ (xs : List D) (ρ : Env) (cs : Cells), I xs ρ cs → ∃ ρ' cs', forL body tg one xs ρ cs = .ok (.nx ρ') cs' ∧ I [] ρ' cs'
  | [], ρ, cs, h => ⟨ρ, cs, rfl, h⟩
  | x :: xs, ρ, cs, h => by
    obtain ⟨ρ1, ρ2, cs2, e1, e2, h2⟩ := hs x xs ρ cs h
    obtain ⟨ρ', cs', e3, h3⟩ := forL_inv I hs xs ρ2 cs2 h2
    refine ⟨ρ', cs', ?_, h3⟩
    rw [forL, e1]
    show (body ρ1 cs).bind _ = _
    rw [e2]
    exact e3
theorem for_bind {α : Type} {body : Env → Cells → Res Flw} {tg : List Nat} {one : Bool} {xs : List D} {ρ : Env} {cs : Cells} {k : Flw → Cells → Res α} {R : Res α} (I : List D → Env → Cells → Prop) (h0 : I xs ρ cs) (hs : ∀ x xs ρ cs, I (x :: xs) ρ cs → ∃ ρ1 ρ2 cs2, setTg tg one x ρ = some ρ1 ∧ body ρ1 cs = .ok (.nx ρ2) cs2 ∧ I xs ρ2 cs2)
    (hk : ∀ ρ' cs', I [] ρ' cs' → k (.nx ρ') cs' = R) : (forF body tg one xs ρ cs).bind k = R := by
  obtain ⟨ρ', cs', e, h⟩ := forL_inv I hs xs ρ cs h0
  rw [forF, e]
  exact hk ρ' cs' h
/-- it answers, and the answer is so -/
def Wp {α : Type} (r : Res α) (P : α → Cells → Prop) : Prop := ∃ a cs, r = .ok a cs ∧ P a cs
@[simp] theorem wp_ok {α : Type} (a : α) (cs : Cells) (P : α → Cells → Prop) : Wp (.ok a cs) P ↔ P a cs := ⟨fun ⟨b, c, e, h⟩ => by cases e; exact h, fun h => ⟨a, cs, rfl, h⟩⟩
theorem wp_bind {α β : Type} {r : Res α} {k : α → Cells → Res β} {P : β → Cells → Prop} (h : Wp r fun a cs => Wp (k a cs) P) : Wp (r.bind k) P := by
  obtain ⟨a, cs, rfl, h⟩ := h
  exact h
theorem wp_mono {α : Type} {r : Res α} {P Q : α → Cells → Prop} (h : Wp r P) (i : ∀ a cs, P a cs → Q a cs) : Wp r Q := by
  obtain ⟨a, cs, e, h⟩ := h
  exact ⟨a, cs, e, i a cs h⟩
/-- a call at the head, its answer told -/
theorem wp_at {α β : Type} {r : Res α} {k : α → Cells → Res β} {P : α → Cells → Prop} {Q : β → Cells → Prop} (h : Wp r P) (i : ∀ a cs, P a cs → Wp (k a cs) Q) : Wp (r.bind k) Q := wp_bind (wp_mono h i)
theorem wp_for {α : Type} {body : Env → Cells → Res Flw} {tg : List Nat} {one : Bool} {xs : List D} {ρ : Env} {cs : Cells} {k : Flw → Cells → Res α} {Q : α → Cells → Prop} (I : List D → Env → Cells → Prop) (h0 : I xs ρ cs)
    (hs : ∀ x xs ρ cs, I (x :: xs) ρ cs → ∃ ρ1, setTg tg one x ρ = some ρ1 ∧ Wp (body ρ1 cs) fun f cs2 => ∃ ρ2, f = .nx ρ2 ∧ I xs ρ2 cs2) (hk : ∀ ρ' cs', I [] ρ' cs' → Wp (k (.nx ρ') cs') Q) : Wp ((forF body tg one xs ρ cs).bind k) Q := by
  obtain ⟨ρ', cs', e, h⟩ := forL_inv I (fun x xs ρ cs h => by
    obtain ⟨ρ1, e1, f, cs2, e2, ρ2, rfl, h2⟩ := hs x xs ρ cs h
    exact ⟨ρ1, ρ2, cs2, e1, e2, h2⟩) xs ρ cs h0
  rw [forF, e]
  exact hk ρ' cs' h
theorem compL_wp {turn : D → Cells → Res (Option D)} (I : List D → List D → Cells → Prop) (hs : ∀ x xs acc cs, I (x :: xs) acc cs → Wp (turn x cs) fun o cs2 => ∃ d, o = some d ∧ acc.length < sizeLine ∧ I xs (acc ++ [d]) cs2) : ∀ (xs acc : List D) (cs : Cells), I xs acc cs → Wp (compL turn acc xs cs) fun ds cs' => I [] ds cs'
  | [], acc, cs, h => ⟨acc, cs, rfl, h⟩
  | x :: xs, acc, cs, h => by
    obtain ⟨o, cs2, e, d, rfl, hl, h2⟩ := hs x xs acc cs h
    rw [compL, e]
    show Wp (if acc.length < sizeLine then compL turn (acc ++ [d]) xs cs2 else .bad) _
    rw [if_pos hl]
    exact compL_wp I hs xs _ cs2 h2
end Dv
end
section
set_option Elab.async false
set_option linter.all false
set_option maxRecDepth 100000
set_option maxHeartbeats 4000000
namespace Dv
open PySem PySem.Spec PyProof.Rows L2
/-! ### == of plain data (ints, texts, None, tuples and lists of them) is equality -/
mutual
def pl : Nat → D → Bool
  | _, .non => true
  | _, .int _ => true
  | _, .str x => PyData.strOk x
  | n + 1, .tup ds => pls n ds
  | n + 1, .lst ds => pls n ds
  | _, _ => false
def pls : Nat → List D → Bool
  | _, [] => true
  | n, d :: ds => pl n d && pls n ds
end
mutual
theorem pl_py : ∀ (n : Nat) (d : D), pl n d = true → ∃ x, toPy d = some x ∧ PyData.canLay0 x = true ∧ PyData.depth x ≤ n
  | n, .non, _ => ⟨.none, by simp [toPy], by simp [PyData.canLay0], by simp [PyData.depth]⟩
  | n, .int i, _ => ⟨.int i, by simp [toPy], by simp [PyData.canLay0], by simp [PyData.depth]⟩
  | n, .str x, h => ⟨.str x, by simp [toPy], by simpa [PyData.canLay0, pl] using h, by simp [PyData.depth]⟩
  | n + 1, .tup ds, h => by
    obtain ⟨xs, e, c, k⟩ := pls_py n ds (by simpa [pl] using h)
    exact ⟨.tuple xs, by simp [toPy, e], by simpa [PyData.canLay0] using c, by simp [PyData.depth]; omega⟩
  | n + 1, .lst ds, h => by
    obtain ⟨xs, e, c, k⟩ := pls_py n ds (by simpa [pl] using h)
    exact ⟨.list xs, by simp [toPy, e], by simpa [PyData.canLay0] using c, by simp [PyData.depth]; omega⟩
  | 0, .tup ds, h => by simp [pl] at h
  | 0, .lst ds, h => by simp [pl] at h
  | n, .bl b, h => by simp [pl] at h
  | n, .ins c fs, h => by simp [pl] at h
  | n, .cell c, h => by simp [pl] at h
  | n, .dic c, h => by simp [pl] at h
  | n, .scr c, h => by simp [pl] at h
theorem pls_py : ∀ (n : Nat) (ds : List D), pls n ds = true → ∃ xs, toPys ds = some xs ∧ PyData.canLayAll0 xs = true ∧ PyData.depthAll xs ≤ n
  | n, [], _ => ⟨[], by simp [toPys], by simp [PyData.canLayAll0], by simp [PyData.depthAll]⟩
  | n, d :: ds, h => by
    simp only [pls, Bool.and_eq_true] at h
    obtain ⟨x, e, c, k⟩ := pl_py n d h.1
    obtain ⟨xs, e2, c2, k2⟩ := pls_py n ds h.2
    exact ⟨x :: xs, by simp [toPys, e, e2], by simp [PyData.canLayAll0, c, c2], by simp [PyData.depthAll]; omega⟩
end
def Eqv (n : Nat) : Prop := ∀ (a b : D) (m : Nat) (x y : PyData), pl n a = true → pl m b = true → toPy a = some x → toPy b = some y → (PyData.eqv x y = true ↔ a = b)
theorem pls_eqv {n : Nat} (h : Eqv n) : ∀ (as bs : List D) (m : Nat) (xs ys : List PyData), pls n as = true → pls m bs = true → toPys as = some xs → toPys bs = some ys → (PyData.eqvAll xs ys = true ↔ as = bs)
  | [], [], m, xs, ys, _, _, e1, e2 => by
    simp [toPys] at e1 e2
    subst e1 e2
    simp [PyData.eqvAll]
  | a :: as, [], m, xs, ys, h1, _, e1, e2 => by
    obtain ⟨xs', e, _⟩ := pls_py n _ h1
    simp only [pls, Bool.and_eq_true] at h1
    obtain ⟨x, e3, _⟩ := pl_py n _ h1.1
    obtain ⟨zs, e4, _⟩ := pls_py n _ h1.2
    simp [toPys, e3, e4] at e1 e2
    subst e1 e2
    simp [PyData.eqvAll]
  | [], b :: bs, m, xs, ys, _, h2, e1, e2 => by
    simp only [pls, Bool.and_eq_true] at h2
    obtain ⟨x, e3, _⟩ := pl_py m _ h2.1
    obtain ⟨zs, e4, _⟩ := pls_py m _ h2.2
    simp [toPys, e3, e4] at e1 e2
    subst e1 e2
    simp [PyData.eqvAll]
  | a :: as, b :: bs, m, xs, ys, h1, h2, e1, e2 => by
    simp only [pls, Bool.and_eq_true] at h1 h2
    obtain ⟨x, e3, _⟩ := pl_py n _ h1.1
    obtain ⟨zs, e4, _⟩ := pls_py n _ h1.2
    obtain ⟨x', e3', _⟩ := pl_py m _ h2.1
    obtain ⟨zs', e4', _⟩ := pls_py m _ h2.2
    simp [toPys, e3, e4, e3', e4'] at e1 e2
    subst e1 e2
    simp [PyData.eqvAll, h a b m x x' h1.1 h2.1 e3 e3', pls_eqv h as bs m zs zs' h1.2 h2.2 e4 e4']
theorem pl_kind (m : Nat) (b : D) (y : PyData) (hb : pl m b = true) (eb : toPy b = some y) : (b = .non ∧ y = .none) ∨ (∃ i, b = .int i ∧ y = .int i) ∨ (∃ i, b = .str i ∧ y = .str i) ∨
    (∃ m' bs ys, b = .tup bs ∧ m = m' + 1 ∧ pls m' bs = true ∧ toPys bs = some ys ∧ y = .tuple ys) ∨ (∃ m' bs ys, b = .lst bs ∧ m = m' + 1 ∧ pls m' bs = true ∧ toPys bs = some ys ∧ y = .list ys) := by
  cases b with
  | tup bs =>
    cases m with
    | zero => simp [pl] at hb
    | succ m =>
      have hb' : pls m bs = true := by simpa [pl] using hb
      obtain ⟨ys, e, _⟩ := pls_py m bs hb'
      simp [toPy, e] at eb
      exact .inr (.inr (.inr (.inl ⟨m, bs, ys, rfl, rfl, hb', e, eb.symm⟩)))
  | lst bs =>
    cases m with
    | zero => simp [pl] at hb
    | succ m =>
      have hb' : pls m bs = true := by simpa [pl] using hb
      obtain ⟨ys, e, _⟩ := pls_py m bs hb'
      simp [toPy, e] at eb
      exact .inr (.inr (.inr (.inr ⟨m, bs, ys, rfl, rfl, hb', e, eb.symm⟩)))
  | non => simp [toPy] at eb; simp [eb]
  | int i => simp [toPy] at eb; simp [eb]
  | str i => simp [toPy] at eb; simp [eb]
  | bl b => simp [pl] at hb
  | dic b => simp [pl] at hb
  | ins c b => simp [pl] at hb
  | cell b => simp [pl] at hb
  | scr b => simp [pl] at hb
theorem pl_eqv (n : Nat) : Eqv n := by
  induction n with
  | zero =>
    intro a b m x y ha hb ea eb
    rcases pl_kind 0 a x ha ea with ⟨rfl, rfl⟩ | ⟨i, rfl, rfl⟩ | ⟨i, rfl, rfl⟩ | ⟨_, as, xs, rfl, q, _⟩ | ⟨_, as, xs, rfl, q, _⟩
    all_goals first | (cases q; done) | (rcases pl_kind m b y hb eb with ⟨rfl, rfl⟩ | ⟨j, rfl, rfl⟩ | ⟨j, rfl, rfl⟩ | ⟨_, bs, ys, rfl, _, _, _, rfl⟩ | ⟨_, bs, ys, rfl, _, _, _, rfl⟩ <;> simp [PyData.eqv])
  | succ n ih =>
    intro a b m x y ha hb ea eb
    rcases pl_kind (n + 1) a x ha ea with ⟨rfl, rfl⟩ | ⟨i, rfl, rfl⟩ | ⟨i, rfl, rfl⟩ | ⟨_, as, xs, rfl, q, ha', ea', rfl⟩ | ⟨_, as, xs, rfl, q, ha', ea', rfl⟩
    · rcases pl_kind m b y hb eb with ⟨rfl, rfl⟩ | ⟨j, rfl, rfl⟩ | ⟨j, rfl, rfl⟩ | ⟨_, bs, ys, rfl, _, _, _, rfl⟩ | ⟨_, bs, ys, rfl, _, _, _, rfl⟩ <;> simp [PyData.eqv]
    · rcases pl_kind m b y hb eb with ⟨rfl, rfl⟩ | ⟨j, rfl, rfl⟩ | ⟨j, rfl, rfl⟩ | ⟨_, bs, ys, rfl, _, _, _, rfl⟩ | ⟨_, bs, ys, rfl, _, _, _, rfl⟩ <;> simp [PyData.eqv]
    · rcases pl_kind m b y hb eb with ⟨rfl, rfl⟩ | ⟨j, rfl, rfl⟩ | ⟨j, rfl, rfl⟩ | ⟨_, bs, ys, rfl, _, _, _, rfl⟩ | ⟨_, bs, ys, rfl, _, _, _, rfl⟩ <;> simp [PyData.eqv]
    · cases q
      rcases pl_kind m b y hb eb with ⟨rfl, rfl⟩ | ⟨j, rfl, rfl⟩ | ⟨j, rfl, rfl⟩ | ⟨_, bs, ys, rfl, _, hb', eb', rfl⟩ | ⟨_, bs, ys, rfl, _, _, _, rfl⟩
      case inr.inr.inr.inl => simp [PyData.eqv, pls_eqv ih _ _ _ _ _ ha' hb' ea' eb']
      all_goals simp [PyData.eqv]
    · cases q
      rcases pl_kind m b y hb eb with ⟨rfl, rfl⟩ | ⟨j, rfl, rfl⟩ | ⟨j, rfl, rfl⟩ | ⟨_, bs, ys, rfl, _, _, _, rfl⟩ | ⟨_, bs, ys, rfl, _, hb', eb', rfl⟩
      case inr.inr.inr.inr => simp [PyData.eqv, pls_eqv ih _ _ _ _ _ ha' hb' ea' eb']
      all_goals simp [PyData.eqv]
theorem eqP_pl {n m : Nat} {a b : D} (ha : pl n a = true) (hb : pl m b = true) (hn : n ≤ 64) (hm : m ≤ 64) (cs : Cells) [Decidable (a = b)] : eqP a b cs = .ok (decide (a = b)) cs := by
  obtain ⟨x, e1, c1, k1⟩ := pl_py n a ha
  obtain ⟨y, e2, c2, k2⟩ := pl_py m b hb
  have h1 : SeqAt.shaped x = true := by simp [SeqAt.shaped, c1]; omega
  have h2 : SeqAt.shaped y = true := by simp [SeqAt.shaped, c2]; omega
  have h := pl_eqv n a b m x y ha hb e1 e2
  unfold eqP
  rw [e1, e2]
  simp only [h1, h2, and_self, if_true]
  congr 1
  rw [Bool.eq_iff_iff, h]
  simp
theorem pls_map {α : Type} {n : Nat} {f : α → D} : ∀ {xs : List α}, (∀ x ∈ xs, pl n (f x) = true) → pls n (xs.map f) = true
  | [], _ => rfl
  | x :: xs, h => by
    simp only [List.map_cons, pls, Bool.and_eq_true]
    exact ⟨h x List.mem_cons_self, pls_map fun y hy => h y (List.mem_cons_of_mem _ hy)⟩
theorem pls_ints (n : Nat) (xs : List Int) : pls n (xs.map .int) = true := pls_map fun _ _ => by simp [pl]
theorem eqD_pl (T : Tab) (O : Orc) {n m : Nat} {a b : D} (ha : pl n a = true) (hb : pl m b = true) (hn : n ≤ 64) (hm : m ≤ 64) (cs : Cells) [Decidable (a = b)] : eqD T O a b cs = .ok (decide (a = b)) cs := by
  have : clsOf a cs = none := by cases a <;> first | rfl | simp [pl] at ha
  unfold eqD
  rw [this]
  exact eqP_pl ha hb hn hm cs
end Dv
end
section
set_option Elab.async false
set_option linter.all false
set_option maxRecDepth 100000
set_option maxHeartbeats 4000000
namespace Dv
open PySem PySem.Spec PyProof.Rows L2
/-! ### ranges -/
theorem rngD_nat (n : Nat) (h : n < 1000000000) (cs : Cells) : rngD (.int n) cs = .ok ((List.range n).map fun (i : Nat) => .int (i : Int)) cs := by
  unfold rngD
  simp only
  rw [if_pos (ok62_iff.mpr (by omega))]
  rfl
theorem rngD_int (n : Int) (h0 : 0 ≤ n) (h : n < 1000000000) (cs : Cells) : rngD (.int n) cs = .ok ((List.range n.toNat).map fun (i : Nat) => .int (i : Int)) cs := by
  unfold rngD
  simp only
  rw [if_pos (ok62_iff.mpr (by omega))]
theorem rng2D_nat (m n : Nat) (h : n < 1000000000) (hm : m < 1000000000) (cs : Cells) : rng2D (.int m) (.int n) cs = .ok ((List.range (n - m)).map fun (i : Nat) => .int ((m + i : Nat) : Int)) cs := by
  unfold rng2D
  simp only
  rw [if_pos ⟨ok62_iff.mpr (by omega), ok62_iff.mpr (by omega)⟩]
  have e : ((n : Int) - (m : Int)).toNat = n - m := by omega
  rw [e]
  simp
/-! ### the pen that draws: cell 0 -/
def penC (l : List D) (a : Nat) (r : Int) : Cell := .lst [.lst l, .int a, .int r]
def Pn (tl : Cells) (b : Nat) (cs : Cells) : Prop := ∃ (ns : List Int) (a : Nat) (r : Int), cs = penC (ns.map .int) a r :: tl ∧ 0 ≤ r ∧ a ≤ b
theorem Pn.mono {tl : Cells} {b b' : Nat} {cs : Cells} (h : Pn tl b cs) (i : b ≤ b') : Pn tl b' cs := by
  obtain ⟨ns, a, r, e, h0, h1⟩ := h
  exact ⟨ns, a, r, e, h0, by omega⟩
section
variable (T : Tab) (O : Orc)
theorem pen_0 (l : List D) (a : Nat) (r : Int) (tl : Cells) : subD T O (.cell 0) (.int 0) (penC l a r :: tl) = .ok (.lst l) (penC l a r :: tl) := rfl
theorem pen_1 (l : List D) (a : Nat) (r : Int) (tl : Cells) : subD T O (.cell 0) (.int 1) (penC l a r :: tl) = .ok (.int a) (penC l a r :: tl) := rfl
theorem pen_2 (l : List D) (a : Nat) (r : Int) (tl : Cells) : subD T O (.cell 0) (.int 2) (penC l a r :: tl) = .ok (.int r) (penC l a r :: tl) := rfl
end
theorem sm_seq (T : Tab) (O : Orc) (a b : Sm) (ρ : Env) (cs : Cells) : sm T O (.seq a b) ρ cs = (sm T O a ρ cs).bind (thenF fun ρ cs => sm T O b ρ cs) := (rfl)
def dr1 : Sm := .ite (.cmp .gt (.sub (.var 0) (.int 2)) (.int 0)) (.seq (.set 5 (.bin .mod (.blt .int (.cons (.sub (.var 0) (.int 2)) .nil)) (.var 1))) (.seq (.setI 0 (.int 2) (.bin .fdiv (.blt .int (.cons (.sub (.var 0) (.int 2)) .nil)) (.var 1))) (.seq (.ret (.var 5)) .skip))) .skip
def dr4 : Sm := .ite (.cmp .ne (.sub (.var 0) (.int 0)) (.lst .nil)) (.seq (.set 3 (.sub (.sub (.var 0) (.int 0)) (.bin .mod (.blt .int (.cons (.var 2) .nil)) (.blt .len (.cons (.sub (.var 0) (.int 0)) .nil))))) .skip) .skip
def dr5 : Sm := .ite (.and (.cmp .lt (.var 2) (.blt .len (.cons (.sub (.var 0) (.int 0)) .nil))) (.cmp .ge (.blt .abs (.cons (.var 3) .nil)) (.bin .pow (.int 10) (.int 18)))) (.seq (.set 6 (.bin .add (.bin .mul (.int 2) (.bin .sub (.blt .abs (.cons (.var 3) .nil)) (.bin .pow (.int 10) (.int 18)))) (.blt .int (.cons (.cmp .lt (.var 3) (.int 0)) .nil)))) (.seq (.setI 0 (.int 2) (.bin .fdiv (.blt .int (.cons (.var 6) .nil)) (.var 1))) (.seq (.ret (.bin .mod (.blt .int (.cons (.var 6) .nil)) (.var 1))) .skip))) .skip
def dr6 (p1 c3 c4 p2 : Int) : Sm := .set 4 (.bin .mod (.blt .int (.cons (.bin .pow (.bin .add (.bin .add (.bin .mod (.blt .int (.cons (.var 3) .nil)) (.int p1)) (.bin .mul (.int c3) (.var 2))) (.int c4)) (.int 5)) .nil)) (.int p2))
def dr7 (c5 c6 c7 p3 : Int) : Sm := .set 4 (.bin .mod (.blt .int (.cons (.bin .pow (.bin .add (.bin .add (.bin .mul (.var 4) (.bin .add (.bin .mul (.int 2) (.var 2)) (.int c5))) (.bin .mul (.bin .mul (.int c6) (.var 2)) (.var 2))) (.int c7)) (.int 3)) .nil)) (.int p3))
def dr8 : Sm := .ret (.bin .mod (.blt .int (.cons (.bin .fdiv (.var 4) (.int 32)) .nil)) (.var 1))
def drawSm (c1 c2 p1 c3 c4 p2 c5 c6 c7 p3 : Int) : Sm := .seq dr1 (.seq (.set 2 (.sub (.var 0) (.int 1))) (.seq (.setI 0 (.int 1) (.bin .add (.var 2) (.int 1))) (.seq (.set 3 (.bin .add (.bin .mul (.int c1) (.var 2)) (.int c2))) (.seq dr4 (.seq dr5 (.seq (dr6 p1 c3 c4 p2) (.seq (dr7 c5 c6 c7 p3) (.seq dr8 .skip))))))))
theorem setI_2 (l : List D) (x : Nat) (y z : Int) : setIt [.lst l, .int x, .int y] 2 (.int z) = some [.lst l, .int x, .int z] := rfl
theorem setI_1 (l : List D) (x : Nat) (y : Int) (z : D) : setIt [.lst l, .int x, .int y] 1 z = some [.lst l, z, .int y] := rfl
section
variable (T : Tab) (O : Orc)
theorem bin_mod {i j : Int} (h : 0 < j) (cs : Cells) : binD T O .mod (.int i) (.int j) cs = .ok (.int (i % j)) cs := by
  show (if 0 < j then _ else _) = _
  rw [if_pos h]
theorem bin_div {i j : Int} (h : okDiv j = true) (cs : Cells) : binD T O .fdiv (.int i) (.int j) cs = .ok (.int (i / j)) cs := by
  show (if okDiv j = true then _ else _) = _
  rw [if_pos h]
theorem bin_mul {i j : Int} (h : okMul i j = true) (cs : Cells) : binD T O .mul (.int i) (.int j) cs = .ok (.int (i * j)) cs := by
  show (if okMul i j = true then _ else _) = _
  rw [if_pos h]
theorem bin_pow {i j : Int} (h : okPow i j = true) (cs : Cells) : binD T O .pow (.int i) (.int j) cs = .ok (.int (i ^ j.toNat)) cs := by
  show (if okPow i j = true then _ else _) = _
  rw [if_pos h]
theorem bin_add (i j : Int) (cs : Cells) : binD T O .add (.int i) (.int j) cs = .ok (.int (i + j)) cs := rfl
theorem bin_sub (i j : Int) (cs : Cells) : binD T O .sub (.int i) (.int j) cs = .ok (.int (i - j)) cs := rfl
theorem vi_int (i : Int) (cs : Cells) : bInt [.int i] cs = .ok (.int i) cs := rfl
theorem vi_bool (b : Bool) (cs : Cells) : bInt [.bl b] cs = .ok (.int (if b then 1 else 0)) cs := rfl
theorem vi_abs (i : Int) (cs : Cells) : bAbs [.int i] cs = .ok (.int (if i < 0 then -i else i)) cs := rfl
theorem pr_0 (l : List D) (a r : D) (tl : Cells) : subD T O (.cell 0) (.int 0) (Cell.lst [.lst l, a, r] :: tl) = .ok (.lst l) (Cell.lst [.lst l, a, r] :: tl) := rfl
theorem pr_1 (l a r : D) (tl : Cells) : subD T O (.cell 0) (.int 1) (Cell.lst [l, a, r] :: tl) = .ok a (Cell.lst [l, a, r] :: tl) := rfl
theorem pr_2 (l a r : D) (tl : Cells) : subD T O (.cell 0) (.int 2) (Cell.lst [l, a, r] :: tl) = .ok r (Cell.lst [l, a, r] :: tl) := rfl
theorem si_2 (l x y z : D) : setIt [l, x, y] 2 z = some [l, x, z] := rfl
theorem si_1 (l x y z : D) : setIt [l, x, y] 1 z = some [l, z, y] := rfl
variable {l : List D} {a : Nat} {r : Int} {tl : Cells} {m : Int} {s2 s3 s4 s5 s6 : Slot}
theorem dr1_pos (h : 0 < r) (hm : 0 < m) (dv : okDiv m = true) :
    sm T O dr1 [.val (.cell 0), .val (.int m), s2, s3, s4, s5, s6] (penC l a r :: tl) = .ok (.ret (.int (r % m))) (penC l a (r / m) :: tl) := by
  unfold dr1 penC
  simp only [sm, thenF_nx, thenF_ret, thenF_brk, thenF_cnt, den, ofVT, ofVB, noDen, baseA, cmpD, bltD, bind_ok, ofRes_some, getV_0, getV_s, getB_0, getB_s, truth_bl, truth_int, cmp_lt, cmp_le, cmp_gt, cmp_ge, List.getElem?_cons_zero, List.getElem?_cons_succ, List.set_cons_zero, List.set_cons_succ, if_true, if_false, reduceIte, decide_true, decide_false, end_ret, end_nx, List.length_cons, List.length_nil, Nat.zero_add, Nat.reduceAdd, Nat.reduceLT, Nat.reduceLeDiff, Nat.zero_le, and_self, pr_2, h, bin_mod T O hm, bin_div T O dv, vi_int, si_2]
theorem dr1_neg (h : ¬ 0 < r) :
    sm T O dr1 [.val (.cell 0), .val (.int m), s2, s3, s4, s5, s6] (penC l a r :: tl) = .ok (.nx [.val (.cell 0), .val (.int m), s2, s3, s4, s5, s6]) (penC l a r :: tl) := by
  unfold dr1 penC
  simp only [sm, thenF_nx, thenF_ret, thenF_brk, thenF_cnt, den, ofVT, ofVB, noDen, baseA, cmpD, bltD, bind_ok, ofRes_some, getV_0, getV_s, getB_0, getB_s, truth_bl, truth_int, cmp_lt, cmp_le, cmp_gt, cmp_ge, List.getElem?_cons_zero, List.getElem?_cons_succ, List.set_cons_zero, List.set_cons_succ, if_true, if_false, reduceIte, decide_true, decide_false, end_ret, end_nx, List.length_cons, List.length_nil, Nat.zero_add, Nat.reduceAdd, Nat.reduceLT, Nat.reduceLeDiff, Nat.zero_le, and_self, pr_2, h]
  rfl
theorem dr2 : sm T O (.set 2 (.sub (.var 0) (.int 1))) [.val (.cell 0), .val (.int m), s2, s3, s4, s5, s6] (penC l a r :: tl) = .ok (.nx [.val (.cell 0), .val (.int m), .val (.int a), s3, s4, s5, s6]) (penC l a r :: tl) := by
  unfold penC
  simp only [sm, thenF_nx, thenF_ret, thenF_brk, thenF_cnt, den, ofVT, ofVB, noDen, baseA, cmpD, bltD, bind_ok, ofRes_some, getV_0, getV_s, getB_0, getB_s, truth_bl, truth_int, cmp_lt, cmp_le, cmp_gt, cmp_ge, List.getElem?_cons_zero, List.getElem?_cons_succ, List.set_cons_zero, List.set_cons_succ, if_true, if_false, reduceIte, decide_true, decide_false, end_ret, end_nx, List.length_cons, List.length_nil, Nat.zero_add, Nat.reduceAdd, Nat.reduceLT, Nat.reduceLeDiff, Nat.zero_le, and_self, pr_1]
theorem dr3 : sm T O (.setI 0 (.int 1) (.bin .add (.var 2) (.int 1))) [.val (.cell 0), .val (.int m), .val (.int a), s3, s4, s5, s6] (penC l a r :: tl) = .ok (.nx [.val (.cell 0), .val (.int m), .val (.int a), s3, s4, s5, s6]) (penC l (a + 1) r :: tl) := by
  unfold penC
  simp only [sm, thenF_nx, thenF_ret, thenF_brk, thenF_cnt, den, ofVT, ofVB, noDen, baseA, cmpD, bltD, bind_ok, ofRes_some, getV_0, getV_s, getB_0, getB_s, truth_bl, truth_int, cmp_lt, cmp_le, cmp_gt, cmp_ge, List.getElem?_cons_zero, List.getElem?_cons_succ, List.set_cons_zero, List.set_cons_succ, if_true, if_false, reduceIte, decide_true, decide_false, end_ret, end_nx, List.length_cons, List.length_nil, Nat.zero_add, Nat.reduceAdd, Nat.reduceLT, Nat.reduceLeDiff, Nat.zero_le, and_self, pr_1, si_1, bin_add]
  rfl
theorem dr3b {c1 c2 : Int} (hc : 0 ≤ c1 ∧ c1 < 1048576) : sm T O (.set 3 (.bin .add (.bin .mul (.int c1) (.var 2)) (.int c2))) [.val (.cell 0), .val (.int m), .val (.int a), s3, s4, s5, s6] (penC l (a + 1) r :: tl) = .ok (.nx [.val (.cell 0), .val (.int m), .val (.int a), .val (.int (c1 * a + c2)), s4, s5, s6]) (penC l (a + 1) r :: tl) := by
  have : okMul c1 a = true := okMul_iff.mpr (.inl (by constructor <;> omega))
  simp only [sm, thenF_nx, thenF_ret, thenF_brk, thenF_cnt, den, ofVT, ofVB, noDen, baseA, cmpD, bltD, bind_ok, ofRes_some, getV_0, getV_s, getB_0, getB_s, truth_bl, truth_int, cmp_lt, cmp_le, cmp_gt, cmp_ge, List.getElem?_cons_zero, List.getElem?_cons_succ, List.set_cons_zero, List.set_cons_succ, if_true, if_false, reduceIte, decide_true, decide_false, end_ret, end_nx, List.length_cons, List.length_nil, Nat.zero_add, Nat.reduceAdd, Nat.reduceLT, Nat.reduceLeDiff, Nat.zero_le, and_self, bin_mul T O this, bin_add]
theorem dr4_nil {x : Int} (e : eqD T O (.lst []) (.lst []) (penC [] (a + 1) r :: tl) = .ok true (penC [] (a + 1) r :: tl)) : sm T O dr4 [.val (.cell 0), .val (.int m), .val (.int a), .val (.int x), s4, s5, s6] (penC [] (a + 1) r :: tl) = .ok (.nx [.val (.cell 0), .val (.int m), .val (.int a), .val (.int x), s4, s5, s6]) (penC [] (a + 1) r :: tl) := by
  unfold penC at *
  unfold dr4
  simp only [sm, thenF_nx, thenF_ret, thenF_brk, thenF_cnt, den, ofVT, ofVB, noDen, baseA, cmpD, bltD, bind_ok, ofRes_some, getV_0, getV_s, getB_0, getB_s, truth_bl, truth_int, cmp_lt, cmp_le, cmp_gt, cmp_ge, List.getElem?_cons_zero, List.getElem?_cons_succ, List.set_cons_zero, List.set_cons_succ, if_true, if_false, reduceIte, decide_true, decide_false, end_ret, end_nx, List.length_cons, List.length_nil, Nat.zero_add, Nat.reduceAdd, Nat.reduceLT, Nat.reduceLeDiff, Nat.zero_le, and_self, pr_0, e, Bool.not_true]
  rfl
theorem len_l (ds : List D) (cs : Cells) : bLen T O [.lst ds] cs = .ok (.int ds.length) cs := rfl
theorem len_t (ds : List D) (cs : Cells) : bLen T O [.tup ds] cs = .ok (.int ds.length) cs := rfl
theorem at_in {α : Type} {xs : List α} {k : Int} (h0 : 0 ≤ k) (h1 : k < xs.length) : ∃ x ∈ xs, atI xs k = some x := by
  have hk : k.toNat < xs.length := by omega
  refine ⟨xs[k.toNat], List.getElem_mem hk, ?_⟩
  unfold atI ixN
  rw [if_pos h0, if_pos h1]
  simp [hk]
theorem dr4_cons {x : Int} {n : Int} {ns : List Int} (e : eqD T O (.lst ((n :: ns).map .int)) (.lst []) (penC ((n :: ns).map .int) (a + 1) r :: tl) = .ok false (penC ((n :: ns).map .int) (a + 1) r :: tl)) : ∃ y : Int, sm T O dr4 [.val (.cell 0), .val (.int m), .val (.int a), .val (.int x), s4, s5, s6] (penC ((n :: ns).map .int) (a + 1) r :: tl) = .ok (.nx [.val (.cell 0), .val (.int m), .val (.int a), .val (.int y), s4, s5, s6]) (penC ((n :: ns).map .int) (a + 1) r :: tl) := by
  unfold penC at *
  have hl : (0 : Int) < (((n :: ns).map D.int).length : Int) := by simp
  have h1 := Int.emod_nonneg (a : Int) (show (((n :: ns).map D.int).length : Int) ≠ 0 by omega)
  have h2 := Int.emod_lt_of_pos (a : Int) hl
  obtain ⟨y, hy, e1⟩ := at_in h1 h2
  obtain ⟨z, hz, rfl⟩ := List.mem_map.mp hy
  have e2 : ∀ cs, subD T O (.lst ((n :: ns).map .int)) (.int ((a : Int) % (((n :: ns).map D.int).length : Int))) cs = .ok (.int z) cs := fun cs => by
    show ofRes cs (atI _ _) = _
    rw [e1]
    rfl
  refine ⟨z, ?_⟩
  unfold dr4
  generalize (n :: ns).map D.int = l at *
  simp only [sm, thenF_nx, thenF_ret, thenF_brk, thenF_cnt, den, ofVT, ofVB, noDen, baseA, cmpD, bltD, bind_ok, ofRes_some, getV_0, getV_s, getB_0, getB_s, truth_bl, truth_int, cmp_lt, cmp_le, cmp_gt, cmp_ge, List.getElem?_cons_zero, List.getElem?_cons_succ, List.set_cons_zero, List.set_cons_succ, if_true, if_false, reduceIte, decide_true, decide_false, end_ret, end_nx, List.length_cons, List.length_nil, Nat.zero_add, Nat.reduceAdd, Nat.reduceLT, Nat.reduceLeDiff, Nat.zero_le, and_self, pr_0, e, Bool.not_false, vi_int, len_l, bin_mod T O hl, e2]
theorem dr5_no {x : Int} {l : List D} (e : ∀ cs, binD T O .pow (.int 10) (.int 18) cs = .ok (.int 1000000000000000000) cs) (h : ¬ ((a : Int) < l.length ∧ 1000000000000000000 ≤ (if x < 0 then -x else x))) : sm T O dr5 [.val (.cell 0), .val (.int m), .val (.int a), .val (.int x), s4, s5, s6] (penC l (a + 1) r :: tl) = .ok (.nx [.val (.cell 0), .val (.int m), .val (.int a), .val (.int x), s4, s5, s6]) (penC l (a + 1) r :: tl) := by
  unfold penC dr5
  by_cases h1 : (a : Int) < l.length
  · have h2 : ¬ 1000000000000000000 ≤ (if x < 0 then -x else x) := fun h2 => h ⟨h1, h2⟩
    simp only [sm, thenF_nx, thenF_ret, thenF_brk, thenF_cnt, den, ofVT, ofVB, noDen, baseA, cmpD, bltD, bind_ok, ofRes_some, getV_0, getV_s, getB_0, getB_s, truth_bl, truth_int, cmp_lt, cmp_le, cmp_gt, cmp_ge, List.getElem?_cons_zero, List.getElem?_cons_succ, List.set_cons_zero, List.set_cons_succ, if_true, if_false, reduceIte, decide_true, decide_false, end_ret, end_nx, List.length_cons, List.length_nil, Nat.zero_add, Nat.reduceAdd, Nat.reduceLT, Nat.reduceLeDiff, Nat.zero_le, and_self, pr_0, len_l, h1, h2, vi_abs, e]
    rfl
  · simp only [sm, thenF_nx, thenF_ret, thenF_brk, thenF_cnt, den, ofVT, ofVB, noDen, baseA, cmpD, bltD, bind_ok, ofRes_some, getV_0, getV_s, getB_0, getB_s, truth_bl, truth_int, cmp_lt, cmp_le, cmp_gt, cmp_ge, List.getElem?_cons_zero, List.getElem?_cons_succ, List.set_cons_zero, List.set_cons_succ, if_true, if_false, reduceIte, decide_true, decide_false, end_ret, end_nx, List.length_cons, List.length_nil, Nat.zero_add, Nat.reduceAdd, Nat.reduceLT, Nat.reduceLeDiff, Nat.zero_le, and_self, pr_0, len_l, h1]
    rfl
theorem dr5_yes {x : Int} {l : List D} (e : ∀ cs, binD T O .pow (.int 10) (.int 18) cs = .ok (.int 1000000000000000000) cs) (h : (a : Int) < l.length ∧ 1000000000000000000 ≤ (if x < 0 then -x else x)) (hm : 0 < m) (dv : okDiv m = true) : ∃ g : Int, 0 ≤ g ∧ sm T O dr5 [.val (.cell 0), .val (.int m), .val (.int a), .val (.int x), s4, s5, s6] (penC l (a + 1) r :: tl) = .ok (.ret (.int (g % m))) (penC l (a + 1) (g / m) :: tl) := by
  unfold penC dr5
  have hu : ∀ y : Int, okMul 2 y = true := fun y => rfl
  simp only [sm, thenF_nx, thenF_ret, thenF_brk, thenF_cnt, den, ofVT, ofVB, noDen, baseA, cmpD, bltD, bind_ok, ofRes_some, getV_0, getV_s, getB_0, getB_s, truth_bl, truth_int, cmp_lt, cmp_le, cmp_gt, cmp_ge, List.getElem?_cons_zero, List.getElem?_cons_succ, List.set_cons_zero, List.set_cons_succ, if_true, if_false, reduceIte, decide_true, decide_false, end_ret, end_nx, List.length_cons, List.length_nil, Nat.zero_add, Nat.reduceAdd, Nat.reduceLT, Nat.reduceLeDiff, Nat.zero_le, and_self, pr_0, len_l, h.1, h.2, vi_abs, e, bin_sub, bin_mul T O (hu _), vi_bool, bin_add, si_2, vi_int, bin_mod T O hm, bin_div T O dv]
  refine ⟨_, ?_, rfl⟩
  have := h.2
  have : (0 : Int) ≤ (if decide (x < 0) = true then 1 else 0) := by split <;> decide
  omega
theorem dr6_ok {p1 c3 c4 p2 x : Int} {s6' : Slot} {cs : Cells} (h1 : 0 < p1 ∧ p1 < 4294967296) (h2 : 0 < p2 ∧ p2 < 4294967296) (h3 : 0 ≤ c3 ∧ c3 < 1048576) (h4 : 0 ≤ c4 ∧ c4 < 1048576) (ha : a < 1048576) : ∃ y : Int, 0 ≤ y ∧ y < 4294967296 ∧ sm T O (dr6 p1 c3 c4 p2) [.val (.cell 0), .val (.int m), .val (.int a), .val (.int x), s4, s5, s6] cs = .ok (.nx [.val (.cell 0), .val (.int m), .val (.int a), .val (.int x), .val (.int y), s5, s6]) cs := by
  have m1 : okMul c3 a = true := okMul_iff.mpr (.inl (by constructor <;> omega))
  have b1 := Int.emod_nonneg x (show p1 ≠ 0 by omega)
  have b2 := Int.emod_lt_of_pos x h1.1
  have b3 : 0 ≤ c3 * a := Int.mul_nonneg h3.1 (by omega)
  have b4 : c3 * a ≤ 1048576 * 1048576 := Int.mul_le_mul (by omega) (by omega) (by omega) (by omega)
  have m2 : okPow (x % p1 + c3 * a + c4) 5 = true := okPow_iff.mpr ⟨by omega, by omega, by omega⟩
  unfold dr6
  simp only [sm, thenF_nx, thenF_ret, thenF_brk, thenF_cnt, den, ofVT, ofVB, noDen, baseA, cmpD, bltD, bind_ok, ofRes_some, getV_0, getV_s, getB_0, getB_s, truth_bl, truth_int, cmp_lt, cmp_le, cmp_gt, cmp_ge, List.getElem?_cons_zero, List.getElem?_cons_succ, List.set_cons_zero, List.set_cons_succ, if_true, if_false, reduceIte, decide_true, decide_false, end_ret, end_nx, List.length_cons, List.length_nil, Nat.zero_add, Nat.reduceAdd, Nat.reduceLT, Nat.reduceLeDiff, Nat.zero_le, and_self, vi_int, bin_mod T O h1.1, bin_mul T O m1, bin_add, bin_pow T O m2, bin_mod T O h2.1]
  refine ⟨_, ?_, ?_, rfl⟩
  · exact Int.emod_nonneg _ (by omega)
  · have := Int.emod_lt_of_pos ((x % p1 + c3 * a + c4) ^ (5 : Int).toNat) h2.1
    omega
theorem dr7_ok {c5 c6 c7 p3 x y : Int} {cs : Cells} (hy : 0 ≤ y ∧ y < 4294967296) (h1 : 0 < p3 ∧ p3 < 4294967296) (h3 : 0 ≤ c5 ∧ c5 < 1048576) (h4 : 0 ≤ c6 ∧ c6 < 1048576) (h5 : 0 ≤ c7 ∧ c7 < 1048576) (ha : a < 1048576) : ∃ z : Int, sm T O (dr7 c5 c6 c7 p3) [.val (.cell 0), .val (.int m), .val (.int a), .val (.int x), .val (.int y), s5, s6] cs = .ok (.nx [.val (.cell 0), .val (.int m), .val (.int a), .val (.int x), .val (.int z), s5, s6]) cs := by
  have m0 : okMul 2 a = true := rfl
  have m1 : okMul y (2 * a + c5) = true := okMul_iff.mpr (.inl (by constructor <;> omega))
  have m2 : okMul c6 a = true := okMul_iff.mpr (.inl (by constructor <;> omega))
  have m3 : okMul (c6 * a) a = true := okMul_iff.mpr (.inr (by constructor <;> omega))
  have b1 : 0 ≤ y * (2 * a + c5) := Int.mul_nonneg hy.1 (by omega)
  have b2 : y * (2 * a + c5) ≤ 4294967296 * 3145728 := Int.mul_le_mul (by omega) (by omega) (by omega) (by omega)
  have b3 : 0 ≤ c6 * a := Int.mul_nonneg h4.1 (by omega)
  have b4 : c6 * a ≤ 1048576 * 1048576 := Int.mul_le_mul (by omega) (by omega) (by omega) (by omega)
  have b5 : 0 ≤ c6 * a * a := Int.mul_nonneg b3 (by omega)
  have b6 : c6 * a * a ≤ 1048576 * 1048576 * 1048576 := Int.mul_le_mul b4 (by omega) (by omega) (by omega)
  have m4 : okPow (y * (2 * a + c5) + c6 * a * a + c7) 3 = true := okPow_iff.mpr ⟨by omega, by omega, by omega⟩
  unfold dr7
  simp only [sm, thenF_nx, thenF_ret, thenF_brk, thenF_cnt, den, ofVT, ofVB, noDen, baseA, cmpD, bltD, bind_ok, ofRes_some, getV_0, getV_s, getB_0, getB_s, truth_bl, truth_int, cmp_lt, cmp_le, cmp_gt, cmp_ge, List.getElem?_cons_zero, List.getElem?_cons_succ, List.set_cons_zero, List.set_cons_succ, if_true, if_false, reduceIte, decide_true, decide_false, end_ret, end_nx, List.length_cons, List.length_nil, Nat.zero_add, Nat.reduceAdd, Nat.reduceLT, Nat.reduceLeDiff, Nat.zero_le, and_self, vi_int, bin_mod T O h1.1, bin_mul T O m0, bin_mul T O m1, bin_mul T O m2, bin_mul T O m3, bin_add, bin_pow T O m4]
  exact ⟨_, rfl⟩
theorem dr8_ok {x z : Int} {cs : Cells} (hm : 0 < m) : sm T O dr8 [.val (.cell 0), .val (.int m), .val (.int a), .val (.int x), .val (.int z), s5, s6] cs = .ok (.ret (.int (z / 32 % m))) cs := by
  have d : okDiv 32 = true := rfl
  unfold dr8
  simp only [sm, thenF_nx, thenF_ret, thenF_brk, thenF_cnt, den, ofVT, ofVB, noDen, baseA, cmpD, bltD, bind_ok, ofRes_some, getV_0, getV_s, getB_0, getB_s, truth_bl, truth_int, cmp_lt, cmp_le, cmp_gt, cmp_ge, List.getElem?_cons_zero, List.getElem?_cons_succ, List.set_cons_zero, List.set_cons_succ, if_true, if_false, reduceIte, decide_true, decide_false, end_ret, end_nx, List.length_cons, List.length_nil, Nat.zero_add, Nat.reduceAdd, Nat.reduceLT, Nat.reduceLeDiff, Nat.zero_le, and_self, bin_div T O d, vi_int, bin_mod T O hm]
end
theorem seqE (T : Tab) (O : Orc) (x : List Int) (cs : Cells) : eqD T O (.lst (x.map .int)) (.lst []) cs = .ok (x.isEmpty) cs := by
  classical
  rw [eqD_pl T O (n := 1) (m := 1) (by simpa [pl] using pls_ints 0 x) (by rfl) (by decide) (by decide)]
  cases x <;> simp
theorem p1018 (T : Tab) (O : Orc) (cs : Cells) : binD T O .pow (.int 10) (.int 18) cs = .ok (.int 1000000000000000000) cs := bin_pow T O rfl cs
/-- how a draw goes -/
theorem draw_wp (T : Tab) (O : Orc) {c1 c2 p1 c3 c4 p2 c5 c6 c7 p3 : Int} (hc : (0 < p1 ∧ p1 < 4294967296) ∧ (0 < p2 ∧ p2 < 4294967296) ∧ (0 < p3 ∧ p3 < 4294967296) ∧ (0 ≤ c1 ∧ c1 < 1048576) ∧ (0 ≤ c3 ∧ c3 < 1048576) ∧ (0 ≤ c4 ∧ c4 < 1048576) ∧ (0 ≤ c5 ∧ c5 < 1048576) ∧ (0 ≤ c6 ∧ c6 < 1048576) ∧ (0 ≤ c7 ∧ c7 < 1048576))
    {tl : Cells} {b m : Nat} {cs : Cells} (h : Pn tl b cs) (hm : 0 < m) (hm2 : m < 1000000000) (hb : b < 1000000) :
    Wp ((sm T O (drawSm c1 c2 p1 c3 c4 p2 c5 c6 c7 p3) [.val (.cell 0), .val (.int m), .emp, .emp, .emp, .emp, .emp] cs).bind endF) fun d cs' => (∃ j : Nat, j < m ∧ d = .int j) ∧ Pn tl (b + 1) cs' := by
  obtain ⟨ns, a, r, rfl, hr, ha⟩ := h
  obtain ⟨hp1, hp2, hp3, hc1, hc3, hc4, hc5, hc6, hc7⟩ := hc
  have hm' : (0 : Int) < m := by omega
  have dv : okDiv (m : Int) = true := okDiv_of hm' (by omega)
  have fin : ∀ x : Int, ∃ j : Nat, j < m ∧ D.int (x % (m : Int)) = D.int j := fun x => by
    have h1 := Int.emod_nonneg x (show (m : Int) ≠ 0 by omega)
    have h2 := Int.emod_lt_of_pos x hm'
    exact ⟨(x % (m : Int)).toNat, by omega, by congr 1; omega⟩
  have ge : ∀ x : Int, 0 ≤ x → 0 ≤ x / (m : Int) := fun x hx => Int.ediv_nonneg hx (by omega)
  unfold drawSm
  by_cases h0 : 0 < r
  · rw [sm_seq, dr1_pos T O h0 hm' dv]
    exact ⟨_, _, rfl, fin _, ns, a, _, rfl, ge _ hr, by omega⟩
  rw [sm_seq, dr1_neg T O h0]
  simp only [bind_ok, thenF_nx]
  rw [sm_seq, dr2 T O]
  simp only [bind_ok, thenF_nx]
  rw [sm_seq, dr3 T O]
  simp only [bind_ok, thenF_nx]
  rw [sm_seq, dr3b T O hc1]
  simp only [bind_ok, thenF_nx]
  have e4 : ∃ y : Int, sm T O dr4 [.val (.cell 0), .val (.int m), .val (.int a), .val (.int (c1 * a + c2)), .emp, .emp, .emp] (penC (ns.map .int) (a + 1) r :: tl) = .ok (.nx [.val (.cell 0), .val (.int m), .val (.int a), .val (.int y), .emp, .emp, .emp]) (penC (ns.map .int) (a + 1) r :: tl) := by
    cases ns with
    | nil => exact ⟨_, dr4_nil T O (seqE T O [] _)⟩
    | cons n ns => exact dr4_cons T O (seqE T O (n :: ns) _)
  obtain ⟨y, e4⟩ := e4
  rw [sm_seq, e4]
  simp only [bind_ok, thenF_nx]
  by_cases h5 : (a : Int) < (ns.map D.int).length ∧ 1000000000000000000 ≤ (if y < 0 then -y else y)
  · obtain ⟨g, hg, e5⟩ := dr5_yes (m := m) (r := r) (tl := tl) (s4 := .emp) (s5 := .emp) (s6 := .emp) T O (p1018 T O) h5 hm' dv
    rw [sm_seq, e5]
    exact ⟨_, _, rfl, fin _, ns, a + 1, _, rfl, ge _ hg, by omega⟩
  rw [sm_seq, dr5_no T O (p1018 T O) h5]
  simp only [bind_ok, thenF_nx]
  obtain ⟨z, z0, z1, e6⟩ := dr6_ok T O (m := m) (x := y) (s4 := .emp) (s5 := .emp) (s6 := .emp) (s6' := .emp) (cs := penC (ns.map .int) (a + 1) r :: tl) hp1 hp2 hc3 hc4 (show a < 1048576 by omega)
  rw [sm_seq, e6]
  simp only [bind_ok, thenF_nx]
  obtain ⟨w, e7⟩ := dr7_ok T O (m := m) (x := y) (s5 := .emp) (s6 := .emp) (cs := penC (ns.map .int) (a + 1) r :: tl) ⟨z0, z1⟩ hp3 hc5 hc6 hc7 (show a < 1048576 by omega)
  rw [sm_seq, e7]
  simp only [bind_ok, thenF_nx]
  rw [sm_seq, dr8_ok T O hm']
  exact ⟨_, _, rfl, fin _, ns, a + 1, r, rfl, hr, by omega⟩
/-- a comprehension whose turns draw -/
theorem compL_pen {turn : D → Cells → Res (Option D)} {tl : Cells} {c : Nat} (P : D → Prop) : ∀ {xs acc : List D} {b : Nat} {cs : Cells}, (∀ x ∈ xs, ∀ b' cs, b ≤ b' → b' + c ≤ b + c * xs.length → Pn tl b' cs → Wp (turn x cs) fun o cs' => ∃ d, o = some d ∧ P d ∧ Pn tl (b' + c) cs') →
    acc.length + xs.length ≤ sizeLine → (∀ d ∈ acc, P d) → Pn tl b cs → Wp (compL turn acc xs cs) fun ds cs' => ds.length = acc.length + xs.length ∧ (∀ d ∈ ds, P d) ∧ Pn tl (b + c * xs.length) cs'
  | [], acc, b, cs, _, _, ha, hp => ⟨acc, cs, rfl, by simp, ha, by simpa using hp⟩
  | x :: xs, acc, b, cs, h, hl, ha, hp => by
    have hx := h x List.mem_cons_self b cs (Nat.le_refl _) (by simp [Nat.mul_add]) hp
    obtain ⟨o, cs2, e, d, rfl, hd, hp2⟩ := hx
    rw [compL, e]
    show Wp (if acc.length < sizeLine then compL turn (acc ++ [d]) xs cs2 else .bad) _
    simp only [List.length_cons] at hl
    rw [if_pos (by omega)]
    refine wp_mono (compL_pen (c := c) P (b := b + c) (fun y hy b' cs' h1 h2 => h y (List.mem_cons_of_mem _ hy) b' cs' (by omega) (by rw [List.length_cons, Nat.mul_add, Nat.mul_one]; omega)) (by simp; omega) (by
      intro y hy
      rcases List.mem_append.mp hy with q | q
      · exact ha y q
      · simp at q; subst q; exact hd) hp2) fun ds cs' q => ?_
    refine ⟨by rw [q.1]; simp; omega, q.2.1, ?_⟩
    have : b + c + c * xs.length = b + c * (x :: xs).length := by simp [Nat.mul_add]; omega
    rw [← this]
    exact q.2.2
theorem comp_pen {α : Type} {turn : D → Cells → Res (Option D)} {tl : Cells} {c n : Nat} (P : D → Prop) {xs : List D} {b : Nat} {cs : Cells} {k : List D → Cells → Res α} {Q : α → Cells → Prop} (h : ∀ x ∈ xs, ∀ b' cs, b ≤ b' → b' + c ≤ b + c * xs.length → Pn tl b' cs → Wp (turn x cs) fun o cs' => ∃ d, o = some d ∧ P d ∧ Pn tl (b' + c) cs')
    (hl : xs.length ≤ n) (hn : n ≤ sizeLine) (hp : Pn tl b cs) (hk : ∀ ds cs', ds.length = xs.length → (∀ d ∈ ds, P d) → Pn tl (b + c * n) cs' → Wp (k ds cs') Q) : Wp ((compF turn [] xs cs).bind k) Q :=
  wp_at (compL_pen P h (by simpa using Nat.le_trans hl hn) (by simp) hp) fun ds cs' q => hk ds cs' (by simpa using q.1) q.2.1 (q.2.2.mono (Nat.add_le_add_left (Nat.mul_le_mul_left _ hl) _))
end Dv
end
section
set_option Elab.async false
set_option linter.all false
set_option maxRecDepth 100000
set_option maxHeartbeats 0
namespace K19
open PySem PySem.Spec PyProof.Rows L2 Dv
def f_is_integer : Fn := ⟨1, false, 1, [], none, (.seq (.ret (.and (.isi (.var 0) [.int]) (.not (.isi (.var 0) [.bool])))) .skip)⟩
def f_is_within : Fn := ⟨3, false, 3, [], none, (.seq (.ret (.and (.call 0 (.cons (.var 0) .nil)) (.chain .le .le (.var 1) (.var 0) (.var 2)))) .skip)⟩
def f_are_rows : Fn := ⟨1, false, 2, [], none, (.seq (.ite (.or (.not (.isi (.var 0) [.list, .tuple])) (.cmp .gt (.blt .len (.cons (.var 0) .nil)) (.glob 0))) (.seq (.ret (.bl false)) .skip) .skip) (.seq (.ret (.blt .all (.cons (.comp (.call 1 (.cons (.var 1) (.cons (.int 1) (.cons (.glob 1) .nil)))) [1] true (.var 0) .nil) .nil))) .skip))⟩
def f_total_of : Fn := ⟨1, false, 2, [], none, (.seq (.ret (.blt .sum (.cons (.comp (.blt .int (.cons (.var 1) .nil)) [1] true (.var 0) .nil) .nil))) .skip)⟩
def f_rows_of : Fn := ⟨1, false, 3, [], none, (.seq (.own 1 .nil) (.seq (.for_ [2] true (.var 0) (.seq (.ext 1 (.var 2)) .skip)) (.frz 1 (.seq (.ret (.blt .tuple (.cons (.var 1) .nil))) .skip))))⟩
def f_law_pen : Fn := ⟨1, false, 1, [], none, (.seq (.retC (.cons (.blt .list (.cons (.slice (.var 0) .nil (.int 63)) .nil)) (.cons (.int 0) (.cons (.int 0) .nil)))) .skip)⟩
def f_law_draw : Fn := ⟨2, false, 7, [], none, (.seq (.ite (.cmp .gt (.sub (.var 0) (.int 2)) (.int 0)) (.seq (.set 5 (.bin .mod (.blt .int (.cons (.sub (.var 0) (.int 2)) .nil)) (.var 1))) (.seq (.setI 0 (.int 2) (.bin .fdiv (.blt .int (.cons (.sub (.var 0) (.int 2)) .nil)) (.var 1))) (.seq (.ret (.var 5)) .skip))) .skip) (.seq (.set 2 (.sub (.var 0) (.int 1))) (.seq (.setI 0 (.int 1) (.bin .add (.var 2) (.int 1))) (.seq (.set 3 (.bin .add (.bin .mul (.int 68791) (.var 2)) (.int 2639))) (.seq (.ite (.cmp .ne (.sub (.var 0) (.int 0)) (.lst .nil)) (.seq (.set 3 (.sub (.sub (.var 0) (.int 0)) (.bin .mod (.blt .int (.cons (.var 2) .nil)) (.blt .len (.cons (.sub (.var 0) (.int 0)) .nil))))) .skip) .skip) (.seq (.ite (.and (.cmp .lt (.var 2) (.blt .len (.cons (.sub (.var 0) (.int 0)) .nil))) (.cmp .ge (.blt .abs (.cons (.var 3) .nil)) (.bin .pow (.int 10) (.int 18)))) (.seq (.set 6 (.bin .add (.bin .mul (.int 2) (.bin .sub (.blt .abs (.cons (.var 3) .nil)) (.bin .pow (.int 10) (.int 18)))) (.blt .int (.cons (.cmp .lt (.var 3) (.int 0)) .nil)))) (.seq (.setI 0 (.int 2) (.bin .fdiv (.blt .int (.cons (.var 6) .nil)) (.var 1))) (.seq (.ret (.bin .mod (.blt .int (.cons (.var 6) .nil)) (.var 1))) .skip))) .skip) (.seq (.set 4 (.bin .mod (.blt .int (.cons (.bin .pow (.bin .add (.bin .add (.bin .mod (.blt .int (.cons (.var 3) .nil)) (.int 2147483497)) (.bin .mul (.int 46087) (.var 2))) (.int 763)) (.int 5)) .nil)) (.int 2147483489))) (.seq (.set 4 (.bin .mod (.blt .int (.cons (.bin .pow (.bin .add (.bin .add (.bin .mul (.var 4) (.bin .add (.bin .mul (.int 2) (.var 2)) (.int 141))) (.bin .mul (.bin .mul (.int 40911) (.var 2)) (.var 2))) (.int 545)) (.int 3)) .nil)) (.int 2147483587))) (.seq (.ret (.bin .mod (.blt .int (.cons (.bin .fdiv (.var 4) (.int 32)) .nil)) (.var 1))) .skip)))))))))⟩
def f_law_pick : Fn := ⟨2, false, 2, [], none, (.seq (.ret (.sub (.var 1) (.call 6 (.cons (.var 0) (.cons (.blt .len (.cons (.var 1) .nil)) .nil))))) .skip)⟩
def f_law_pages : Fn := ⟨2, false, 6, [], none, (.seq (.set 2 (.call 7 (.cons (.var 0) (.cons (.lst (.cons (.int 3) (.cons (.int 5) (.cons (.int 12) (.cons (.int 60) .nil))))) .nil)))) (.seq (.own 3 .nil) (.seq (.for_ [4] true (.rng (.bin .add (.int 1) (.call 6 (.cons (.var 0) (.cons (.var 1) .nil))))) (.seq (.app 3 (.comp (.bin .add (.int 1) (.call 6 (.cons (.var 0) (.cons (.var 2) .nil)))) [5] true (.rng (.bin .add (.int 1) (.call 6 (.cons (.var 0) (.cons (.int 5) .nil))))) .nil)) .skip)) (.frz 3 (.seq (.ret (.var 3)) .skip)))))⟩
def f_law_made : Fn := ⟨1, false, 3, [], none, (.seq (.set 1 (.new 0 (.cons (.sub (.var 0) (.int 0)) .nil))) (.seq (.for_ [2] true (.slice (.var 0) (.int 1) .nil) (.seq (.set 1 (.bin .add (.var 1) (.new 0 (.cons (.blt .tuple (.cons (.var 2) .nil)) .nil)))) .skip)) (.seq (.ret (.var 1)) .skip)))⟩
def f_law_text : Fn := ⟨1, false, 3, [], none, (.seq (.ret (.ifx (.cmp .ne (.var 0) (.lst (.cons (.lst .nil) .nil))) (.join (.str " / ") (.comp (.join (.str " ") (.comp (.blt .str (.cons (.var 2) .nil)) [2] true (.var 1) .nil)) [1] true (.var 0) .nil)) (.str "-"))) .skip)⟩
def f_law_is : Fn := ⟨2, false, 3, [], none, (.seq (.ret (.and (.isi (.var 0) [.cls 0]) (.and (.cmp .eq (.comp (.blt .list (.cons (.var 2) .nil)) [2] true (.attr (.var 0) 0) .nil) (.var 1)) (.cmp .eq (.blt .str (.cons (.var 0) .nil)) (.call 10 (.cons (.var 1) .nil)))))) .skip)⟩
def f_law_parts_right : Fn := ⟨2, false, 4, [], none, (.seq (.for_ [2] true (.rng (.blt .len (.cons (.var 1) .nil))) (.seq (.for_ [3] true (.rng2 (.bin .add (.var 2) (.int 1)) (.bin .add (.blt .len (.cons (.var 1) .nil)) (.int 1))) (.seq (.ite (.or (.not (.call 11 (.cons (.meth 13 (.var 0) (.cons (.var 2) (.cons (.var 3) .nil))) (.cons (.slice (.var 1) (.var 2) (.var 3)) .nil)))) (.cmp .ne (.methk 13 (.var 0) .nil (.cons (.var 3) (.cons (.var 2) .nil)) [1, 0]) (.meth 13 (.var 0) (.cons (.var 2) (.cons (.var 3) .nil))))) (.seq (.ret (.bl false)) .skip) .skip) .skip)) .skip)) (.seq (.ret (.bl true)) .skip))⟩
def f_law_changed_right : Fn := ⟨3, false, 6, [], none, (.seq (.par [3, 4] (.cons (.call 6 (.cons (.var 0) (.cons (.blt .len (.cons (.var 2) .nil)) .nil))) (.cons (.comp (.bin .add (.int 1) (.call 6 (.cons (.var 0) (.cons (.int 60) .nil)))) [5] true (.rng (.bin .add (.int 1) (.call 6 (.cons (.var 0) (.cons (.int 4) .nil))))) .nil) .nil))) (.seq (.ite (.not (.call 11 (.cons (.meth 14 (.var 1) (.cons (.var 3) (.cons (.var 4) .nil))) (.cons (.bin .add (.bin .add (.slice (.var 2) .nil (.var 3)) (.lst (.cons (.var 4) .nil))) (.slice (.var 2) (.bin .add (.var 3) (.int 1)) .nil)) .nil)))) (.seq (.ret (.bl false)) .skip) .skip) (.seq (.ite (.cmp .ne (.methk 14 (.var 1) .nil (.cons (.blt .tuple (.cons (.var 4) .nil)) (.cons (.var 3) .nil)) [1, 0]) (.meth 14 (.var 1) (.cons (.var 3) (.cons (.var 4) .nil)))) (.seq (.ret (.bl false)) .skip) .skip) (.seq (.ite (.and (.cmp .gt (.blt .len (.cons (.var 2) .nil)) (.int 1)) (.not (.call 11 (.cons (.meth 15 (.var 1) (.cons (.var 3) .nil)) (.cons (.bin .add (.slice (.var 2) .nil (.var 3)) (.slice (.var 2) (.bin .add (.var 3) (.int 1)) .nil)) .nil))))) (.seq (.ret (.bl false)) .skip) .skip) (.seq (.ret (.or (.cmp .gt (.blt .len (.cons (.var 2) .nil)) (.int 1)) (.call 11 (.cons (.meth 14 (.var 1) (.cons (.int 0) (.cons (.lst .nil) .nil))) (.cons (.lst (.cons (.lst .nil) .nil)) .nil))))) .skip)))))⟩
def f_law_right : Fn := ⟨3, false, 7, [], none, (.seq (.par [4, 5] (.cons (.call 9 (.cons (.var 1) .nil)) (.cons (.call 9 (.cons (.var 2) .nil)) .nil))) (.seq (.ite (.or (.not (.call 11 (.cons (.bin .add (.var 4) (.var 5)) (.cons (.bin .add (.var 1) (.var 2)) .nil)))) (.or (.not (.call 11 (.cons (.inv (.var 4)) (.cons (.comp (.rev (.var 6)) [6] true (.rev (.var 1)) .nil) .nil)))) (.cmp .ne (.inv (.inv (.var 4))) (.var 4)))) (.seq (.ret (.bl false)) .skip) .skip) (.seq (.set 3 (.var 4)) (.seq (.aug 3 .add (.var 5)) (.seq (.ite (.or (.cmp .ne (.var 3) (.bin .add (.var 4) (.var 5))) (.or (.not (.call 11 (.cons (.bin .add (.var 4) (.new 0 (.cons (.lst .nil) .nil))) (.cons (.var 1) .nil)))) (.not (.call 11 (.cons (.bin .add (.new 0 (.cons (.tup .nil) .nil)) (.var 4)) (.cons (.var 1) .nil)))))) (.seq (.ret (.bl false)) .skip) .skip) (.seq (.ite (.or (.not (.call 12 (.cons (.var 4) (.cons (.var 1) .nil)))) (.not (.call 13 (.cons (.var 0) (.cons (.var 5) (.cons (.var 2) .nil)))))) (.seq (.ret (.bl false)) .skip) .skip) (.seq (.ret (.and (.call 11 (.cons (.var 4) (.cons (.var 1) .nil))) (.and (.call 11 (.cons (.var 5) (.cons (.var 2) .nil))) (.cmp .eq (.inv (.bin .add (.var 4) (.var 5))) (.bin .add (.inv (.var 5)) (.inv (.var 4))))))) .skip)))))))⟩
def f_law : Fn := ⟨1, false, 4, [], none, (.seq (.set 1 (.call 5 (.cons (.var 0) .nil))) (.seq (.for_ [2] true (.rng (.int 6)) (.seq (.ite (.not (.call 14 (.cons (.var 1) (.cons (.call 8 (.cons (.var 1) (.cons (.int 5) .nil))) (.cons (.call 8 (.cons (.var 1) (.cons (.int 4) .nil))) .nil))))) (.seq (.ret (.bl false)) .skip) .skip) .skip)) (.seq (.set 3 (.new 0 (.cons (.lst .nil) .nil))) (.seq (.ret (.and (.cmp .eq (.bin .add (.var 3) (.var 3)) (.var 3)) (.and (.cmp .eq (.inv (.var 3)) (.var 3)) (.and (.cmp .eq (.meth 13 (.var 3) (.cons (.int 0) (.cons (.int 1) .nil))) (.var 3)) (.cmp .eq (.meth 14 (.new 0 (.cons (.lst (.cons (.int 5) .nil)) .nil)) (.cons (.int 0) (.cons (.tup .nil) .nil))) (.var 3)))))) .skip))))⟩
def f_Chain_init : Fn := ⟨1, true, 4, [], some 0, (.seq (.for_ [2, 3] false (.enum (.var 1)) (.seq (.ite (.or (.not (.call 2 (.cons (.var 3) .nil))) (.and (.cmp .eq (.blt .len (.cons (.var 3) .nil)) (.int 0)) (.cmp .gt (.blt .len (.cons (.var 1) .nil)) (.int 1)))) (.seq .never .skip) .skip) .skip)) (.seq (.ite (.cmp .eq (.blt .len (.cons (.var 1) .nil)) (.int 0)) (.seq .never .skip) .skip) (.seq (.ite (.cmp .gt (.blt .len (.cons (.var 1) .nil)) (.glob 2)) (.seq .never .skip) .skip) (.seq (.setA 0 0 (.blt .tuple (.cons (.comp (.blt .tuple (.cons (.var 3) .nil)) [3] true (.var 1) .nil) .nil))) (.seq (.setA 0 1 (.call 4 (.cons (.attr (.var 0) 0) .nil))) (.seq (.setA 0 2 (.call 3 (.cons (.attr (.var 0) 1) .nil))) .skip))))))⟩
def f_Chain_stretch : Fn := ⟨3, false, 5, [], none, (.seq (.for_ [3] true (.tup (.cons (.var 1) (.cons (.var 2) .nil))) (.seq (.ite (.not (.call 1 (.cons (.var 3) (.cons (.int 0) (.cons (.blt .len (.cons (.attr (.var 0) 0) .nil)) .nil))))) (.seq .never .skip) .skip) .skip)) (.seq (.set 4 (.slice (.attr (.var 0) 0) (.var 1) (.var 2))) (.seq (.ret (.new 0 (.star (.var 4) .nil))) .skip)))⟩
def f_Chain_need_page : Fn := ⟨2, false, 2, [], none, (.seq (.ite (.not (.call 1 (.cons (.var 1) (.cons (.int 0) (.cons (.bin .sub (.blt .len (.cons (.attr (.var 0) 0) .nil)) (.int 1)) .nil))))) (.seq .never .skip) .skip) .skip)⟩
def f_Chain_add : Fn := ⟨2, false, 4, [], none, (.seq (.ite (.not (.isi (.var 1) [.cls 0])) (.seq .never .skip) .skip) (.seq (.set 2 (.comp (.var 3) [3] true (.lst (.star (.attr (.var 0) 0) (.star (.attr (.var 1) 0) .nil))) (.cmp .gt (.blt .len (.cons (.var 3) .nil)) (.int 0)))) (.seq (.ret (.ifx (.cmp .gt (.blt .len (.cons (.var 2) .nil)) (.int 0)) (.new 0 (.star (.var 2) .nil)) (.new 0 (.cons (.tup .nil) .nil)))) .skip)))⟩
def f_Chain_invert : Fn := ⟨1, false, 3, [], none, (.seq (.set 1 (.comp (.rev (.var 2)) [2] true (.rev (.attr (.var 0) 0)) .nil)) (.seq (.ret (.new 0 (.star (.var 1) .nil))) .skip))⟩
def f_Chain_with_page : Fn := ⟨3, false, 4, [], none, (.seq (.ex (.meth 16 (.var 0) (.cons (.var 1) .nil))) (.seq (.set 3 (.lst (.star (.slice (.attr (.var 0) 0) .nil (.var 1)) (.cons (.var 2) (.star (.slice (.attr (.var 0) 0) (.bin .add (.var 1) (.int 1)) .nil) .nil))))) (.seq (.ret (.new 0 (.star (.var 3) .nil))) .skip)))⟩
def f_Chain_without_page : Fn := ⟨2, false, 3, [], none, (.seq (.ex (.meth 16 (.var 0) (.cons (.var 1) .nil))) (.seq (.set 2 (.lst (.star (.slice (.attr (.var 0) 0) .nil (.var 1)) (.star (.slice (.attr (.var 0) 0) (.bin .add (.var 1) (.int 1)) .nil) .nil)))) (.seq (.ret (.new 0 (.star (.var 2) .nil))) .skip)))⟩
def f_Chain_eq : Fn := ⟨2, false, 2, [], none, (.seq (.ret (.and (.isi (.var 1) [.cls 0]) (.cmp .eq (.attr (.var 0) 0) (.attr (.var 1) 0)))) .skip)⟩
def f_Chain_str : Fn := ⟨1, false, 3, [], none, (.seq (.ite (.cmp .eq (.attr (.var 0) 0) (.tup (.cons (.tup .nil) .nil))) (.seq (.ret (.str "-")) .skip) .skip) (.seq (.ret (.join (.str " / ") (.comp (.join (.str " ") (.comp (.fmt (.var 2)) [2] true (.var 1) .nil)) [1] true (.attr (.var 0) 0) .nil))) .skip))⟩
def T : Tab := ⟨[f_is_integer, f_is_within, f_are_rows, f_total_of, f_rows_of, f_law_pen, f_law_draw, f_law_pick, f_law_pages, f_law_made, f_law_text, f_law_is, f_law_parts_right, f_law_changed_right, f_law_right, f_law, f_Chain_init, f_Chain_stretch, f_Chain_need_page, f_Chain_add, f_Chain_invert, f_Chain_with_page, f_Chain_without_page, f_Chain_eq, f_Chain_str], [⟨some 16, false, [(13, 17), (16, 18), (1, 19), (2, 20), (14, 21), (15, 22), (0, 23), (3, 24)], [], [0], [0, 1, 2]⟩], [.int 60, .int 60, .int 400]⟩
def top (i : Nat) : Stmt := PySem.Challenge.pw_pagefloor_k19_whole_chains_put_together.main.body.getD i (.Pass ⟨0, 0, 0, 0⟩)
def inner (i j : Nat) : Stmt := (C8.clsBody (top i)).getD j (.Pass ⟨0, 0, 0, 0⟩)
def mk (x q : Str) (st : Stmt) (N ps : List Str) : FI := ⟨x, q, C8.fnArgs st, C8.fnBody st, C8.fnScope st, N, ps⟩
def fi : List FI := [mk "is_integer" "is_integer" (top 2) ["value"] ["value"],
  mk "is_within" "is_within" (top 3) ["value", "least", "most"] ["value", "least", "most"],
  mk "are_rows" "are_rows" (top 17) ["value", "row"] ["value"],
  mk "total_of" "total_of" (top 18) ["page", "row"] ["page"],
  mk "rows_of" "rows_of" (top 19) ["pages", "found", "page"] ["pages"],
  mk "_law_pen" "_law_pen" (top 23) ["_law_script"] ["_law_script"],
  mk "_law_draw" "_law_draw" (top 24) ["_law_pen_here", "_law_many", "_law_step", "_law_cell", "_law_mixed", "_law_digit", "_law_great"] ["_law_pen_here", "_law_many"],
  mk "_law_pick" "_law_pick" (top 25) ["_law_pen_here", "_law_some"] ["_law_pen_here", "_law_some"],
  mk "_law_pages" "_law_pages" (top 26) ["_law_pen_here", "_law_most", "_law_tops", "_law_found", "_law_turn_so", "_law_row_so"] ["_law_pen_here", "_law_most"],
  mk "_law_made" "_law_made" (top 27) ["_law_pages_here", "_law_found", "_law_page"] ["_law_pages_here"],
  mk "_law_text" "_law_text" (top 28) ["_law_pages_here", "_law_page", "_law_row"] ["_law_pages_here"],
  mk "_law_is" "_law_is" (top 29) ["_law_made_here", "_law_pages_here", "_law_page"] ["_law_made_here", "_law_pages_here"],
  mk "_law_parts_right" "_law_parts_right" (top 30) ["_law_made_here", "_law_pages_here", "_law_begin", "_law_end"] ["_law_made_here", "_law_pages_here"],
  mk "_law_changed_right" "_law_changed_right" (top 31) ["_law_pen_here", "_law_made_here", "_law_pages_here", "_law_at", "_law_page", "_law_turn_so"] ["_law_pen_here", "_law_made_here", "_law_pages_here"],
  mk "_law_right" "_law_right" (top 32) ["_law_pen_here", "_law_first", "_law_last", "_law_held", "_law_one", "_law_other", "_law_page"] ["_law_pen_here", "_law_first", "_law_last"],
  mk "law" "law" (top 33) ["_law_script", "_law_pen_here", "_law_turn_so", "_law_bare"] ["_law_script"],
  mk "__init__" "Chain.__init__" (inner 20 0) ["self", "pages", "at", "page"] ["self", "pages"],
  mk "stretch" "Chain.stretch" (inner 20 7) ["self", "begin", "end", "value", "pages"] ["self", "begin", "end"],
  mk "need_page" "Chain.need_page" (inner 20 8) ["self", "at"] ["self", "at"],
  mk "__add__" "Chain.__add__" (inner 20 9) ["self", "other", "pages", "page"] ["self", "other"],
  mk "__invert__" "Chain.__invert__" (inner 20 10) ["self", "pages", "page"] ["self"],
  mk "with_page" "Chain.with_page" (inner 20 11) ["self", "at", "page", "pages"] ["self", "at", "page"],
  mk "without_page" "Chain.without_page" (inner 20 12) ["self", "at", "pages"] ["self", "at"],
  mk "__eq__" "Chain.__eq__" (inner 20 15) ["self", "other"] ["self", "other"],
  mk "__str__" "Chain.__str__" (inner 20 16) ["self", "page", "row"] ["self"]]
def D : LD where
  T := T
  cn := ["Chain"]
  ats := ["pages", "rows", "size"]
  mts := ["__eq__", "__add__", "__invert__", "__str__", "__len__", "__iter__", "__bool__", "__contains__", "__getitem__", "__call__", "__or__", "__and__", "__sub__", "stretch", "with_page", "without_page", "need_page"]
  fi := fi
  fw := [.glo "is_integer", .glo "is_within", .glo "are_rows", .glo "total_of", .glo "rows_of", .glo "_law_pen", .glo "_law_draw", .glo "_law_pick", .glo "_law_pages", .glo "_law_made", .glo "_law_text", .glo "_law_is", .glo "_law_parts_right", .glo "_law_changed_right", .glo "_law_right", .glo "law", .meth "Chain" "__init__", .meth "Chain" "stretch", .meth "Chain" "need_page", .meth "Chain" "__add__", .meth "Chain" "__invert__", .meth "Chain" "with_page", .meth "Chain" "without_page", .meth "Chain" "__eq__", .meth "Chain" "__str__"]
  glo := [("isinstance", .blt), ("int", .blt), ("bool", .blt), ("is_integer", .fn 0), ("list", .blt), ("tuple", .blt), ("len", .blt), ("MOST_ROWS", .const 0), ("all", .blt), ("is_within", .fn 1), ("MOST_LENGTH", .const 1), ("sum", .blt), ("abs", .blt), ("_law_draw", .fn 6), ("_law_pick", .fn 7), ("range", .blt), ("Chain", .cls 0), ("str", .blt), ("_law_text", .fn 10), ("_law_is", .fn 11), ("_law_made", .fn 9), ("_law_parts_right", .fn 12), ("_law_changed_right", .fn 13), ("_law_pen", .fn 5), ("_law_right", .fn 14), ("_law_pages", .fn 8), ("enumerate", .blt), ("are_rows", .fn 2), ("MOST_PAGES", .const 2), ("rows_of", .fn 4), ("total_of", .fn 3), ("law", .fn 15)]
  kw := [(17, 1, ["end", "begin"], [0, 2, 1]), (21, 1, ["page", "at"], [0, 2, 1])]
theorem binds : ∀ f F, T.fns[f]? = some F → FnB (D.nm []) f F (D.fiAt f) := by
  intro f F h
  match f, h with
  | 0, rfl => exact ⟨(fun _ _ _ _ _ _ _ us hl => match us, hl with | [_], _ => rfl), fun h => (nomatch h), fun n ks perm hk => (no_kw hk (by decide)).elim⟩
  | 1, rfl => exact ⟨(fun _ _ _ _ _ _ _ us hl => match us, hl with | [_, _, _], _ => rfl), fun h => (nomatch h), fun n ks perm hk => (no_kw hk (by decide)).elim⟩
  | 2, rfl => exact ⟨(fun _ _ _ _ _ _ _ us hl => match us, hl with | [_], _ => rfl), fun h => (nomatch h), fun n ks perm hk => (no_kw hk (by decide)).elim⟩
  | 3, rfl => exact ⟨(fun _ _ _ _ _ _ _ us hl => match us, hl with | [_], _ => rfl), fun h => (nomatch h), fun n ks perm hk => (no_kw hk (by decide)).elim⟩
  | 4, rfl => exact ⟨(fun _ _ _ _ _ _ _ us hl => match us, hl with | [_], _ => rfl), fun h => (nomatch h), fun n ks perm hk => (no_kw hk (by decide)).elim⟩
  | 5, rfl => exact ⟨(fun _ _ _ _ _ _ _ us hl => match us, hl with | [_], _ => rfl), fun h => (nomatch h), fun n ks perm hk => (no_kw hk (by decide)).elim⟩
  | 6, rfl => exact ⟨(fun _ _ _ _ _ _ _ us hl => match us, hl with | [_, _], _ => rfl), fun h => (nomatch h), fun n ks perm hk => (no_kw hk (by decide)).elim⟩
  | 7, rfl => exact ⟨(fun _ _ _ _ _ _ _ us hl => match us, hl with | [_, _], _ => rfl), fun h => (nomatch h), fun n ks perm hk => (no_kw hk (by decide)).elim⟩
  | 8, rfl => exact ⟨(fun _ _ _ _ _ _ _ us hl => match us, hl with | [_, _], _ => rfl), fun h => (nomatch h), fun n ks perm hk => (no_kw hk (by decide)).elim⟩
  | 9, rfl => exact ⟨(fun _ _ _ _ _ _ _ us hl => match us, hl with | [_], _ => rfl), fun h => (nomatch h), fun n ks perm hk => (no_kw hk (by decide)).elim⟩
  | 10, rfl => exact ⟨(fun _ _ _ _ _ _ _ us hl => match us, hl with | [_], _ => rfl), fun h => (nomatch h), fun n ks perm hk => (no_kw hk (by decide)).elim⟩
  | 11, rfl => exact ⟨(fun _ _ _ _ _ _ _ us hl => match us, hl with | [_, _], _ => rfl), fun h => (nomatch h), fun n ks perm hk => (no_kw hk (by decide)).elim⟩
  | 12, rfl => exact ⟨(fun _ _ _ _ _ _ _ us hl => match us, hl with | [_, _], _ => rfl), fun h => (nomatch h), fun n ks perm hk => (no_kw hk (by decide)).elim⟩
  | 13, rfl => exact ⟨(fun _ _ _ _ _ _ _ us hl => match us, hl with | [_, _, _], _ => rfl), fun h => (nomatch h), fun n ks perm hk => (no_kw hk (by decide)).elim⟩
  | 14, rfl => exact ⟨(fun _ _ _ _ _ _ _ us hl => match us, hl with | [_, _, _], _ => rfl), fun h => (nomatch h), fun n ks perm hk => (no_kw hk (by decide)).elim⟩
  | 15, rfl => exact ⟨(fun _ _ _ _ _ _ _ us hl => match us, hl with | [_], _ => rfl), fun h => (nomatch h), fun n ks perm hk => (no_kw hk (by decide)).elim⟩
  | 16, rfl => exact ⟨(fun h => nomatch h), fun _ => ⟨["self"], "pages", rfl, (fun _ _ _ _ _ _ us rest hl => match us, rest, hl with | [_], [], _ => rfl | [_], _ :: _, _ => rfl)⟩, fun n ks perm hk => (no_kw hk (by decide)).elim⟩
  | 17, rfl =>
    refine ⟨(fun _ _ _ _ _ _ _ us hl => match us, hl with | [_, _, _], _ => rfl), fun h => (nomatch h), fun n ks perm hk => ?_⟩
    have hk : D.kw.contains (17, n, ks, perm) = true := hk
    have hm := List.contains_iff_mem.mp hk
    simp [D] at hm
    obtain ⟨rfl, rfl, rfl⟩ := hm
    exact ⟨rfl, fun _ _ _ _ _ _ us ws hu hw => match us, hu, ws, hw with | [_], _, [_, _], _ => ⟨_, rfl, rfl, rfl⟩⟩
  | 18, rfl => exact ⟨(fun _ _ _ _ _ _ _ us hl => match us, hl with | [_, _], _ => rfl), fun h => (nomatch h), fun n ks perm hk => (no_kw hk (by decide)).elim⟩
  | 19, rfl => exact ⟨(fun _ _ _ _ _ _ _ us hl => match us, hl with | [_, _], _ => rfl), fun h => (nomatch h), fun n ks perm hk => (no_kw hk (by decide)).elim⟩
  | 20, rfl => exact ⟨(fun _ _ _ _ _ _ _ us hl => match us, hl with | [_], _ => rfl), fun h => (nomatch h), fun n ks perm hk => (no_kw hk (by decide)).elim⟩
  | 21, rfl =>
    refine ⟨(fun _ _ _ _ _ _ _ us hl => match us, hl with | [_, _, _], _ => rfl), fun h => (nomatch h), fun n ks perm hk => ?_⟩
    have hk : D.kw.contains (21, n, ks, perm) = true := hk
    have hm := List.contains_iff_mem.mp hk
    simp [D] at hm
    obtain ⟨rfl, rfl, rfl⟩ := hm
    exact ⟨rfl, fun _ _ _ _ _ _ us ws hu hw => match us, hu, ws, hw with | [_], _, [_, _], _ => ⟨_, rfl, rfl, rfl⟩⟩
  | 22, rfl => exact ⟨(fun _ _ _ _ _ _ _ us hl => match us, hl with | [_, _], _ => rfl), fun h => (nomatch h), fun n ks perm hk => (no_kw hk (by decide)).elim⟩
  | 23, rfl => exact ⟨(fun _ _ _ _ _ _ _ us hl => match us, hl with | [_, _], _ => rfl), fun h => (nomatch h), fun n ks perm hk => (no_kw hk (by decide)).elim⟩
  | 24, rfl => exact ⟨(fun _ _ _ _ _ _ _ us hl => match us, hl with | [_], _ => rfl), fun h => (nomatch h), fun n ks perm hk => (no_kw hk (by decide)).elim⟩
  | n + 25, h => cases h
end K19
end
section
set_option Elab.async false
set_option linter.all false
set_option maxRecDepth 100000
set_option maxHeartbeats 400000
namespace K19
open PySem PySem.Spec PyProof.Rows L2 Dv
@[simp] theorem c0 : T.consts[0]? = some (.int 60) := rfl
@[simp] theorem c1 : T.consts[1]? = some (.int 60) := rfl
@[simp] theorem c2 : T.consts[2]? = some (.int 400) := rfl
abbrev rT (ns : List Int) : Dv.D := .tup (ns.map .int)
abbrev rL (ns : List Int) : Dv.D := .lst (ns.map .int)
def Pg (ns : List Int) : Prop := ns.length ≤ 60 ∧ ∀ n ∈ ns, 1 ≤ n ∧ n ≤ 60
def pgD (q : Bool × List Int) : Dv.D := if q.1 then rT q.2 else rL q.2
theorem u_is_within (k : Nat) (a b c : Dv.D) (cs : Cells) : run T (k + 1) false 1 [a, b, c] cs = (sm T (run T k) f_is_within.body [.val a, .val b, .val c] cs).bind endF := rfl
theorem r_is_integer (k : Nat) (n : Int) (cs : Cells) : run T (k + 1) false 0 [.int n] cs = .ok (.bl true) cs := by rfl
theorem r_is_within (k : Nat) (n a b : Int) (cs : Cells) : run T (k + 2) false 1 [.int n, .int a, .int b] cs = .ok (.bl (decide (a ≤ n) && decide (n ≤ b))) cs := by
  rw [u_is_within]
  simp [sm, den, ofVT, ofVB, noDen, baseA, cmpD, bltD, thenF_nx, thenF_ret, thenF_brk, thenF_cnt, f_is_within, r_is_integer]
  rcases Decidable.em (a ≤ n) with h | h <;> simp [h]
theorem u_are_rows (k : Nat) (a : Dv.D) (cs : Cells) : run T (k + 1) false 2 [a] cs = (sm T (run T k) f_are_rows.body [.val a, .emp] cs).bind endF := rfl
theorem r_are_rows (k : Nat) (q : Bool × List Int) (hp : Pg q.2) (cs : Cells) : run T (k + 3) false 2 [pgD q] cs = .ok (.bl true) cs := by
  rw [u_are_rows]
  obtain ⟨b, ns⟩ := q
  obtain ⟨hl, hr⟩ := hp
  have hl : ns.length ≤ 60 := hl
  have h60 : ¬ (60 : Int) < (ns.length : Int) := by omega
  have hz : ns.length ≤ sizeLine := Nat.le_trans hl (by decide)
  have e : boolsD (ns.map fun _ => D.bl true) = some (ns.map fun _ => true) := by
    rw [← boolsD_map (ns.map fun _ => true)]; simp [Function.comp_def]
  cases b
  all_goals
    simp [sm, den, ofVT, ofVB, noDen, baseA, cmpD, bltD, thenF_nx, thenF_ret, thenF_brk, thenF_cnt, f_are_rows, isiD, tyOk, tyThere, isTy, bLen, pgD, h60]
    refine comp_bind (fun _ => .bl true) (fun x hx => ?_) (by simpa using hz) ?_
    · obtain ⟨n, hn, rfl⟩ := List.mem_map.mp hx
      have h1 := hr n hn
      simp [sm, den, ofVT, ofVB, noDen, baseA, cmpD, bltD, thenF_nx, thenF_ret, thenF_brk, thenF_cnt, turnD, setTg, setAll, wipeE, r_is_within, h1.1, h1.2]
    · simp [bAll, Function.comp_def, e]
theorem u_total_of (k : Nat) (a : Dv.D) (cs : Cells) : run T (k + 1) false 3 [a] cs = (sm T (run T k) f_total_of.body [.val a, .emp] cs).bind endF := rfl
theorem r_total_of (k : Nat) (ns : List Int) (hl : ns.length ≤ sizeLine) (cs : Cells) : run T (k + 1) false 3 [rT ns] cs = .ok (.int ns.sum) cs := by
  rw [u_total_of]
  simp [sm, den, ofVT, ofVB, noDen, baseA, cmpD, bltD, thenF_nx, thenF_ret, thenF_brk, thenF_cnt, f_total_of]
  refine comp_bind id (fun x hx => ?_) (by simpa using hl) ?_
  · obtain ⟨n, hn, rfl⟩ := List.mem_map.mp hx
    simp [sm, den, ofVT, ofVB, noDen, baseA, cmpD, bltD, thenF_nx, thenF_ret, thenF_brk, thenF_cnt, turnD, setTg, setAll, wipeE, bInt]
  · simp [bSum, intsD_map]
theorem u_rows_of (k : Nat) (a : Dv.D) (cs : Cells) : run T (k + 1) false 4 [a] cs = (sm T (run T k) f_rows_of.body [.val a, .emp, .emp] cs).bind endF := rfl
theorem r_rows_of (k : Nat) (ps : List (List Int)) (h : ps.flatten.length ≤ sizeLine) (cs : Cells) : run T (k + 1) false 4 [.tup (ps.map rT)] cs = .ok (rT ps.flatten) cs := by
  rw [u_rows_of]
  simp [sm, den, ofVT, ofVB, noDen, baseA, cmpD, bltD, thenF_nx, thenF_ret, thenF_brk, thenF_cnt, f_rows_of, bTuple]
  refine for_bind (fun xs ρ cs' => cs' = cs ∧ ∃ (qs : List (List Int)) (acc : List Int) (s : Slot), xs = qs.map rT ∧ acc ++ qs.flatten = ps.flatten ∧ ρ = [.val (.tup (ps.map rT)), .own (rL acc), s]) ⟨rfl, ps, [], .emp, rfl, rfl, rfl⟩ ?_ ?_
  · rintro x xs ρ cs' ⟨rfl, qs, acc, s, hx, ha, rfl⟩
    cases qs with
    | nil => cases hx
    | cons p qs =>
      cases hx
      have hz : acc.length + p.length ≤ sizeLine := by
        have := congrArg List.length ha
        simp only [List.flatten_cons, List.length_append] at this
        omega
      exact ⟨[.val (.tup (ps.map rT)), .own (rL acc), .val (rT p)], [.val (.tup (ps.map rT)), .own (rL (acc ++ p)), .val (rT p)], cs', rfl, by simp [hz], rfl, qs, acc ++ p, _, rfl, by simpa using ha, rfl⟩
  · rintro ρ cs' ⟨rfl, qs, acc, s, hx, ha, rfl⟩
    cases qs with
    | cons p qs => cases hx
    | nil =>
      simp at ha
      simp [ha]
theorem eqD_int (O : Orc) (i j : Int) (cs : Cells) : eqD T O (.int i) (.int j) cs = .ok (decide (i = j)) cs := by
  simp [eqD, clsOf, eqP, toPy, SeqAt.shaped, PyData.canLay0, PyData.depth, PyData.eqv]
  by_cases h : i = j <;> simp [h]
theorem len_tup (O : Orc) (ds : List Dv.D) (cs : Cells) : bLen T O [.tup ds] cs = .ok (.int ds.length) cs := rfl
theorem len_lst (O : Orc) (ds : List Dv.D) (cs : Cells) : bLen T O [.lst ds] cs = .ok (.int ds.length) cs := rfl
/-- a Chain -/
def ch (ps : List (List Int)) : Dv.D := .ins 0 [(0, .tup (ps.map rT)), (1, rT ps.flatten), (2, .int ps.flatten.sum)]
theorem seq_pg (q : Bool × List Int) (cs : Cells) : seqOf (pgD q) cs = some (q.2.map .int) := by
  obtain ⟨b, ns⟩ := q
  cases b <;> rfl
theorem len_pg (O : Orc) (q : Bool × List Int) (cs : Cells) : bLen T O [pgD q] cs = .ok (.int q.2.length) cs := by
  obtain ⟨b, ns⟩ := q
  cases b <;> simp [pgD, bLen]
theorem u_init (k : Nat) (ds : List Dv.D) (h : ds.length ≤ sizeLine) (cs : Cells) : run T (k + 1) true 16 ds cs = (sm T (run T k) f_Chain_init.body [.own (.ins 0 []), .val (.tup ds), .emp, .emp] cs).bind (endI false) := by
  show (match freshI f_Chain_init 0 ds with | none => Res.bad | some ρ => (sm T (run T k) f_Chain_init.body ρ cs).bind (endI (mutOf T 0))) = _
  have e : freshI f_Chain_init 0 ds = some [.own (.ins 0 []), .val (.tup ds), .emp, .emp] := by
    simp [freshI, freshE, f_Chain_init, h]
  rw [e]
  rfl
def Okp (qs : List (Bool × List Int)) : Prop := (∀ q ∈ qs, Pg q.2) ∧ 1 ≤ qs.length ∧ qs.length ≤ 400 ∧ (1 < qs.length → ∀ q ∈ qs, q.2 ≠ [])
theorem flat_le : ∀ (qs : List (Bool × List Int)), (∀ q ∈ qs, Pg q.2) → (qs.map (·.2)).flatten.length ≤ 60 * qs.length
  | [], _ => by simp
  | q :: qs, h => by
    have h1 := (h q List.mem_cons_self).1
    have h2 := flat_le qs fun x hx => h x (List.mem_cons_of_mem _ hx)
    simp only [List.map_cons, List.flatten_cons, List.length_append, List.length_cons]
    omega
theorem r_init (k : Nat) (qs : List (Bool × List Int)) (h : Okp qs) (cs : Cells) : run T (k + 4) true 16 (qs.map pgD) cs = .ok (ch (qs.map (·.2))) cs := by
  obtain ⟨h1, h2, h3, h4⟩ := h
  have hz : qs.length ≤ sizeLine := Nat.le_trans h3 (by decide)
  have hf : (qs.map (·.2)).flatten.length ≤ sizeLine := Nat.le_trans (flat_le qs h1) (Nat.le_trans (Nat.mul_le_mul_left 60 h3) (by decide))
  rw [u_init _ _ (by simpa using hz)]
  simp [sm, den, ofVT, ofVB, noDen, baseA, cmpD, bltD, thenF_nx, thenF_ret, thenF_brk, thenF_cnt, f_Chain_init]
  refine for_bind (fun xs ρ cs' => cs' = cs ∧ ∃ (n : Nat) (rs : List (Bool × List Int)) (s t : Slot), xs = enumD n (rs.map pgD) ∧ (∀ q ∈ rs, q ∈ qs) ∧ ρ = [.own (.ins 0 []), .val (.tup (qs.map pgD)), s, t]) ⟨rfl, 0, qs, .emp, .emp, rfl, fun _ h => h, rfl⟩ ?_ ?_
  · rintro x xs ρ cs' ⟨rfl, n, rs, s, t, hx, hm, rfl⟩
    cases rs with
    | nil => cases hx
    | cons q rs =>
      cases hx
      have hq := hm q List.mem_cons_self
      have hh : ¬ (q.2 = [] ∧ (1 : Int) < (qs.length : Int)) := fun z => h4 (by omega) q hq z.1
      refine ⟨[.own (.ins 0 []), .val (.tup (qs.map pgD)), .val (.int n), .val (pgD q)], [.own (.ins 0 []), .val (.tup (qs.map pgD)), .val (.int n), .val (pgD q)], cs', rfl, ?_, rfl, n + 1, rs, _, _, rfl, fun z hz => hm z (List.mem_cons_of_mem _ hz), rfl⟩
      simp [sm, den, ofVT, ofVB, noDen, baseA, cmpD, bltD, thenF_nx, thenF_ret, thenF_brk, thenF_cnt, r_are_rows _ _ (h1 q hq), len_pg, len_tup, eqD_int]
      rcases Decidable.em (q.2 = []) with z | z
      · have z2 : ¬ (1 < qs.length) := fun y => h4 y q hq z
        have z3 : ¬ ((1 : Int) < (qs.length : Int)) := by omega
        simp [z, z3]
      · simp [z]
  · rintro ρ cs' ⟨rfl, n, rs, s, t, hx, hm, rfl⟩
    have n0 : ¬ ((qs.length : Int) = 0) := by omega
    have n4 : ¬ ((400 : Int) < (qs.length : Int)) := by omega
    have nq : qs ≠ [] := by rintro rfl; simp at h2
    have n5 : ¬ 400 < qs.length := by omega
    simp [sm, den, ofVT, ofVB, noDen, baseA, cmpD, bltD, thenF_nx, thenF_ret, thenF_brk, thenF_cnt, len_tup, eqD_int, nq, n4]
    refine comp_bind (fun d => match d with | .lst ds => .tup ds | d => d) (fun x hx => ?_) (by simpa using hz) ?_
    · obtain ⟨q, hq, rfl⟩ := List.mem_map.mp hx
      obtain ⟨b, ns⟩ := q
      cases b <;> simp [sm, den, ofVT, ofVB, noDen, baseA, cmpD, bltD, thenF_nx, thenF_ret, thenF_brk, thenF_cnt, turnD, setTg, setAll, wipeE, pgD, bTuple]
    · have e : (qs.map pgD).map (fun d => match d with | .lst ds => .tup ds | d => d) = (qs.map (·.2)).map rT := by
        rw [List.map_map, List.map_map]
        refine List.map_congr_left fun q _ => ?_
        obtain ⟨b, ns⟩ := q
        cases b <;> rfl
      rw [e]
      have a0 : okAt T 0 0 = true := rfl
      have a1 : okAt T 0 1 = true := rfl
      have a2 : okAt T 0 2 = true := rfl
      simp only [bTuple, seq_lst, Option.map_some, ofRes_some, bind_ok]
      simp [a0, a1, a2, putA, List.lookup, r_rows_of _ _ hf, r_total_of _ _ hf, endI, ch, -List.map_map]
end K19
end
section
set_option Elab.async false
set_option linter.all false
set_option maxRecDepth 100000
set_option maxHeartbeats 400000
namespace K19
open PySem PySem.Spec PyProof.Rows L2 Dv
@[simp] theorem bind_eta {α : Type} (r : Res α) : (r.bind fun a cs => Res.ok a cs) = r := by cases r <;> rfl
theorem rT_nil : rT [] = .tup [] := rfl
theorem compL_filt {turn : Dv.D → Cells → Res (Option Dv.D)} {c : Dv.D → Bool} {cs : Cells} : ∀ {xs acc : List Dv.D}, (∀ x ∈ xs, turn x cs = .ok (if c x then some x else none) cs) → acc.length + xs.length ≤ sizeLine → compL turn acc xs cs = .ok (acc ++ xs.filter c) cs
  | [], acc, _, _ => by simp [compL]
  | x :: xs, acc, h, hl => by
    simp only [List.length_cons] at hl
    rw [compL, h x List.mem_cons_self]
    cases q : c x with
    | true =>
      simp only [if_true]
      rw [if_pos (by omega), compL_filt (fun y hy => h y (List.mem_cons_of_mem _ hy)) (by simp; omega)]
      simp [q]
    | false =>
      simp only [Bool.false_eq_true, if_false]
      rw [compL_filt (fun y hy => h y (List.mem_cons_of_mem _ hy)) (by omega)]
      simp [q]
theorem comp_filter {α : Type} {turn : Dv.D → Cells → Res (Option Dv.D)} (c : Dv.D → Bool) {cs : Cells} {xs : List Dv.D} {k : List Dv.D → Cells → Res α} {R : Res α} (h : ∀ x ∈ xs, turn x cs = .ok (if c x then some x else none) cs) (hl : xs.length ≤ sizeLine) (hk : k (xs.filter c) cs = R) : (compF turn [] xs cs).bind k = R := by
  rw [compF, compL_filt h (by simpa using hl)]
  simpa using hk
@[simp] theorem tc0 : T.cls[0]? = some ⟨some 16, false, [(13, 17), (16, 18), (1, 19), (2, 20), (14, 21), (15, 22), (0, 23), (3, 24)], [], [0], [0, 1, 2]⟩ := rfl
@[simp] theorem a0 : okAt T 0 0 = true := rfl
@[simp] theorem a1 : okAt T 0 1 = true := rfl
@[simp] theorem a2 : okAt T 0 2 = true := rfl
/-- right pages of a Chain, at most n -/
def Wf (n : Nat) (ps : List (List Int)) : Prop := (∀ p ∈ ps, Pg p) ∧ 1 ≤ ps.length ∧ ps.length ≤ n ∧ (1 < ps.length → ∀ p ∈ ps, p ≠ [])
theorem r_new (k : Nat) (ps : List (List Int)) (h : Wf 400 ps) (cs : Cells) : run T (k + 4) true 16 (ps.map rT) cs = .ok (ch ps) cs := by
  have := r_init k (ps.map fun p => (true, p)) ⟨by simpa using h.1, by simpa using h.2.1, by simpa using h.2.2.1, by simpa using h.2.2.2⟩ cs
  simpa [pgD, Function.comp_def] using this
theorem u_add (k : Nat) (a b : Dv.D) (cs : Cells) : run T (k + 1) false 19 [a, b] cs = (sm T (run T k) f_Chain_add.body [.val a, .val b, .emp, .emp] cs).bind endF := rfl
def addP (ps qs : List (List Int)) : List (List Int) := if (ps ++ qs).filter (fun p => !p.isEmpty) = [] then [[]] else (ps ++ qs).filter fun p => !p.isEmpty
theorem wf_add {n m : Nat} {ps qs : List (List Int)} (h1 : Wf n ps) (h2 : Wf m qs) : Wf (n + m) (addP ps qs) := by
  unfold addP
  obtain ⟨a1, a2, a3, a4⟩ := h1
  obtain ⟨b1, b2, b3, b4⟩ := h2
  split
  · exact ⟨by simp [Pg], by simp, by simp; omega, by simp⟩
  · rename_i hn
    refine ⟨fun p hp => ?_, List.length_pos_iff.mpr hn, ?_, fun _ p hp => ?_⟩
    · have := (List.mem_filter.mp hp).1
      rcases List.mem_append.mp this with h | h
      · exact a1 p h
      · exact b1 p h
    · have := List.length_filter_le (fun p : List Int => !p.isEmpty) (ps ++ qs)
      rw [List.length_append] at this
      omega
    · have := (List.mem_filter.mp hp).2
      rintro rfl
      simp at this
theorem r_add (k : Nat) (ps qs : List (List Int)) (h1 : Wf 200 ps) (h2 : Wf 200 qs) (cs : Cells) : run T (k + 5) false 19 [ch ps, ch qs] cs = .ok (ch (addP ps qs)) cs := by
  have hw := wf_add h1 h2
  have hz : ps.length + qs.length ≤ sizeLine := Nat.le_trans (Nat.add_le_add h1.2.2.1 h2.2.2.1) (by decide)
  rw [u_add]
  simp [sm, den, ofVT, ofVB, noDen, baseA, cmpD, bltD, thenF_nx, thenF_ret, thenF_brk, thenF_cnt, f_Chain_add, isiD, tyOk, tyThere, isTy, ch, List.lookup, hz]
  refine comp_filter (fun d => match d with | .tup ds => !ds.isEmpty | _ => true) (fun x hx => ?_) (by simpa using hz) ?_
  · have : ∃ p : List Int, x = rT p := by
      rcases List.mem_append.mp hx with h | h
      all_goals
        obtain ⟨p, _, rfl⟩ := List.mem_map.mp h
        exact ⟨p, rfl⟩
    obtain ⟨p, rfl⟩ := this
    cases p <;> simp [sm, den, ofVT, ofVB, noDen, baseA, cmpD, bltD, thenF_nx, thenF_ret, thenF_brk, thenF_cnt, turnD, setTg, setAll, wipeE, len_tup]
  · have e : (ps.map rT ++ qs.map rT).filter (fun d => match d with | .tup ds => !ds.isEmpty | _ => true) = ((ps ++ qs).filter fun p => !p.isEmpty).map rT := by
      rw [← List.map_append, List.filter_map]
      congr 1
      refine List.filter_congr fun p _ => ?_
      simp
    rw [e]
    unfold addP at hw ⊢
    by_cases q : (ps ++ qs).filter (fun p => !p.isEmpty) = []
    · rw [if_pos q] at hw ⊢
      have := r_new k [[]] hw cs
      simp [q, len_lst]
      simpa [ch, rT_nil] using this
    · rw [if_neg q] at hw ⊢
      have := r_new k _ hw cs
      have hq : 0 < ((ps ++ qs).filter (fun p => !p.isEmpty)).length := List.length_pos_iff.mpr q
      simp [len_lst, -List.filter_append, hq]
      simpa [ch, -List.filter_append] using this
theorem u_inv (k : Nat) (a : Dv.D) (cs : Cells) : run T (k + 1) false 20 [a] cs = (sm T (run T k) f_Chain_invert.body [.val a, .emp, .emp] cs).bind endF := rfl
def invP (ps : List (List Int)) : List (List Int) := ps.reverse.map List.reverse
theorem wf_inv {n : Nat} {ps : List (List Int)} (h1 : Wf n ps) : Wf n (invP ps) := by
  obtain ⟨a1, a2, a3, a4⟩ := h1
  refine ⟨fun p hp => ?_, by simpa [invP] using a2, by simpa [invP] using a3, fun hl p hp => ?_⟩
  · obtain ⟨q, hq, rfl⟩ := List.mem_map.mp hp
    obtain ⟨h1, h2⟩ := a1 q (List.mem_reverse.mp hq)
    exact ⟨by simpa using h1, fun n hn => h2 n (List.mem_reverse.mp hn)⟩
  · obtain ⟨q, hq, rfl⟩ := List.mem_map.mp hp
    have := a4 (by simpa [invP] using hl) q (List.mem_reverse.mp hq)
    simpa using this
theorem r_inv (k : Nat) (ps : List (List Int)) (h1 : Wf 400 ps) (cs : Cells) : run T (k + 5) false 20 [ch ps] cs = .ok (ch (invP ps)) cs := by
  have hw := wf_inv h1
  have hz : ps.length ≤ sizeLine := Nat.le_trans h1.2.2.1 (by decide)
  rw [u_inv]
  simp [sm, den, ofVT, ofVB, noDen, baseA, cmpD, bltD, thenF_nx, thenF_ret, thenF_brk, thenF_cnt, f_Chain_invert, ch, List.lookup]
  refine comp_bind (fun d => match d with | .tup ds => .tup ds.reverse | d => d) (fun x hx => ?_) (by simpa using hz) ?_
  · obtain ⟨p, _, rfl⟩ := List.mem_map.mp (List.mem_reverse.mp hx)
    simp [sm, den, ofVT, ofVB, noDen, baseA, cmpD, bltD, thenF_nx, thenF_ret, thenF_brk, thenF_cnt, turnD, setTg, setAll, wipeE]
  · have e : ((ps.map rT).reverse).map (fun d => match d with | .tup ds => .tup ds.reverse | d => d) = (invP ps).map rT := by
      unfold invP
      rw [← List.map_reverse, List.map_map, List.map_map]
      refine List.map_congr_left fun p _ => ?_
      simp
    rw [e]
    have := r_new k _ hw cs
    simpa [ch] using this
theorem u_need (k : Nat) (a b : Dv.D) (cs : Cells) : run T (k + 1) false 18 [a, b] cs = (sm T (run T k) f_Chain_need_page.body [.val a, .val b] cs).bind endF := rfl
theorem r_need (k : Nat) (ps : List (List Int)) (i : Nat) (hi : i < ps.length) (cs : Cells) : run T (k + 3) false 18 [ch ps, .int i] cs = .ok .non cs := by
  rw [u_need]
  have h2 : (i : Int) ≤ (ps.length : Int) - 1 := by omega
  have h3 : (0 : Int) ≤ (i : Int) := by omega
  simp [sm, den, ofVT, ofVB, noDen, baseA, cmpD, bltD, thenF_nx, thenF_ret, thenF_brk, thenF_cnt, f_Chain_need_page, ch, List.lookup, len_tup, binD, r_is_within, h2, h3]
theorem u_stretch (k : Nat) (a b c : Dv.D) (cs : Cells) : run T (k + 1) false 17 [a, b, c] cs = (sm T (run T k) f_Chain_stretch.body [.val a, .val b, .val c, .emp, .emp] cs).bind endF := rfl
theorem cut_nat {α : Type} (xs : List α) (i j : Nat) (h1 : i ≤ j) (h2 : j ≤ xs.length) : cutG xs (some (i : Int)) (some (j : Int)) = (xs.drop i).take (j - i) := by
  unfold cutG
  have e1 : HT.sIx xs.length 0 (some (i : Int)) = i := by rw [HT.sIx_nat]; omega
  have e2 : HT.sIx xs.length xs.length (some (j : Int)) = j := by rw [HT.sIx_nat]; omega
  rw [e1, e2]
theorem cut_hi {α : Type} (xs : List α) (j : Nat) (h2 : j ≤ xs.length) : cutG xs none (some (j : Int)) = xs.take j := by
  unfold cutG
  have e1 : HT.sIx xs.length 0 none = 0 := rfl
  have e2 : HT.sIx xs.length xs.length (some (j : Int)) = j := by rw [HT.sIx_nat]; omega
  rw [e1, e2]
  simp
theorem cut_lo {α : Type} (xs : List α) (j : Nat) (h2 : j ≤ xs.length) : cutG xs (some (j : Int)) none = xs.drop j := by
  unfold cutG
  have e1 : HT.sIx xs.length 0 (some (j : Int)) = j := by rw [HT.sIx_nat]; omega
  have e2 : HT.sIx xs.length xs.length none = xs.length := rfl
  rw [e1, e2]
  rw [List.take_of_length_le (by simp)]
end K19
end
section
set_option Elab.async false
set_option linter.all false
set_option maxRecDepth 100000
set_option maxHeartbeats 400000
namespace K19
open PySem PySem.Spec PyProof.Rows L2 Dv
theorem wf_sub {n : Nat} {ps qs : List (List Int)} (h : Wf n ps) (hs : ∀ q ∈ qs, q ∈ ps) (h1 : 1 ≤ qs.length) (h2 : qs.length ≤ ps.length) : Wf n qs :=
  ⟨fun p hp => h.1 p (hs p hp), h1, Nat.le_trans h2 h.2.2.1, fun hl p hp => h.2.2.2 (by omega) p (hs p hp)⟩
def cutP (ps : List (List Int)) (i j : Nat) : List (List Int) := (ps.drop i).take (j - i)
theorem wf_cut {n i j : Nat} {ps : List (List Int)} (h : Wf n ps) (hi : i < j) (hj : j ≤ ps.length) : Wf n (cutP ps i j) :=
  wf_sub h (fun q hq => List.mem_of_mem_drop (List.mem_of_mem_take hq)) (by simp [cutP]; omega) (by simp [cutP]; omega)
theorem r_stretch (k : Nat) (ps : List (List Int)) (h1 : Wf 400 ps) (i j : Nat) (hi : i < j) (hj : j ≤ ps.length) (cs : Cells) : run T (k + 5) false 17 [ch ps, .int i, .int j] cs = .ok (ch (cutP ps i j)) cs := by
  have hw := wf_cut h1 hi hj
  rw [u_stretch]
  have b1 : (0 : Int) ≤ (i : Int) := by omega
  have b2 : (i : Int) ≤ (ps.length : Int) := by omega
  have b3 : (0 : Int) ≤ (j : Int) := by omega
  have b4 : (j : Int) ≤ (ps.length : Int) := by omega
  have b5 : i ≤ ps.length := by omega
  have b6 : (2 : Nat) ≤ sizeLine := by decide
  have e := cut_nat (ps.map rT) i j (by omega) (by simpa using hj)
  have e2 : ((ps.map rT).drop i).take (j - i) = (cutP ps i j).map rT := by simp [cutP, List.map_drop, List.map_take]
  have := r_new k _ hw cs
  simp [sm, den, ofVT, ofVB, noDen, baseA, cmpD, bltD, thenF_nx, thenF_ret, thenF_brk, thenF_cnt, f_Chain_stretch, ch, List.lookup, len_tup, r_is_within, b1, b2, b3, b4, forF, forL, setTg, setAll, b6, b5, hj, Dv.cutD, e, e2]
  simpa [ch] using this
theorem u_with (k : Nat) (a b c : Dv.D) (cs : Cells) : run T (k + 1) false 21 [a, b, c] cs = (sm T (run T k) f_Chain_with_page.body [.val a, .val b, .val c, .emp] cs).bind endF := rfl
def withP (ps : List (List Int)) (i : Nat) (p : List Int) : List (List Int) := ps.take i ++ p :: ps.drop (i + 1)
theorem m16 (ps : List (List Int)) (cs : Cells) : methF T 16 (ch ps) cs = some 18 := rfl
theorem r_init2 (k : Nat) (ps qs : List (List Int)) (q : Bool × List Int) (h : Wf 400 (ps ++ q.2 :: qs)) (cs : Cells) : run T (k + 4) true 16 (ps.map rT ++ pgD q :: qs.map rT) cs = .ok (ch (ps ++ q.2 :: qs)) cs := by
  have := r_init k ((ps.map fun p => (true, p)) ++ q :: (qs.map fun p => (true, p))) ⟨by
    have := h.1
    intro z hz
    simp only [List.mem_append, List.mem_map, List.mem_cons] at hz
    rcases hz with ⟨p, hp, rfl⟩ | rfl | ⟨p, hp, rfl⟩
    · exact this p (by simp [hp])
    · exact this _ (by simp)
    · exact this p (by simp [hp]), by simp; omega, by have := h.2.2.1; simpa using this, fun hl z hz => by
    have := h.2.2.2 (by simpa using hl)
    simp only [List.mem_append, List.mem_map, List.mem_cons] at hz
    rcases hz with ⟨p, hp, rfl⟩ | rfl | ⟨p, hp, rfl⟩
    · exact this p (by simp [hp])
    · exact this _ (by simp)
    · exact this p (by simp [hp])⟩ cs
  simpa [pgD, Function.comp_def] using this
theorem r_with (k : Nat) (ps : List (List Int)) (h1 : Wf 400 ps) (i : Nat) (hi : i < ps.length) (q : Bool × List Int) (hw : Wf 400 (withP ps i q.2)) (cs : Cells) : run T (k + 5) false 21 [ch ps, .int i, pgD q] cs = .ok (ch (withP ps i q.2)) cs := by
  rw [u_with]
  have hn := r_need (k + 1) ps i hi cs
  have e1 := cut_hi (ps.map rT) i (by simp; omega)
  have e2 := cut_lo (ps.map rT) (i + 1) (by simp; omega)
  have := r_init2 k (ps.take i) (ps.drop (i + 1)) q hw cs
  have hl : (ps.take i).length + ((ps.drop (i + 1)).length + 1) ≤ sizeLine := by
    have := hw.2.2.1
    simp only [withP, List.length_append, List.length_cons] at this
    exact Nat.le_trans this (by decide)
  have e3 : ((i : Int) + 1) = ((i + 1 : Nat) : Int) := by simp
  simp [sm, den, ofVT, ofVB, noDen, baseA, cmpD, bltD, thenF_nx, thenF_ret, thenF_brk, thenF_cnt, f_Chain_with_page, m16, hn]
  simp only [ch, deref_ins, List.lookup, ofRes_some, bind_ok, a0, if_true, beq_self_eq_true, deref_tup, binD, Dv.cutD, e1, e2, e3]
  rw [← List.map_take, ← List.map_drop]
  simp [-List.map_take, -List.map_drop, -List.length_take, -List.length_drop, hl]
  simpa [ch, withP] using this
theorem u_without (k : Nat) (a b : Dv.D) (cs : Cells) : run T (k + 1) false 22 [a, b] cs = (sm T (run T k) f_Chain_without_page.body [.val a, .val b, .emp] cs).bind endF := rfl
def woP (ps : List (List Int)) (i : Nat) : List (List Int) := ps.take i ++ ps.drop (i + 1)
theorem r_without (k : Nat) (ps : List (List Int)) (h1 : Wf 400 ps) (i : Nat) (hi : i < ps.length) (h2 : 1 < ps.length) (cs : Cells) : run T (k + 5) false 22 [ch ps, .int i] cs = .ok (ch (woP ps i)) cs := by
  rw [u_without]
  have hw : Wf 400 (woP ps i) := wf_sub h1 (fun q hq => by
    rcases List.mem_append.mp hq with h | h
    · exact List.mem_of_mem_take h
    · exact List.mem_of_mem_drop h) (by simp [woP]; omega) (by simp [woP]; omega)
  have hn := r_need (k + 1) ps i hi cs
  have e1 := cut_hi (ps.map rT) i (by simp; omega)
  have e2 := cut_lo (ps.map rT) (i + 1) (by simp; omega)
  have := r_new k _ hw cs
  have hl : (ps.take i).length + (ps.drop (i + 1)).length ≤ sizeLine := by
    have := hw.2.2.1
    simp only [woP, List.length_append] at this
    exact Nat.le_trans this (by decide)
  have e3 : ((i : Int) + 1) = ((i + 1 : Nat) : Int) := by simp
  simp [sm, den, ofVT, ofVB, noDen, baseA, cmpD, bltD, thenF_nx, thenF_ret, thenF_brk, thenF_cnt, f_Chain_without_page, m16, hn]
  simp only [ch, deref_ins, List.lookup, ofRes_some, bind_ok, a0, if_true, beq_self_eq_true, deref_tup, binD, Dv.cutD, e1, e2, e3]
  rw [← List.map_take, ← List.map_drop]
  simp [-List.map_take, -List.map_drop, -List.length_take, -List.length_drop, hl]
  simpa [ch, woP, -List.map_take, -List.map_drop] using this
/-! ### equality -/
def pyT (ns : List Int) : PyData := .tuple (ns.map .int)
theorem py_ints : ∀ ns : List Int, toPys (ns.map D.int) = some (ns.map PyData.int)
  | [] => by simp [toPys]
  | n :: ns => by simp [toPys, toPy, py_ints ns]
theorem py_rows : ∀ ps : List (List Int), toPys (ps.map rT) = some (ps.map pyT)
  | [] => by simp [toPys]
  | p :: ps => by simp [toPys, toPy, py_ints p, py_rows ps, pyT]
theorem lay_ints : ∀ ns : List Int, PyData.canLayAll0 (ns.map PyData.int) = true ∧ PyData.depthAll (ns.map PyData.int) = 0
  | [] => by simp [PyData.canLayAll0, PyData.depthAll]
  | n :: ns => by simp [PyData.canLayAll0, PyData.canLay0, PyData.depthAll, PyData.depth, lay_ints ns]
theorem lay_rows : ∀ ps : List (List Int), PyData.canLayAll0 (ps.map pyT) = true ∧ PyData.depthAll (ps.map pyT) ≤ 1
  | [] => by simp [PyData.canLayAll0, PyData.depthAll]
  | p :: ps => by
    have h1 := lay_rows ps
    have h2 := lay_ints p
    simp [PyData.canLayAll0, PyData.canLay0, PyData.depthAll, PyData.depth, pyT, h1.1, h2.1, h2.2]
    omega
theorem eqP_refl {d : Dv.D} {x : PyData} (h : toPy d = some x) (hs : SeqAt.shaped x = true) (cs : Cells) : eqP d d cs = .ok true cs := by
  unfold eqP
  rw [h]
  simp [hs, SeqAt.eqv_refl x (SeqAt.canLay_of_shaped hs)]
theorem shaped_rows (ps : List (List Int)) : SeqAt.shaped (.tuple (ps.map pyT)) = true := by
  have h := lay_rows ps
  simp [SeqAt.shaped, PyData.canLay0, PyData.depth, h.1]
  omega
end K19
end
section
set_option Elab.async false
set_option linter.all false
set_option maxRecDepth 100000
set_option maxHeartbeats 400000
namespace K19
open PySem PySem.Spec PyProof.Rows L2 Dv
theorem eqD_rows (O : Orc) (ps : List (List Int)) (cs : Cells) : eqD T O (.tup (ps.map rT)) (.tup (ps.map rT)) cs = .ok true cs := by
  have e : toPy (.tup (ps.map rT)) = some (.tuple (ps.map pyT)) := by simp [toPy, py_rows]
  show eqP _ _ cs = _
  exact eqP_refl e (shaped_rows ps) cs
theorem u_eq (k : Nat) (a b : Dv.D) (cs : Cells) : run T (k + 1) false 23 [a, b] cs = (sm T (run T k) f_Chain_eq.body [.val a, .val b] cs).bind endF := rfl
theorem r_eq (k : Nat) (ps : List (List Int)) (cs : Cells) : run T (k + 1) false 23 [ch ps, ch ps] cs = .ok (.bl true) cs := by
  rw [u_eq]
  simp [sm, den, ofVT, ofVB, noDen, baseA, cmpD, bltD, thenF_nx, thenF_ret, thenF_brk, thenF_cnt, f_Chain_eq, isiD, tyOk, tyThere, isTy, ch, List.lookup, eqD_rows]
theorem eqD_ch (k : Nat) (ps : List (List Int)) (cs : Cells) : eqD T (run T (k + 1)) (ch ps) (ch ps) cs = .ok true cs := by
  have h := r_eq k ps cs
  have e : callM T (run T (k + 1)) nEq (ch ps) [ch ps] cs = run T (k + 1) false 23 [ch ps, ch ps] cs := rfl
  show (if tyOk T (ch ps) cs = true then (callM T (run T (k + 1)) nEq (ch ps) [ch ps] cs).bind isBl else .bad) = _
  rw [e, h, if_pos (show tyOk T (ch ps) cs = true from rfl)]
  rfl
theorem eqv_bare : ∀ ps : List (List Int), PyData.eqv (.tuple (ps.map pyT)) (.tuple [.tuple []]) = decide (ps = [[]])
  | [] => by simp [PyData.eqv, PyData.eqvAll]
  | [] :: [] => by simp [PyData.eqv, PyData.eqvAll, pyT]
  | (n :: p) :: [] => by simp [PyData.eqv, PyData.eqvAll, pyT]
  | p :: q :: r => by simp [PyData.eqv, PyData.eqvAll]
theorem eqD_bare (O : Orc) (ps : List (List Int)) (cs : Cells) : eqD T O (.tup (ps.map rT)) (.tup [.tup []]) cs = .ok (decide (ps = [[]])) cs := by
  have e : toPy (.tup (ps.map rT)) = some (.tuple (ps.map pyT)) := by simp [toPy, py_rows]
  have e2 : toPy (.tup [.tup []]) = some (.tuple [.tuple []]) := by simp [toPy, toPys]
  show eqP _ _ cs = _
  unfold eqP
  rw [e, e2]
  have h := shaped_rows ps
  have h2 : SeqAt.shaped (.tuple [.tuple []]) = true := by decide
  simp [h, h2, eqv_bare]
end K19
end
section
set_option Elab.async false
set_option linter.all false
set_option maxRecDepth 100000
set_option maxHeartbeats 400000
namespace K19
open PySem PySem.Spec PyProof.Rows L2 Dv
def nT (n : Int) : Str := toString n
def rowT (p : List Int) : Str := Txt.join " " (p.map nT)
def txt (ps : List (List Int)) : Str := if ps = [[]] then "-" else Txt.join " / " (ps.map rowT)
theorem digs : ∀ m : Fin 61, (nT (m.val : Int)).length ≤ 2 ∧ (m.val : Int).natAbs.log2 < 1920 := by decide +kernel
theorem dig {n : Int} (h : 1 ≤ n ∧ n ≤ 60) : (nT n).length ≤ 2 ∧ n.natAbs.log2 < 1920 := by
  have := digs ⟨n.toNat, by omega⟩
  have e : ((n.toNat : Nat) : Int) = n := by omega
  simpa [e] using this
theorem jlen (s : Str) (ts : List Str) : (Txt.join s ts).length ≤ (ts.map (·.length)).sum + ts.length * s.length := by
  rw [show Txt.join s ts = Str.join s ts from PySem.StrLaws.glued_eq_join s ts]
  exact PySem.StrLaws.join_length_le s ts
theorem sum_le {α : Type} (f : α → Nat) (m : Nat) : ∀ (xs : List α), (∀ x ∈ xs, f x ≤ m) → (xs.map f).sum ≤ xs.length * m
  | [], _ => by simp
  | x :: xs, h => by
    have := sum_le f m xs fun y hy => h y (List.mem_cons_of_mem _ hy)
    have := h x List.mem_cons_self
    simp only [List.map_cons, List.sum_cons, List.length_cons, Nat.add_mul, Nat.one_mul]
    omega
theorem row_ok {p : List Int} (h : Pg p) : ((p.map nT).map (·.length)).sum + (p.map nT).length * (" " : Str).length ≤ 200 ∧ (rowT p).length ≤ 200 := by
  have h1 := sum_le (fun x : Str => x.length) 2 (p.map nT) (fun x hx => by
    obtain ⟨n, hn, rfl⟩ := List.mem_map.mp hx
    exact (dig (h.2 n hn)).1)
  have h2 : (" " : Str).length = 1 := by decide
  have h3 := jlen " " (p.map nT)
  have h4 : p.length ≤ 60 := h.1
  simp only [List.length_map] at h1 h3 ⊢
  rw [h2] at h3 ⊢
  refine ⟨by omega, ?_⟩
  unfold rowT
  omega
theorem text_ok {ps : List (List Int)} (h : Wf 400 ps) : ((ps.map rowT).map (·.length)).sum + (ps.map rowT).length * (" / " : Str).length ≤ 16777216 := by
  have h1 := sum_le (fun x : Str => x.length) 200 (ps.map rowT) (fun x hx => by
    obtain ⟨p, hp, rfl⟩ := List.mem_map.mp hx
    exact (row_ok (h.1 p hp)).2)
  have h2 : (" / " : Str).length = 3 := by decide
  have h4 : ps.length ≤ 400 := h.2.2.1
  simp only [List.length_map] at h1 ⊢
  rw [h2]
  omega
theorem u_str (k : Nat) (a : Dv.D) (cs : Cells) : run T (k + 1) false 24 [a] cs = (sm T (run T k) f_Chain_str.body [.val a, .emp, .emp] cs).bind endF := rfl
theorem join_rows {p : List Int} (h : Pg p) (cs : Cells) : joinD " " (.lst ((p.map nT).map D.str)) cs = .ok (.str (rowT p)) cs := by
  have := row_ok h
  simp only [joinD, seq_lst, strsD_map]
  rw [if_pos (by omega)]
  rfl
theorem join_text {ps : List (List Int)} (h : Wf 400 ps) (cs : Cells) : joinD " / " (.lst ((ps.map rowT).map D.str)) cs = .ok (.str (Txt.join " / " (ps.map rowT))) cs := by
  have := text_ok h
  simp only [joinD, seq_lst, strsD_map]
  rw [if_pos this]
def rowS (d : Dv.D) : Dv.D := match d with
  | .tup ds => .str (Txt.join " " (ds.map fun x => match x with | .int n => nT n | _ => ""))
  | .lst ds => .str (Txt.join " " (ds.map fun x => match x with | .int n => nT n | _ => ""))
  | d => d
def intS (d : Dv.D) : Dv.D := match d with
  | .int n => .str (nT n)
  | d => d
theorem rowS_t (p : List Int) : rowS (rT p) = .str (rowT p) := by simp [rowS, rowT, Function.comp_def]
theorem rowS_l (p : List Int) : rowS (rL p) = .str (rowT p) := by simp [rowS, rowT, Function.comp_def]
theorem r_str (k : Nat) (ps : List (List Int)) (h : Wf 400 ps) (cs : Cells) : run T (k + 1) false 24 [ch ps] cs = .ok (.str (txt ps)) cs := by
  rw [u_str]
  simp [sm, den, ofVT, ofVB, noDen, baseA, cmpD, bltD, thenF_nx, thenF_ret, thenF_brk, thenF_cnt, f_Chain_str, ch, List.lookup]
  have e := eqD_bare (run T k) ps cs
  have hb : (D.tup []) = rT [] := rfl
  have z1 : 1 ≤ sizeLine := by decide
  simp only [z1, if_true, bind_ok, e]
  by_cases q : ps = [[]]
  · simp [q, txt]
  · simp [q, txt]
    refine comp_bind rowS (fun x hx => ?_) (by simpa using Nat.le_trans h.2.2.1 (by decide)) ?_
    · obtain ⟨p, hp, rfl⟩ := List.mem_map.mp hx
      have hp' := h.1 p hp
      simp [sm, den, ofVT, ofVB, noDen, baseA, cmpD, bltD, thenF_nx, thenF_ret, thenF_brk, thenF_cnt, turnD, setTg, setAll, wipeE]
      refine comp_bind intS (fun y hy => ?_) (by simpa using Nat.le_trans hp'.1 (by decide)) ?_
      · obtain ⟨n, hn, rfl⟩ := List.mem_map.mp hy
        have := (dig (hp'.2 n hn)).2
        simp [sm, den, ofVT, ofVB, noDen, baseA, cmpD, bltD, thenF_nx, thenF_ret, thenF_brk, thenF_cnt, turnD, setTg, setAll, wipeE, fmtD, this, intS, nT]
      · have e2 : (p.map D.int).map intS = (p.map nT).map D.str := by simp [intS, Function.comp_def]
        simp only [bind_ok]; rw [e2, join_rows hp']
        simp [rowS_t]
    · have e2 : (ps.map rT).map rowS = (ps.map rowT).map D.str := by
        rw [List.map_map, List.map_map]
        exact List.map_congr_left fun p _ => rowS_t p
      simp only [bind_ok]; rw [e2, join_text h]; simp
end K19
end
section
set_option Elab.async false
set_option linter.all false
set_option maxRecDepth 100000
set_option maxHeartbeats 400000
namespace K19
open PySem PySem.Spec PyProof.Rows L2 Dv
/-! ### the law's own: _law_text, _law_is (pages as lists of lists) -/
abbrev lL (ps : List (List Int)) : Dv.D := .lst (ps.map rL)
def pyL (ns : List Int) : PyData := .list (ns.map .int)
theorem py_rowsL : ∀ ps : List (List Int), toPys (ps.map rL) = some (ps.map pyL)
  | [] => by simp [toPys]
  | p :: ps => by simp [toPys, toPy, py_ints p, py_rowsL ps, pyL]
theorem lay_rowsL : ∀ ps : List (List Int), PyData.canLayAll0 (ps.map pyL) = true ∧ PyData.depthAll (ps.map pyL) ≤ 1
  | [] => by simp [PyData.canLayAll0, PyData.depthAll]
  | p :: ps => by
    have h1 := lay_rowsL ps
    have h2 := lay_ints p
    simp [PyData.canLayAll0, PyData.canLay0, PyData.depthAll, PyData.depth, pyL, h1.1, h2.1, h2.2]
    omega
theorem shaped_rowsL (ps : List (List Int)) : SeqAt.shaped (.list (ps.map pyL)) = true := by
  have h := lay_rowsL ps
  simp [SeqAt.shaped, PyData.canLay0, PyData.depth, h.1]
  omega
theorem eqD_rowsL (O : Orc) (ps : List (List Int)) (cs : Cells) : eqD T O (lL ps) (lL ps) cs = .ok true cs := by
  have e : toPy (lL ps) = some (.list (ps.map pyL)) := by simp [toPy, py_rowsL]
  show eqP _ _ cs = _
  exact eqP_refl e (shaped_rowsL ps) cs
theorem eqv_bareL : ∀ ps : List (List Int), PyData.eqv (.list (ps.map pyL)) (.list [.list []]) = decide (ps = [[]])
  | [] => by simp [PyData.eqv, PyData.eqvAll]
  | [] :: [] => by simp [PyData.eqv, PyData.eqvAll, pyL]
  | (n :: p) :: [] => by simp [PyData.eqv, PyData.eqvAll, pyL]
  | p :: q :: r => by simp [PyData.eqv, PyData.eqvAll]
theorem eqD_bareL (O : Orc) (ps : List (List Int)) (cs : Cells) : eqD T O (lL ps) (.lst [.lst []]) cs = .ok (decide (ps = [[]])) cs := by
  have e : toPy (lL ps) = some (.list (ps.map pyL)) := by simp [toPy, py_rowsL]
  have e2 : toPy (.lst [.lst []]) = some (.list [.list []]) := by simp [toPy, toPys]
  show eqP _ _ cs = _
  unfold eqP
  rw [e, e2]
  have h := shaped_rowsL ps
  have h2 : SeqAt.shaped (.list [.list []]) = true := by decide
  simp [h, h2, eqv_bareL]
theorem u_text (k : Nat) (a : Dv.D) (cs : Cells) : run T (k + 1) false 10 [a] cs = (sm T (run T k) f_law_text.body [.val a, .emp, .emp] cs).bind endF := rfl
theorem r_text (k : Nat) (ps : List (List Int)) (h : Wf 400 ps) (cs : Cells) : run T (k + 1) false 10 [lL ps] cs = .ok (.str (txt ps)) cs := by
  rw [u_text]
  simp [sm, den, ofVT, ofVB, noDen, baseA, cmpD, bltD, thenF_nx, thenF_ret, thenF_brk, thenF_cnt, f_law_text]
  have e := eqD_bareL (run T k) ps cs
  have z1 : 1 ≤ sizeLine := by decide
  have z0 : 0 ≤ sizeLine := by decide
  simp only [z1, if_true, bind_ok, e]
  by_cases q : ps = [[]]
  · simp [q, txt]
  · simp [q, txt]
    refine comp_bind rowS (fun x hx => ?_) (by simpa using Nat.le_trans h.2.2.1 (by decide)) ?_
    · obtain ⟨p, hp, rfl⟩ := List.mem_map.mp hx
      have hp' := h.1 p hp
      simp [sm, den, ofVT, ofVB, noDen, baseA, cmpD, bltD, thenF_nx, thenF_ret, thenF_brk, thenF_cnt, turnD, setTg, setAll, wipeE]
      refine comp_bind intS (fun y hy => ?_) (by simpa using Nat.le_trans hp'.1 (by decide)) ?_
      · obtain ⟨n, hn, rfl⟩ := List.mem_map.mp hy
        have := (dig (hp'.2 n hn)).2
        simp [sm, den, ofVT, ofVB, noDen, baseA, cmpD, bltD, thenF_nx, thenF_ret, thenF_brk, thenF_cnt, turnD, setTg, setAll, wipeE, bStr, this, intS, nT]
      · have e2 : (p.map D.int).map intS = (p.map nT).map D.str := by simp [intS, Function.comp_def]
        simp only [bind_ok]; rw [e2, join_rows hp']
        simp [rowS_l]
    · have e2 : (ps.map rL).map rowS = (ps.map rowT).map D.str := by
        rw [List.map_map, List.map_map]
        exact List.map_congr_left fun p _ => rowS_l p
      simp only [bind_ok]; rw [e2, join_text h]; simp
/-! strings that are equal -/
def okS (x : Str) : Bool := x.cps.all (· < 0x110000)
theorem okS_app {x y : Str} (h1 : okS x = true) (h2 : okS y = true) : okS (x ++ y) = true := by
  unfold okS at *
  have e : (x ++ y).cps = x.cps ++ y.cps := rfl
  rw [e, Array.all_append, h1, h2]
  rfl
theorem okS_join (s : Str) (hs : okS s = true) : ∀ ts : List Str, (∀ t ∈ ts, okS t = true) → okS (Str.join s ts) = true
  | [], _ => show okS Str.empty = true by decide +kernel
  | [t], h => h t List.mem_cons_self
  | t :: u :: r, h => by
    have ih := okS_join s hs (u :: r) fun z hz => h z (List.mem_cons_of_mem _ hz)
    exact okS_app (okS_app (h t List.mem_cons_self) hs) ih
theorem okS_dig : ∀ m : Fin 61, okS (nT (m.val : Int)) = true := by decide +kernel
theorem okS_row {p : List Int} (h : Pg p) : okS (rowT p) = true := by
  unfold rowT
  rw [show Txt.join " " (p.map nT) = Str.join " " (p.map nT) from PySem.StrLaws.glued_eq_join _ _]
  refine okS_join _ (by decide +kernel) _ fun t ht => ?_
  obtain ⟨n, hn, rfl⟩ := List.mem_map.mp ht
  have hb := h.2 n hn
  have := okS_dig ⟨n.toNat, by omega⟩
  have e : ((n.toNat : Nat) : Int) = n := by omega
  simpa [e] using this
theorem strOk_txt {ps : List (List Int)} (h : Wf 400 ps) : PyData.strOk (txt ps) = true := by
  show okS (txt ps) = true
  unfold txt
  split
  · decide +kernel
  · rw [show Txt.join " / " (ps.map rowT) = Str.join " / " (ps.map rowT) from PySem.StrLaws.glued_eq_join _ _]
    refine okS_join _ (by decide +kernel) _ fun t ht => ?_
    obtain ⟨p, hp, rfl⟩ := List.mem_map.mp ht
    exact okS_row (h.1 p hp)
theorem u_is (k : Nat) (a b : Dv.D) (cs : Cells) : run T (k + 1) false 11 [a, b] cs = (sm T (run T k) f_law_is.body [.val a, .val b, .emp] cs).bind endF := rfl
theorem eqD_txt (O : Orc) {ps : List (List Int)} (h : Wf 400 ps) (cs : Cells) : eqD T O (.str (txt ps)) (.str (txt ps)) cs = .ok true cs := by
  show eqP (.str (txt ps)) (.str (txt ps)) cs = _
  refine eqP_refl (x := .str (txt ps)) (by simp [toPy]) ?_ cs
  simp [SeqAt.shaped, PyData.canLay0, PyData.depth, strOk_txt h]
theorem r_is (k : Nat) (ps : List (List Int)) (h : Wf 400 ps) (cs : Cells) : run T (k + 3) false 11 [ch ps, lL ps] cs = .ok (.bl true) cs := by
  rw [u_is]
  have e1 := r_str (k + 1) ps h cs
  have e2 := r_text (k + 1) ps h cs
  have c1 : callM T (run T (k + 2)) nStr (ch ps) [] cs = .ok (.str (txt ps)) cs := e1
  simp [sm, den, ofVT, ofVB, noDen, baseA, cmpD, bltD, thenF_nx, thenF_ret, thenF_brk, thenF_cnt, f_law_is, isiD, tyOk, tyThere, isTy, ch, List.lookup]
  refine comp_bind (fun d => match d with | .tup ds => .lst ds | d => d) (fun x hx => ?_) (by simpa using Nat.le_trans h.2.2.1 (by decide)) ?_
  · obtain ⟨p, hp, rfl⟩ := List.mem_map.mp hx
    simp [sm, den, ofVT, ofVB, noDen, baseA, cmpD, bltD, thenF_nx, thenF_ret, thenF_brk, thenF_cnt, turnD, setTg, setAll, wipeE, bList]
  · have e3 : (ps.map rT).map (fun d => match d with | .tup ds => .lst ds | d => d) = ps.map rL := by
      rw [List.map_map]
      exact List.map_congr_left fun p _ => rfl
    rw [e3]
    have c2 : callM T (run T (k + 2)) nStr (.ins 0 [(0, .tup (ps.map rT)), (1, rT ps.flatten), (2, .int ps.flatten.sum)]) [] cs = .ok (.str (txt ps)) cs := c1
    have e4 : run T (k + 2) false 10 [lL ps] cs = .ok (.str (txt ps)) cs := e2
    simp only [eqD_rowsL, bStr, c2, e4, bind_ok, truth_bl, bind_assoc, if_true, eqD_txt _ h, thenF_ret, end_ret]
end K19
end
section
set_option Elab.async false
set_option linter.all false
set_option maxRecDepth 100000
set_option maxHeartbeats 400000
namespace K19
open PySem PySem.Spec PyProof.Rows L2 Dv
theorem addP_ne {ps qs : List (List Int)} (h1 : ∀ p ∈ ps, p ≠ []) (h2 : ∀ p ∈ qs, p ≠ []) (h : ps ≠ []) : addP ps qs = ps ++ qs := by
  have e : (ps ++ qs).filter (fun p => !p.isEmpty) = ps ++ qs := by
    rw [List.filter_eq_self]
    intro p hp
    rcases List.mem_append.mp hp with q | q
    · simpa using h1 p q
    · simpa using h2 p q
  unfold addP
  rw [e, if_neg (by simp [h])]
theorem u_made (k : Nat) (a : Dv.D) (cs : Cells) : run T (k + 1) false 9 [a] cs = (sm T (run T k) f_law_made.body [.val a, .emp, .emp] cs).bind endF := rfl
/-- pages as the law draws them -/
def Dr (n : Nat) (ps : List (List Int)) : Prop := (∀ p ∈ ps, Pg p ∧ p ≠ []) ∧ 1 ≤ ps.length ∧ ps.length ≤ n
theorem Dr.wf {n : Nat} {ps : List (List Int)} (h : Dr n ps) : Wf n ps := ⟨fun p hp => (h.1 p hp).1, h.2.1, h.2.2, fun _ p hp => (h.1 p hp).2⟩
theorem wf1 {p : List Int} (h : Pg p) : Wf 1 [p] := ⟨by simpa using h, by simp, by simp, by simp⟩
theorem Wf.mono {n m : Nat} {ps : List (List Int)} (h : Wf n ps) (hm : n ≤ m) : Wf m ps := ⟨h.1, h.2.1, Nat.le_trans h.2.2.1 hm, h.2.2.2⟩
theorem r_made (k : Nat) (ps : List (List Int)) (h : Dr 100 ps) (cs : Cells) : run T (k + 6) false 9 [lL ps] cs = .ok (ch ps) cs := by
  rw [u_made]
  obtain ⟨h1, h2, h3⟩ := h
  cases ps with
  | nil => simp at h2
  | cons p ps =>
    have hp := h1 p List.mem_cons_self
    have i1 := r_init (k + 1) [(false, p)] ⟨by simpa using hp.1, by simp, by simp, by simp⟩ cs
    simp [pgD] at i1
    have e2 := cut_lo (rL p :: ps.map rL) 1 (by simp)
    simp [sm, den, ofVT, ofVB, noDen, baseA, cmpD, bltD, thenF_nx, thenF_ret, thenF_brk, thenF_cnt, f_law_made, subD, Dv.atD, atI, i1]
    have ix : ((ixN (ps.length + 1) 0).bind fun j => (rL p :: ps.map rL)[j]?) = some (rL p) := by simp [ixN]
    have ec : Dv.cutD (rL p :: ps.map rL) (some 1) none = ps.map rL := e2
    have i2 : run T (k + 5) true 16 [rL p] cs = .ok (ch [p]) cs := i1
    simp [sm, den, ofVT, ofVB, noDen, baseA, cmpD, bltD, thenF_nx, thenF_ret, thenF_brk, thenF_cnt, ix, ec, i2]
    refine for_bind (fun xs ρ cs' => cs' = cs ∧ ∃ (rs dn : List (List Int)) (s : Slot), xs = rs.map rL ∧ dn ++ rs = p :: ps ∧ dn ≠ [] ∧ ρ = [.val (lL (p :: ps)), .val (ch dn), s]) ⟨rfl, ps, [p], .emp, rfl, rfl, by simp, rfl⟩ ?_ ?_
    · rintro x xs ρ cs' ⟨rfl, rs, dn, s, hx, hd, hn, rfl⟩
      cases rs with
      | nil => cases hx
      | cons r rs =>
        cases hx
        have hm : ∀ q ∈ dn ++ r :: rs, Pg q ∧ q ≠ [] := by rw [hd]; exact h1
        have hr := hm r (by simp)
        have i3 := r_new (k + 1) [r] ((wf1 hr.1).mono (by decide)) cs'
        simp at i3
        have hl : dn.length ≤ 100 := by
          have := congrArg List.length hd
          rw [List.length_append] at this
          omega
        have wd : Wf 200 dn := ⟨fun q hq => (hm q (by simp [hq])).1, List.length_pos_iff.mpr hn, by omega, fun _ q hq => (hm q (by simp [hq])).2⟩
        have i4 := r_add k dn [r] wd ((wf1 hr.1).mono (by decide)) cs'
        rw [addP_ne (fun q hq => (hm q (by simp [hq])).2) (by simpa using hr.2) hn] at i4
        have i5 : binD T (run T (k + 5)) .add (ch dn) (ch [r]) cs' = .ok (ch (dn ++ [r])) cs' := i4
        have i6 : run T (k + 5) true 16 [rT r] cs' = .ok (ch [r]) cs' := i3
        refine ⟨[.val (lL (p :: ps)), .val (ch dn), .val (rL r)], [.val (lL (p :: ps)), .val (ch (dn ++ [r])), .val (rL r)], cs', rfl, ?_, rfl, rs, dn ++ [r], _, rfl, by simpa using hd, by simp, rfl⟩
        simp [sm, den, ofVT, ofVB, noDen, baseA, cmpD, bltD, thenF_nx, thenF_ret, thenF_brk, thenF_cnt, bTuple, i6, i5]
    · rintro ρ cs' ⟨rfl, rs, dn, s, hx, hd, hn, rfl⟩
      cases rs with
      | cons r rs => cases hx
      | nil =>
        simp at hd
        simp [hd]
end K19
end
section
set_option Elab.async false
set_option linter.all false
set_option maxRecDepth 100000
set_option maxHeartbeats 0
namespace K19
open PySem PySem.Spec PyProof.Rows L2 Dv
theorem chk : D.chk = true := by kernel_rfl
theorem sane : D.sane = true := by kernel_rfl
theorem ok : D.Ok := ⟨sane, chk, binds⟩
end K19
end
section
set_option Elab.async false
set_option linter.all false
set_option maxRecDepth 100000
set_option maxHeartbeats 0
namespace K19
open PySem PySem.Spec PyProof.Rows L2 Dv
def loose0 : List Str := ["_wall", "__name__", "is_integer", "is_within", "FloorError", "BadChain", "BadCount", "BadText", "NoPage", "TooMany", "MOST_LENGTH", "length_in", "MOST_PAGES", "MOST_ROWS", "are_rows", "total_of", "rows_of", "Chain", "pages_in", "_law_pen", "_law_draw", "_law_pick", "_law_pages", "_law_made", "_law_text", "_law_is", "_law_parts_right", "_law_changed_right", "_law_right"]
def loose : List Str := loose0
abbrev R : PySem.W.OpenRow := PySem.W.OpenLaw.row PySem.Challenge.rw_pagefloor_k19_whole_chains_put_together
abbrev vw : Program := PySem.W.view R.prog [33]
theorem run_top (w : World) : HandSHeadRun.RunEq R vw (D.hook 5) (D.ob 5) 20000 loose w := by
  intro os
  kernel_rfl
end K19
end
section
set_option Elab.async false
set_option linter.all false
set_option maxRecDepth 100000
set_option maxHeartbeats 0
open PySem PySem.W PySem.Calls PyProof.Rows
theorem K19.fin (plain : ∀ ns : List Int, ns.length ≤ 63 → ∃ cs, Dv.run K19.T (9 + 1) false 15 [.scr (ns.map .int)] [] = .ok (.bl true) cs) : PySem.Challenge.rw_pagefloor_k19_whole_chains_put_together.Holds := by
  w_on; o_law
  refine HandSHeadRun.head_any (r := OpenLaw.row PySem.Challenge.rw_pagefloor_k19_whole_chains_put_together) (q := K19.vw) (H := K19.D.hook 5) (ob := K19.D.ob 5) (M := 20000) (loose := K19.loose) (d := HandSHeadRun.topDef (OpenLaw.row PySem.Challenge.rw_pagefloor_k19_whole_chains_put_together).prog 33) (kwd := []) (Dv.LD.ob_eq K19.D 5)
    (by kernel_rfl) (fun s => by kernel_rfl) K19.run_top (by kernel_rfl) (by kernel_rfl) (by kernel_rfl) (by rfl) (by first | assumption | decide +kernel) (by decide +kernel) ⟨rfl, rfl, rfl, rfl, rfl, by decide +kernel⟩ ?hw ?hc
  case hw => w_witness2
  case hc =>
    refine L2.walk_ofE (l := PySem.Challenge.rw_pagefloor_k19_whole_chains_put_together) (n := 63) (k := 4 * 9 + 4) (x := "_law_script") (CX := C8.CX0) rfl (by decide) (by kernel_rfl) ⟨rfl, by decide, by decide⟩ ?F (fun _ _ _ _ z => z)
    intro w mg fa h Y G hmg0
    obtain ⟨K, KX, c⟩ := Y
    have hmg : mg ("law" : PySem.Str) = some (.ref fa) := by
      have e : (HandSHeadRun.topDef (OpenLaw.row PySem.Challenge.rw_pagefloor_k19_whole_chains_put_together).prog 33).name = ("law" : PySem.Str) := by kernel_rfl
      rw [← e]
      exact hmg0
    obtain ⟨fd, hb, h1, h2⟩ := Dv.law_of (L := K19.D) K19.ok c KX G (k := 9) (f := 15) (F := K19.f_law) (x := "law") (y := "_law_script") rfl rfl rfl rfl hmg (by kernel_rfl) plain
    exact ⟨K, fd, _, KX, hb, fun H a ns hl hO hS => h1 H a ns hl hO hS, fun base hb1 hb2 => h2 _ w base hb1 hb2⟩
end
section
set_option Elab.async false
set_option linter.all false
set_option maxRecDepth 100000
set_option maxHeartbeats 400000
namespace K19
open PySem PySem.Spec PyProof.Rows L2 Dv
def pin : Sm := (.seq (.ite (.or (.not (.call 11 (.cons (.meth 13 (.var 0) (.cons (.var 2) (.cons (.var 3) .nil))) (.cons (.slice (.var 1) (.var 2) (.var 3)) .nil)))) (.cmp .ne (.methk 13 (.var 0) .nil (.cons (.var 3) (.cons (.var 2) .nil)) [1, 0]) (.meth 13 (.var 0) (.cons (.var 2) (.cons (.var 3) .nil))))) (.seq (.ret (.bl false)) .skip) .skip) .skip)
def pou : Sm := (.seq (.for_ [3] true (.rng2 (.bin .add (.var 2) (.int 1)) (.bin .add (.blt .len (.cons (.var 1) .nil)) (.int 1))) pin) .skip)
theorem u_parts (k : Nat) (a b : Dv.D) (cs : Cells) : run T (k + 1) false 12 [a, b] cs = (sm T (run T k) (.seq (.for_ [2] true (.rng (.blt .len (.cons (.var 1) .nil))) pou) (.seq (.ret (.bl true)) .skip)) [.val a, .val b, .emp, .emp] cs).bind endF := rfl
theorem m13 (ps : List (List Int)) (cs : Cells) : methF T 13 (ch ps) cs = some 17 := rfl
theorem r_pin (k : Nat) (ps : List (List Int)) (h : Dr 100 ps) (i j : Nat) (hi : i < j) (hj : j ≤ ps.length) (cs : Cells) : sm T (run T (k + 6)) pin [.val (ch ps), .val (lL ps), .val (.int i), .val (.int j)] cs = .ok (.nx [.val (ch ps), .val (lL ps), .val (.int i), .val (.int j)]) cs := by
  have w1 : Wf 400 ps := h.wf.mono (by decide)
  have e1 := r_stretch (k + 1) ps w1 i j hi hj cs
  have e2 := r_is (k + 3) (cutP ps i j) (wf_cut w1 hi hj) cs
  have e3 : Dv.cutD (ps.map rL) (some (i : Int)) (some (j : Int)) = (cutP ps i j).map rL := by
    rw [Dv.cutD, cut_nat _ i j (by omega) (by simpa using hj)]
    simp [cutP, List.map_drop, List.map_take]
  have e4 := eqD_ch (k + 5) (cutP ps i j) cs
  simp [sm, den, ofVT, ofVB, noDen, baseA, cmpD, bltD, thenF_nx, thenF_ret, thenF_brk, thenF_cnt, pin, m13, e1, e3, e2, permD, e4]
theorem r_pou (k : Nat) (ps : List (List Int)) (h : Dr 100 ps) (i : Nat) (hi : i < ps.length) (s : Slot) (cs : Cells) : ∃ t, sm T (run T (k + 6)) pou [.val (ch ps), .val (lL ps), .val (.int i), s] cs = .ok (.nx [.val (ch ps), .val (lL ps), .val (.int i), t]) cs := by
  have hn : ps.length ≤ 100 := h.2.2
  have r2 : rng2D (.int ((i : Int) + 1)) (.int ((ps.length : Int) + 1)) cs = _ := rng2D_nat (i + 1) (ps.length + 1) (by omega) (by omega) cs
  have main : ∀ (js : List Nat) (s : Slot), (∀ j ∈ js, i < j ∧ j ≤ ps.length) → ∃ t, forL (fun ρ cs => sm T (run T (k + 6)) pin ρ cs) [3] true (js.map fun (j : Nat) => Dv.D.int (j : Int)) [.val (ch ps), .val (lL ps), .val (.int i), s] cs = .ok (.nx [.val (ch ps), .val (lL ps), .val (.int i), t]) cs := by
    intro js
    induction js with
    | nil => exact fun s _ => ⟨s, rfl⟩
    | cons j js ih =>
      intro s hj
      obtain ⟨h1, h2⟩ := hj j List.mem_cons_self
      obtain ⟨t, e⟩ := ih (.val (.int j)) fun x hx => hj x (List.mem_cons_of_mem _ hx)
      refine ⟨t, ?_⟩
      rw [List.map_cons, forL]
      show ((fun ρ cs => sm T (run T (k + 6)) pin ρ cs) [.val (ch ps), .val (lL ps), .val (.int i), .val (.int j)] cs).bind _ = _
      show (sm T (run T (k + 6)) pin [.val (ch ps), .val (lL ps), .val (.int i), .val (.int j)] cs).bind _ = _
      rw [r_pin k ps h i j h1 h2 cs]
      exact e
  obtain ⟨t, e⟩ := main ((List.range (ps.length + 1 - (i + 1))).map fun j => i + 1 + j) s (by
    intro j hj
    obtain ⟨x, hx, rfl⟩ := List.mem_map.mp hj
    have := List.mem_range.mp hx
    omega)
  refine ⟨t, ?_⟩
  rw [List.map_map] at e
  have e : forF (fun ρ cs => sm T (run T (k + 6)) pin ρ cs) [3] true (List.map (fun (j : Nat) => Dv.D.int ((i + 1 + j : Nat) : Int)) (List.range (ps.length + 1 - (i + 1)))) [.val (ch ps), .val (lL ps), .val (.int i), s] cs = _ := e
  unfold pou
  simp only [sm, thenF_nx, thenF_ret, thenF_brk, thenF_cnt, den, ofVT, ofVB, noDen, baseA, cmpD, bltD, bind_ok, ofRes_some, getV_0, getV_s, getB_0, getB_s, truth_bl, truth_int, cmp_lt, cmp_le, cmp_gt, cmp_ge, List.getElem?_cons_zero, List.getElem?_cons_succ, List.set_cons_zero, List.set_cons_succ, if_true, if_false, reduceIte, decide_true, decide_false, end_ret, end_nx, List.length_cons, List.length_nil, Nat.zero_add, Nat.reduceAdd, Nat.reduceLT, Nat.reduceLeDiff, Nat.zero_le, and_self, len_l, bin_add, List.length_map, r2, e]
theorem r_parts (k : Nat) (ps : List (List Int)) (h : Dr 100 ps) (cs : Cells) : run T (k + 7) false 12 [ch ps, lL ps] cs = .ok (.bl true) cs := by
  rw [u_parts]
  have hn : ps.length ≤ 100 := h.2.2
  simp only [sm, thenF_nx, thenF_ret, thenF_brk, thenF_cnt, den, ofVT, ofVB, noDen, baseA, cmpD, bltD, bind_ok, ofRes_some, getV_0, getV_s, getB_0, getB_s, truth_bl, truth_int, cmp_lt, cmp_le, cmp_gt, cmp_ge, List.getElem?_cons_zero, List.getElem?_cons_succ, List.set_cons_zero, List.set_cons_succ, if_true, if_false, reduceIte, decide_true, decide_false, end_ret, end_nx, List.length_cons, List.length_nil, Nat.zero_add, Nat.reduceAdd, Nat.reduceLT, Nat.reduceLeDiff, Nat.zero_le, and_self, len_l, List.length_map, rngD_nat ps.length (by omega)]
  rw [bind_assoc]
  refine for_bind (fun xs ρ cs' => cs' = cs ∧ ∃ (is : List Nat) (s t : Slot), xs = is.map (fun (i : Nat) => Dv.D.int (i : Int)) ∧ (∀ i ∈ is, i < ps.length) ∧ ρ = [.val (ch ps), .val (lL ps), s, t]) ⟨rfl, List.range ps.length, .emp, .emp, rfl, fun i hi => List.mem_range.mp hi, rfl⟩ ?_ ?_
  · rintro x xs ρ cs' ⟨rfl, is, s, t, hx, hm, rfl⟩
    cases is with
    | nil => cases hx
    | cons i is =>
      cases hx
      obtain ⟨t', e⟩ := r_pou k ps h i (hm i List.mem_cons_self) t cs'
      exact ⟨[.val (ch ps), .val (lL ps), .val (.int i), t], [.val (ch ps), .val (lL ps), .val (.int i), t'], cs', rfl, e, rfl, is, _, _, rfl, fun j hj => hm j (List.mem_cons_of_mem _ hj), rfl⟩
  · rintro ρ cs' ⟨rfl, is, s, t, hx, hm, rfl⟩
    rfl
end K19
end
section
set_option Elab.async false
set_option linter.all false
set_option maxRecDepth 100000
set_option maxHeartbeats 400000
namespace K19
open PySem PySem.Spec PyProof.Rows L2 Dv
theorem u_draw (k : Nat) (m : Dv.D) (cs : Cells) : run T (k + 1) false 6 [.cell 0, m] cs = (sm T (run T k) (drawSm 68791 2639 2147483497 46087 763 2147483489 141 40911 545 2147483587) [.val (.cell 0), .val m, .emp, .emp, .emp, .emp, .emp] cs).bind endF := rfl
theorem r_draw (k : Nat) {tl : Cells} {b m : Nat} {cs : Cells} (h : Pn tl b cs) (hm : 0 < m) (hm2 : m < 1000000000) (hb : b < 1000000) : Wp (run T (k + 1) false 6 [.cell 0, .int m] cs) fun d cs' => (∃ j : Nat, j < m ∧ d = .int j) ∧ Pn tl (b + 1) cs' := by
  rw [u_draw]
  exact draw_wp T _ (by decide) h hm hm2 hb
theorem u_pick (k : Nat) (m : Dv.D) (cs : Cells) : run T (k + 1) false 7 [.cell 0, m] cs = (sm T (run T k) f_law_pick.body [.val (.cell 0), .val m] cs).bind endF := rfl
theorem r_pick (k : Nat) {tl : Cells} {b : Nat} {cs : Cells} (h : Pn tl b cs) (xs : List Dv.D) (h0 : xs ≠ []) (hl : xs.length < 1000000000) (hb : b < 1000000) : Wp (run T (k + 2) false 7 [.cell 0, .lst xs] cs) fun d cs' => d ∈ xs ∧ Pn tl (b + 1) cs' := by
  rw [u_pick]
  unfold f_law_pick
  simp only [sm, thenF_nx, thenF_ret, thenF_brk, thenF_cnt, den, ofVT, ofVB, noDen, baseA, cmpD, bltD, bind_ok, ofRes_some, getV_0, getV_s, getB_0, getB_s, truth_bl, truth_int, cmp_lt, cmp_le, cmp_gt, cmp_ge, List.getElem?_cons_zero, List.getElem?_cons_succ, List.set_cons_zero, List.set_cons_succ, if_true, if_false, reduceIte, decide_true, decide_false, end_ret, end_nx, List.length_cons, List.length_nil, Nat.zero_add, Nat.reduceAdd, Nat.reduceLT, Nat.reduceLeDiff, Nat.zero_le, and_self, len_l]
  obtain ⟨d, cs', e, ⟨j, hj, rfl⟩, hp⟩ := r_draw k h (List.length_pos_iff.mpr h0) hl hb
  obtain ⟨x, hx, e2⟩ := at_in (xs := xs) (k := j) (by omega) (by omega)
  have e3 : subD T (run T (k + 1)) (.lst xs) (.int j) cs' = .ok x cs' := by
    show ofRes cs' (atI _ _) = _
    rw [e2]
    rfl
  simp only [sm, thenF_nx, thenF_ret, thenF_brk, thenF_cnt, den, ofVT, ofVB, noDen, baseA, cmpD, bltD, bind_ok, ofRes_some, getV_0, getV_s, getB_0, getB_s, truth_bl, truth_int, cmp_lt, cmp_le, cmp_gt, cmp_ge, List.getElem?_cons_zero, List.getElem?_cons_succ, List.set_cons_zero, List.set_cons_succ, if_true, if_false, reduceIte, decide_true, decide_false, end_ret, end_nx, List.length_cons, List.length_nil, Nat.zero_add, Nat.reduceAdd, Nat.reduceLT, Nat.reduceLeDiff, Nat.zero_le, and_self, e, e3]
  exact ⟨x, cs', rfl, hx, hp⟩
def pgIn : Sm := (.seq (.app 3 (.comp (.bin .add (.int 1) (.call 6 (.cons (.var 0) (.cons (.var 2) .nil)))) [5] true (.rng (.bin .add (.int 1) (.call 6 (.cons (.var 0) (.cons (.int 5) .nil))))) .nil)) .skip)
theorem u_pages (k : Nat) (m : Dv.D) (cs : Cells) : run T (k + 1) false 8 [.cell 0, m] cs = (sm T (run T k) (.seq (.set 2 (.call 7 (.cons (.var 0) (.cons (.lst (.cons (.int 3) (.cons (.int 5) (.cons (.int 12) (.cons (.int 60) .nil))))) .nil)))) (.seq (.own 3 .nil) (.seq (.for_ [4] true (.rng (.bin .add (.int 1) (.call 6 (.cons (.var 0) (.cons (.var 1) .nil))))) pgIn) (.frz 3 (.seq (.ret (.var 3)) .skip))))) [.val (.cell 0), .val m, .emp, .emp, .emp, .emp] cs).bind endF := rfl
theorem ints_of {ds : List Dv.D} {P : Int → Prop} (h : ∀ d ∈ ds, ∃ i, d = .int i ∧ P i) : ∃ ns : List Int, ds = ns.map .int ∧ ns.length = ds.length ∧ ∀ n ∈ ns, P n := by
  induction ds with
  | nil => exact ⟨[], rfl, rfl, by simp⟩
  | cons d ds ih =>
    obtain ⟨i, rfl, hi⟩ := h d List.mem_cons_self
    obtain ⟨ns, rfl, e, hn⟩ := ih fun d hd => h d (List.mem_cons_of_mem _ hd)
    exact ⟨i :: ns, rfl, congrArg (· + 1) e, fun n hm => (List.mem_cons.mp hm).elim (fun q => q ▸ hi) (hn n)⟩
/-- some drawn rows -/
theorem drawn_comp (k : Nat) {tl : Cells} {b top j n : Nat} {cs : Cells} {c : Dv.D → Cells → Res (Option Dv.D)} {α : Type} {K : List Dv.D → Cells → Res α} {Q : α → Cells → Prop}
    (hc : ∀ x cs (j : Int) cs', run T (k + 1) false 6 [.cell 0, .int top] cs = .ok (.int j) cs' → c x cs = .ok (some (.int (1 + j))) cs')
    (hp : Pn tl b cs) (hb : b < 900000) (ht : 0 < top) (ht2 : top ≤ 60) (hj : j < n) (hn2 : n ≤ 60)
    (hk : ∀ (p : List Int) cs', p.length ≤ n → p ≠ [] → (∀ v ∈ p, 1 ≤ v ∧ v ≤ top) → Pn tl (b + n) cs' → Wp (K (p.map .int) cs') Q) :
    Wp ((compF c [] ((List.range (1 + j)).map fun (i : Nat) => .int (i : Int)) cs).bind K) Q := by
  refine comp_pen (c := 1) (n := n) (fun d => ∃ i, d = .int i ∧ 1 ≤ i ∧ i ≤ top) (fun x hx b' cs2 h1 h2 hp2 => ?_) (by simp; omega) (Nat.le_trans hn2 (by decide)) hp ?_
  · simp only [List.length_map, List.length_range] at h2
    obtain ⟨_, cs3, e, ⟨i, hi, rfl⟩, hp3⟩ := r_draw k hp2 ht (by omega) (by omega)
    rw [hc x cs2 i cs3 e]
    exact (wp_ok _ _ _).mpr ⟨_, rfl, ⟨_, rfl, by omega, by omega⟩, hp3⟩
  · rintro ds cs2 hl hd hp2
    obtain ⟨p, rfl, hl2, hv⟩ := ints_of hd
    have hl3 : p.length = 1 + j := by
      rw [hl2, hl]
      simp
    exact hk p cs2 (by omega) (by intro q; subst q; simp at hl3; omega) hv (by rw [Nat.one_mul] at hp2; exact hp2)
theorem r_pgIn (k : Nat) {b top : Nat} {m : Dv.D} {s4 s5 : Slot} {ps : List (List Int)} {cs : Cells} (hp : Pn [] b cs) (hb : b < 850000) (ht : 0 < top) (ht2 : top ≤ 60) (hl : ps.length < 1000) : Wp (sm T (run T (k + 1)) pgIn [.val (.cell 0), .val m, .val (.int top), .own (lL ps), s4, s5] cs) fun f cs' =>
    ∃ p : List Int, Pg p ∧ p ≠ [] ∧ f = .nx [.val (.cell 0), .val m, .val (.int top), .own (lL (ps ++ [p])), s4, s5] ∧ Pn [] (b + 6) cs' := by
  unfold pgIn
  simp only [sm, thenF_nx, thenF_ret, thenF_brk, thenF_cnt, den, ofVT, ofVB, noDen, baseA, cmpD, bltD, bind_ok, ofRes_some, getV_0, getV_s, getB_0, getB_s, truth_bl, truth_int, cmp_lt, cmp_le, cmp_gt, cmp_ge, List.getElem?_cons_zero, List.getElem?_cons_succ, List.set_cons_zero, List.set_cons_succ, if_true, if_false, reduceIte, decide_true, decide_false, end_ret, end_nx, List.length_cons, List.length_nil, Nat.zero_add, Nat.reduceAdd, Nat.reduceLT, Nat.reduceLeDiff, Nat.zero_le, and_self]
  simp only [Dv.bind_assoc]
  refine wp_at (r_draw k hp (m := 5) (by decide) (by decide) (by omega)) ?_
  rintro _ cs1 ⟨⟨j, hj, rfl⟩, hp1⟩
  have r1 : rngD (.int (1 + (j : Int))) cs1 = _ := rngD_nat (1 + j) (by omega) cs1
  simp only [sm, thenF_nx, thenF_ret, thenF_brk, thenF_cnt, den, ofVT, ofVB, noDen, baseA, cmpD, bltD, bind_ok, ofRes_some, getV_0, getV_s, getB_0, getB_s, truth_bl, truth_int, cmp_lt, cmp_le, cmp_gt, cmp_ge, List.getElem?_cons_zero, List.getElem?_cons_succ, List.set_cons_zero, List.set_cons_succ, if_true, if_false, reduceIte, decide_true, decide_false, end_ret, end_nx, List.length_cons, List.length_nil, Nat.zero_add, Nat.reduceAdd, Nat.reduceLT, Nat.reduceLeDiff, Nat.zero_le, and_self, bin_add, r1]
  simp only [Dv.bind_assoc]
  refine drawn_comp k ?_ hp1 (by omega) ht ht2 hj (by decide) ?_
  · intro x cs j cs' e
    simp only [sm, thenF_nx, thenF_ret, thenF_brk, thenF_cnt, den, ofVT, ofVB, noDen, baseA, cmpD, bltD, bind_ok, ofRes_some, getV_0, getV_s, getB_0, getB_s, truth_bl, truth_int, cmp_lt, cmp_le, cmp_gt, cmp_ge, List.getElem?_cons_zero, List.getElem?_cons_succ, List.set_cons_zero, List.set_cons_succ, if_true, if_false, reduceIte, decide_true, decide_false, end_ret, end_nx, List.length_cons, List.length_nil, Nat.zero_add, Nat.reduceAdd, Nat.reduceLT, Nat.reduceLeDiff, Nat.zero_le, and_self, turnD, setTg, setAll, wipeE, e, bin_add]
  · intro p cs' h1 h2 h3 hp'
    have hp' := hp'.mono (show b + 1 + 5 ≤ b + 6 by omega)
    have : ps.length < sizeLine := Nat.lt_trans hl (by decide)
    simp only [sm, thenF_nx, thenF_ret, thenF_brk, thenF_cnt, den, ofVT, ofVB, noDen, baseA, cmpD, bltD, bind_ok, ofRes_some, getV_0, getV_s, getB_0, getB_s, truth_bl, truth_int, cmp_lt, cmp_le, cmp_gt, cmp_ge, List.getElem?_cons_zero, List.getElem?_cons_succ, List.set_cons_zero, List.set_cons_succ, if_true, if_false, reduceIte, decide_true, decide_false, end_ret, end_nx, List.length_cons, List.length_nil, Nat.zero_add, Nat.reduceAdd, Nat.reduceLT, Nat.reduceLeDiff, Nat.zero_le, and_self, List.length_map, this]
    exact (wp_ok _ _ _).mpr ⟨p, ⟨by omega, fun n hn => by have := h3 n hn; omega⟩, h2, by simp, hp'⟩
end K19
end
section
set_option Elab.async false
set_option linter.all false
set_option maxRecDepth 100000
set_option maxHeartbeats 400000
namespace K19
open PySem PySem.Spec PyProof.Rows L2 Dv
theorem r_pages (k : Nat) {b most : Nat} {cs : Cells} (hp : Pn [] b cs) (hb : b < 800000) (h1 : 0 < most) (h2 : most ≤ 5) : Wp (run T (k + 3) false 8 [.cell 0, .int most] cs) fun d cs' => ∃ ps, d = lL ps ∧ Dr 100 ps ∧ Pn [] (b + 32) cs' := by
  rw [u_pages]
  have b4 : 4 ≤ sizeLine := by decide
  simp only [sm, thenF_nx, thenF_ret, thenF_brk, thenF_cnt, den, ofVT, ofVB, noDen, baseA, cmpD, bltD, bind_ok, ofRes_some, getV_0, getV_s, getB_0, getB_s, truth_bl, truth_int, cmp_lt, cmp_le, cmp_gt, cmp_ge, List.getElem?_cons_zero, List.getElem?_cons_succ, List.set_cons_zero, List.set_cons_succ, if_true, if_false, reduceIte, decide_true, decide_false, end_ret, end_nx, List.length_cons, List.length_nil, Nat.zero_add, Nat.reduceAdd, Nat.reduceLT, Nat.reduceLeDiff, Nat.zero_le, and_self, b4]
  simp only [Dv.bind_assoc]
  refine wp_at (r_pick k hp [.int 3, .int 5, .int 12, .int 60] (by simp) (by simp) (by omega)) ?_
  rintro d cs1 ⟨hd, hp1⟩
  obtain ⟨top, ht, ht2, rfl⟩ : ∃ top : Nat, 0 < top ∧ top ≤ 60 ∧ d = .int top := by
    simp at hd
    rcases hd with rfl | rfl | rfl | rfl
    · exact ⟨3, by decide, by decide, rfl⟩
    · exact ⟨5, by decide, by decide, rfl⟩
    · exact ⟨12, by decide, by decide, rfl⟩
    · exact ⟨60, by decide, by decide, rfl⟩
  simp only [sm, thenF_nx, thenF_ret, thenF_brk, thenF_cnt, den, ofVT, ofVB, noDen, baseA, cmpD, bltD, bind_ok, ofRes_some, getV_0, getV_s, getB_0, getB_s, truth_bl, truth_int, cmp_lt, cmp_le, cmp_gt, cmp_ge, List.getElem?_cons_zero, List.getElem?_cons_succ, List.set_cons_zero, List.set_cons_succ, if_true, if_false, reduceIte, decide_true, decide_false, end_ret, end_nx, List.length_cons, List.length_nil, Nat.zero_add, Nat.reduceAdd, Nat.reduceLT, Nat.reduceLeDiff, Nat.zero_le, and_self]
  simp only [Dv.bind_assoc]
  refine wp_at (r_draw (k + 1) hp1 h1 (by omega) (by omega)) ?_
  rintro _ cs2 ⟨⟨j, hj, rfl⟩, hp2⟩
  have r1 : rngD (.int (1 + (j : Int))) cs2 = _ := rngD_nat (1 + j) (by omega) cs2
  simp only [sm, thenF_nx, thenF_ret, thenF_brk, thenF_cnt, den, ofVT, ofVB, noDen, baseA, cmpD, bltD, bind_ok, ofRes_some, getV_0, getV_s, getB_0, getB_s, truth_bl, truth_int, cmp_lt, cmp_le, cmp_gt, cmp_ge, List.getElem?_cons_zero, List.getElem?_cons_succ, List.set_cons_zero, List.set_cons_succ, if_true, if_false, reduceIte, decide_true, decide_false, end_ret, end_nx, List.length_cons, List.length_nil, Nat.zero_add, Nat.reduceAdd, Nat.reduceLT, Nat.reduceLeDiff, Nat.zero_le, and_self, bin_add, r1]
  simp only [Dv.bind_assoc]
  refine wp_for (fun xs ρ cs => ∃ (ps : List (List Int)) (s4 s5 : Slot), ρ = [.val (.cell 0), .val (.int most), .val (.int top), .own (lL ps), s4, s5] ∧ xs.length + ps.length = 1 + j ∧ (∀ p ∈ ps, Pg p ∧ p ≠ []) ∧ Pn [] (b + 2 + 6 * ps.length) cs) ⟨[], .emp, .emp, rfl, by simp, by simp, hp2⟩ ?_ ?_
  · rintro x xs ρ cs3 ⟨ps, s4, s5, rfl, hl, hP, hp3⟩
    simp only [List.length_cons] at hl
    refine ⟨_, rfl, ?_⟩
    refine wp_mono (r_pgIn (k + 1) hp3 (by omega) ht ht2 (by omega)) ?_
    rintro f cs4 ⟨p, hpg, hpn, rfl, hp4⟩
    refine ⟨_, rfl, ps ++ [p], _, _, rfl, by simp; omega, ?_, ?_⟩
    · intro q hq
      rcases List.mem_append.mp hq with z | z
      · exact hP q z
      · simp at z; subst z; exact ⟨hpg, hpn⟩
    · have : b + 2 + 6 * (ps ++ [p]).length = b + 2 + 6 * ps.length + 6 := by simp; omega
      rw [this]
      exact hp4
  · rintro ρ cs3 ⟨ps, s4, s5, rfl, hl, hP, hp3⟩
    simp at hl
    simp only [sm, thenF_nx, thenF_ret, thenF_brk, thenF_cnt, den, ofVT, ofVB, noDen, baseA, cmpD, bltD, bind_ok, ofRes_some, getV_0, getV_s, getB_0, getB_s, truth_bl, truth_int, cmp_lt, cmp_le, cmp_gt, cmp_ge, List.getElem?_cons_zero, List.getElem?_cons_succ, List.set_cons_zero, List.set_cons_succ, if_true, if_false, reduceIte, decide_true, decide_false, end_ret, end_nx, List.length_cons, List.length_nil, Nat.zero_add, Nat.reduceAdd, Nat.reduceLT, Nat.reduceLeDiff, Nat.zero_le, and_self]
    exact (wp_ok _ _ _).mpr ⟨ps, rfl, ⟨hP, by omega, by omega⟩, hp3.mono (by omega)⟩
end K19
end
section
set_option Elab.async false
set_option linter.all false
set_option maxRecDepth 100000
set_option maxHeartbeats 400000
namespace K19
open PySem PySem.Spec PyProof.Rows L2 Dv
def cg2 : Sm := (.ite (.not (.call 11 (.cons (.meth 14 (.var 1) (.cons (.var 3) (.cons (.var 4) .nil))) (.cons (.bin .add (.bin .add (.slice (.var 2) .nil (.var 3)) (.lst (.cons (.var 4) .nil))) (.slice (.var 2) (.bin .add (.var 3) (.int 1)) .nil)) .nil)))) (.seq (.ret (.bl false)) .skip) .skip)
def cg3 : Sm := (.ite (.cmp .ne (.methk 14 (.var 1) .nil (.cons (.blt .tuple (.cons (.var 4) .nil)) (.cons (.var 3) .nil)) [1, 0]) (.meth 14 (.var 1) (.cons (.var 3) (.cons (.var 4) .nil)))) (.seq (.ret (.bl false)) .skip) .skip)
def cg4 : Sm := (.ite (.and (.cmp .gt (.blt .len (.cons (.var 2) .nil)) (.int 1)) (.not (.call 11 (.cons (.meth 15 (.var 1) (.cons (.var 3) .nil)) (.cons (.bin .add (.slice (.var 2) .nil (.var 3)) (.slice (.var 2) (.bin .add (.var 3) (.int 1)) .nil)) .nil))))) (.seq (.ret (.bl false)) .skip) .skip)
def cg5 : Sm := (.ret (.or (.cmp .gt (.blt .len (.cons (.var 2) .nil)) (.int 1)) (.call 11 (.cons (.meth 14 (.var 1) (.cons (.int 0) (.cons (.lst .nil) .nil))) (.cons (.lst (.cons (.lst .nil) .nil)) .nil)))))
theorem u_changed (k : Nat) (b c : Dv.D) (cs : Cells) : run T (k + 1) false 13 [.cell 0, b, c] cs = (sm T (run T k) (.seq (.par [3, 4] (.cons (.call 6 (.cons (.var 0) (.cons (.blt .len (.cons (.var 2) .nil)) .nil))) (.cons (.comp (.bin .add (.int 1) (.call 6 (.cons (.var 0) (.cons (.int 60) .nil)))) [5] true (.rng (.bin .add (.int 1) (.call 6 (.cons (.var 0) (.cons (.int 4) .nil))))) .nil) .nil))) (.seq cg2 (.seq cg3 (.seq cg4 (.seq cg5 .skip))))) [.val (.cell 0), .val b, .val c, .emp, .emp, .emp] cs).bind endF := rfl
theorem m14 (ps : List (List Int)) (cs : Cells) : methF T 14 (ch ps) cs = some 21 := rfl
theorem m15 (ps : List (List Int)) (cs : Cells) : methF T 15 (ch ps) cs = some 22 := rfl
theorem cut0 (ps : List (List Int)) (i : Nat) (hi : i < ps.length) : Dv.cutD (ps.map rL) none (some (i : Int)) = (ps.take i).map rL := by
  rw [Dv.cutD, cut_hi _ i (by simp; omega)]
  simp [List.map_take]
theorem cut1 (ps : List (List Int)) (i : Nat) (hi : i < ps.length) : Dv.cutD (ps.map rL) (some ((i : Int) + 1)) none = (ps.drop (i + 1)).map rL := by
  have := cut_lo (ps.map rL) (i + 1) (by simp; omega)
  rw [Dv.cutD]
  rw [show ((i + 1 : Nat) : Int) = (i : Int) + 1 from by omega] at this
  rw [this]
  simp [List.map_drop]
theorem add_lst (O : Orc) (xs ys : List Dv.D) (h : xs.length + ys.length ≤ sizeLine) (cs : Cells) : binD T O .add (.lst xs) (.lst ys) cs = .ok (.lst (xs ++ ys)) cs := by
  show (if _ then _ else _) = _
  rw [if_pos h]
theorem wf_with {ps : List (List Int)} (h : Dr 100 ps) {i : Nat} (hi : i < ps.length) {p : List Int} (hp : Pg p) (hn : p ≠ []) : Wf 400 (withP ps i p) := by
  have hl : (withP ps i p).length ≤ ps.length + 1 := by simp [withP]; omega
  have hall : ∀ q ∈ withP ps i p, Pg q ∧ q ≠ [] := by
    intro q hq
    rcases List.mem_append.mp hq with z | z
    · exact h.1 q (List.mem_of_mem_take z)
    · rcases List.mem_cons.mp z with rfl | z
      · exact ⟨hp, hn⟩
      · exact h.1 q (List.mem_of_mem_drop z)
  have := h.2.2
  exact ⟨fun q hq => (hall q hq).1, by simp [withP]; omega, by omega, fun _ q hq => (hall q hq).2⟩
variable {k : Nat} {ps : List (List Int)} {i : Nat} {p : List Int} {s5 : Slot} {cs : Cells}
abbrev cgR (ps : List (List Int)) (i : Nat) (p : List Int) (s5 : Slot) : Dv.Env := [.val (.cell 0), .val (ch ps), .val (lL ps), .val (.int i), .val (rL p), s5]
theorem r_cg2 (h : Dr 100 ps) (hi : i < ps.length) (hp : Pg p) (hn : p ≠ []) : sm T (run T (k + 6)) cg2 (cgR ps i p s5) cs = .ok (.nx (cgR ps i p s5)) cs := by
  have w := wf_with h hi hp hn
  have e1 : run T (k + 6) false 21 [ch ps, .int i, rL p] cs = _ := r_with (k + 1) ps (h.wf.mono (by decide)) i hi (false, p) w cs
  have e2 := r_is (k + 3) (withP ps i p) w cs
  have h3 := h.2.2
  have b1 : 1 ≤ sizeLine := by decide
  have b2 : ((ps.take i).map rL).length + [rL p].length ≤ sizeLine := Nat.le_trans (show _ ≤ 200 by simp; omega) (by decide)
  have b3 : ((ps.take i).map rL ++ [rL p]).length + ((ps.drop (i + 1)).map rL).length ≤ sizeLine := Nat.le_trans (show _ ≤ 400 by simp; omega) (by decide)
  have e3 : (ps.take i).map rL ++ [rL p] ++ (ps.drop (i + 1)).map rL = (withP ps i p).map rL := by simp [withP]
  unfold cg2
  simp only [sm, thenF_nx, thenF_ret, thenF_brk, thenF_cnt, den, ofVT, ofVB, noDen, baseA, cmpD, bltD, bind_ok, ofRes_some, getV_0, getV_s, getB_0, getB_s, truth_bl, truth_int, cmp_lt, cmp_le, cmp_gt, cmp_ge, List.getElem?_cons_zero, List.getElem?_cons_succ, List.set_cons_zero, List.set_cons_succ, if_true, if_false, reduceIte, decide_true, decide_false, end_ret, end_nx, List.length_cons, List.length_nil, Nat.zero_add, Nat.reduceAdd, Nat.reduceLT, Nat.reduceLeDiff, Nat.zero_le, and_self, m14, e1, cut0 ps i hi, cut1 ps i hi, b1, add_lst _ _ _ b2, add_lst _ _ _ b3, bin_add, e3, deref_lst]
  rw [e2]
  rfl
theorem r_cg3 (h : Dr 100 ps) (hi : i < ps.length) (hp : Pg p) (hn : p ≠ []) : sm T (run T (k + 6)) cg3 (cgR ps i p s5) cs = .ok (.nx (cgR ps i p s5)) cs := by
  have w := wf_with h hi hp hn
  have e1 : run T (k + 6) false 21 [ch ps, .int i, rL p] cs = _ := r_with (k + 1) ps (h.wf.mono (by decide)) i hi (false, p) w cs
  have e2 : run T (k + 6) false 21 [ch ps, .int i, rT p] cs = _ := r_with (k + 1) ps (h.wf.mono (by decide)) i hi (true, p) w cs
  have e3 : bTuple [rL p] cs = .ok (rT p) cs := rfl
  unfold cg3
  simp only [sm, thenF_nx, thenF_ret, thenF_brk, thenF_cnt, den, ofVT, ofVB, noDen, baseA, cmpD, bltD, bind_ok, ofRes_some, getV_0, getV_s, getB_0, getB_s, truth_bl, truth_int, cmp_lt, cmp_le, cmp_gt, cmp_ge, List.getElem?_cons_zero, List.getElem?_cons_succ, List.set_cons_zero, List.set_cons_succ, if_true, if_false, reduceIte, decide_true, decide_false, end_ret, end_nx, List.length_cons, List.length_nil, Nat.zero_add, Nat.reduceAdd, Nat.reduceLT, Nat.reduceLeDiff, Nat.zero_le, and_self, m14, e1, e2, e3, permD, eqD_ch, Bool.not_true, List.append_nil, List.nil_append]
  rfl
theorem r_cg4 (h : Dr 100 ps) (hi : i < ps.length) : sm T (run T (k + 6)) cg4 (cgR ps i p s5) cs = .ok (.nx (cgR ps i p s5)) cs := by
  have h3 := h.2.2
  unfold cg4
  by_cases hl : (1 : Int) < ((ps.map rL).length : Nat)
  · have hl' : 1 < ps.length := by simp at hl; omega
    have e1 := r_without (k + 1) ps (h.wf.mono (by decide)) i hi hl' cs
    have w : Wf 400 (woP ps i) := by
      refine ⟨fun q hq => ?_, ?_, ?_, fun _ q hq => ?_⟩
      · rcases List.mem_append.mp hq with z | z
        · exact (h.1 q (List.mem_of_mem_take z)).1
        · exact (h.1 q (List.mem_of_mem_drop z)).1
      · simp [woP]; omega
      · simp [woP]; omega
      · rcases List.mem_append.mp hq with z | z
        · exact (h.1 q (List.mem_of_mem_take z)).2
        · exact (h.1 q (List.mem_of_mem_drop z)).2
    have e2 := r_is (k + 3) (woP ps i) w cs
    have b2 : ((ps.take i).map rL).length + ((ps.drop (i + 1)).map rL).length ≤ sizeLine := Nat.le_trans (show _ ≤ 400 by simp; omega) (by decide)
    have e3 : (ps.take i).map rL ++ (ps.drop (i + 1)).map rL = (woP ps i).map rL := by simp [woP]
    simp only [sm, thenF_nx, thenF_ret, thenF_brk, thenF_cnt, den, ofVT, ofVB, noDen, baseA, cmpD, bltD, bind_ok, ofRes_some, getV_0, getV_s, getB_0, getB_s, truth_bl, truth_int, cmp_lt, cmp_le, cmp_gt, cmp_ge, List.getElem?_cons_zero, List.getElem?_cons_succ, List.set_cons_zero, List.set_cons_succ, if_true, if_false, reduceIte, decide_true, decide_false, end_ret, end_nx, List.length_cons, List.length_nil, Nat.zero_add, Nat.reduceAdd, Nat.reduceLT, Nat.reduceLeDiff, Nat.zero_le, and_self, len_l, hl, m15, e1, cut0 ps i hi, cut1 ps i hi, add_lst _ _ _ b2, bin_add, e3, deref_lst]
    rw [e2]
    rfl
  · simp only [sm, thenF_nx, thenF_ret, thenF_brk, thenF_cnt, den, ofVT, ofVB, noDen, baseA, cmpD, bltD, bind_ok, ofRes_some, getV_0, getV_s, getB_0, getB_s, truth_bl, truth_int, cmp_lt, cmp_le, cmp_gt, cmp_ge, List.getElem?_cons_zero, List.getElem?_cons_succ, List.set_cons_zero, List.set_cons_succ, if_true, if_false, reduceIte, decide_true, decide_false, end_ret, end_nx, List.length_cons, List.length_nil, Nat.zero_add, Nat.reduceAdd, Nat.reduceLT, Nat.reduceLeDiff, Nat.zero_le, and_self, len_l, hl]
    rfl
theorem wf_bare : Wf 400 [[]] := ⟨by simp [Pg], by simp, by simp, by simp⟩
theorem r_cg5 (h : Dr 100 ps) : sm T (run T (k + 6)) cg5 (cgR ps i p s5) cs = .ok (.ret (.bl true)) cs := by
  unfold cg5
  by_cases hl : (1 : Int) < ((ps.map rL).length : Nat)
  · simp only [sm, thenF_nx, thenF_ret, thenF_brk, thenF_cnt, den, ofVT, ofVB, noDen, baseA, cmpD, bltD, bind_ok, ofRes_some, getV_0, getV_s, getB_0, getB_s, truth_bl, truth_int, cmp_lt, cmp_le, cmp_gt, cmp_ge, List.getElem?_cons_zero, List.getElem?_cons_succ, List.set_cons_zero, List.set_cons_succ, if_true, if_false, reduceIte, decide_true, decide_false, end_ret, end_nx, List.length_cons, List.length_nil, Nat.zero_add, Nat.reduceAdd, Nat.reduceLT, Nat.reduceLeDiff, Nat.zero_le, and_self, len_l, hl]
  · have h1 := h.2.1
    have hl0 := hl
    simp at hl0
    have hl' : ps.length = 1 := by omega
    obtain ⟨q, rfl⟩ : ∃ q, ps = [q] := by
      cases ps with
      | nil => simp at hl'
      | cons q r => cases r with
        | nil => exact ⟨q, rfl⟩
        | cons _ _ => simp at hl'
    have e1 : run T (k + 6) false 21 [ch [q], .int 0, .lst []] cs = .ok (ch [[]]) cs := r_with (k + 1) [q] (h.wf.mono (by decide)) 0 (by simp) (false, []) wf_bare cs
    have e2 : run T (k + 6) false 11 [ch [[]], .lst [.lst []]] cs = .ok (.bl true) cs := r_is (k + 3) [[]] wf_bare cs
    have b1 : 1 ≤ sizeLine := by decide
    simp only [sm, thenF_nx, thenF_ret, thenF_brk, thenF_cnt, den, ofVT, ofVB, noDen, baseA, cmpD, bltD, bind_ok, ofRes_some, getV_0, getV_s, getB_0, getB_s, truth_bl, truth_int, cmp_lt, cmp_le, cmp_gt, cmp_ge, List.getElem?_cons_zero, List.getElem?_cons_succ, List.set_cons_zero, List.set_cons_succ, if_true, if_false, reduceIte, decide_true, decide_false, end_ret, end_nx, List.length_cons, List.length_nil, Nat.zero_add, Nat.reduceAdd, Nat.reduceLT, Nat.reduceLeDiff, Nat.zero_le, and_self, len_l, hl, m14, e1, b1, e2]
    rfl
theorem r_changed (k : Nat) {ps : List (List Int)} {b : Nat} {cs : Cells} (h : Dr 100 ps) (hp : Pn [] b cs) (hb : b < 800000) : Wp (run T (k + 7) false 13 [.cell 0, ch ps, lL ps] cs) fun d cs' => d = .bl true ∧ Pn [] (b + 6) cs' := by
  rw [u_changed]
  have h1 := h.2.1
  have h2 := h.2.2
  rw [sm_seq]
  simp only [sm, thenF_nx, thenF_ret, thenF_brk, thenF_cnt, den, ofVT, ofVB, noDen, baseA, cmpD, bltD, bind_ok, ofRes_some, getV_0, getV_s, getB_0, getB_s, truth_bl, truth_int, cmp_lt, cmp_le, cmp_gt, cmp_ge, List.getElem?_cons_zero, List.getElem?_cons_succ, List.set_cons_zero, List.set_cons_succ, if_true, if_false, reduceIte, decide_true, decide_false, end_ret, end_nx, List.length_cons, List.length_nil, Nat.zero_add, Nat.reduceAdd, Nat.reduceLT, Nat.reduceLeDiff, Nat.zero_le, and_self, len_l]
  simp only [Dv.bind_assoc, List.length_map]
  refine wp_at (r_draw (k + 5) hp (m := ps.length) (by omega) (by omega) (by omega)) ?_
  rintro _ cs1 ⟨⟨i, hi, rfl⟩, hp1⟩
  simp only [sm, thenF_nx, thenF_ret, thenF_brk, thenF_cnt, den, ofVT, ofVB, noDen, baseA, cmpD, bltD, bind_ok, ofRes_some, getV_0, getV_s, getB_0, getB_s, truth_bl, truth_int, cmp_lt, cmp_le, cmp_gt, cmp_ge, List.getElem?_cons_zero, List.getElem?_cons_succ, List.set_cons_zero, List.set_cons_succ, if_true, if_false, reduceIte, decide_true, decide_false, end_ret, end_nx, List.length_cons, List.length_nil, Nat.zero_add, Nat.reduceAdd, Nat.reduceLT, Nat.reduceLeDiff, Nat.zero_le, and_self]
  simp only [Dv.bind_assoc]
  refine wp_at (r_draw (k + 5) hp1 (m := 4) (by decide) (by decide) (by omega)) ?_
  rintro _ cs1' ⟨⟨j, hj, rfl⟩, hp1'⟩
  have r1 : rngD (.int (1 + (j : Int))) cs1' = _ := rngD_nat (1 + j) (by omega) cs1'
  simp only [sm, thenF_nx, thenF_ret, thenF_brk, thenF_cnt, den, ofVT, ofVB, noDen, baseA, cmpD, bltD, bind_ok, ofRes_some, getV_0, getV_s, getB_0, getB_s, truth_bl, truth_int, cmp_lt, cmp_le, cmp_gt, cmp_ge, List.getElem?_cons_zero, List.getElem?_cons_succ, List.set_cons_zero, List.set_cons_succ, if_true, if_false, reduceIte, decide_true, decide_false, end_ret, end_nx, List.length_cons, List.length_nil, Nat.zero_add, Nat.reduceAdd, Nat.reduceLT, Nat.reduceLeDiff, Nat.zero_le, and_self, bin_add, r1]
  simp only [Dv.bind_assoc]
  refine drawn_comp (k + 5) (top := 60) ?_ hp1' (by omega) (by decide) (by decide) hj (by decide) ?_
  · intro x cs j cs' e
    rw [show (((60 : Nat) : Int)) = 60 from rfl] at e
    simp only [sm, thenF_nx, thenF_ret, thenF_brk, thenF_cnt, den, ofVT, ofVB, noDen, baseA, cmpD, bltD, bind_ok, ofRes_some, getV_0, getV_s, getB_0, getB_s, truth_bl, truth_int, cmp_lt, cmp_le, cmp_gt, cmp_ge, List.getElem?_cons_zero, List.getElem?_cons_succ, List.set_cons_zero, List.set_cons_succ, if_true, if_false, reduceIte, decide_true, decide_false, end_ret, end_nx, List.length_cons, List.length_nil, Nat.zero_add, Nat.reduceAdd, Nat.reduceLT, Nat.reduceLeDiff, Nat.zero_le, and_self, turnD, setTg, setAll, wipeE, e, bin_add]
  · intro p cs2 q1 q2 q3 hp2
    have hpg : Pg p := ⟨by omega, q3⟩
    simp only [sm, thenF_nx, thenF_ret, thenF_brk, thenF_cnt, den, ofVT, ofVB, noDen, baseA, cmpD, bltD, bind_ok, ofRes_some, getV_0, getV_s, getB_0, getB_s, truth_bl, truth_int, cmp_lt, cmp_le, cmp_gt, cmp_ge, List.getElem?_cons_zero, List.getElem?_cons_succ, List.set_cons_zero, List.set_cons_succ, if_true, if_false, reduceIte, decide_true, decide_false, end_ret, end_nx, List.length_cons, List.length_nil, Nat.zero_add, Nat.reduceAdd, Nat.reduceLT, Nat.reduceLeDiff, Nat.zero_le, and_self, setAll]
    simp only [Dv.bind_assoc, sm_seq]
    have e2 := r_cg2 (k := k) (s5 := .emp) (cs := cs2) h hi hpg q2
    have e3 := r_cg3 (k := k) (s5 := .emp) (cs := cs2) h hi hpg q2
    have e4 := r_cg4 (k := k) (p := p) (s5 := .emp) (cs := cs2) h hi
    have e5 := r_cg5 (k := k) (p := p) (i := i) (s5 := .emp) (cs := cs2) h
    simp only [e2, e3, e4, e5, bind_ok, thenF_nx, thenF_ret, end_ret]
    exact (wp_ok _ _ _).mpr ⟨rfl, hp2.mono (by omega)⟩
end K19
end
section
set_option Elab.async false
set_option linter.all false
set_option maxRecDepth 100000
set_option maxHeartbeats 400000
namespace K19
open PySem PySem.Spec PyProof.Rows L2 Dv
def ri2 : Sm := (.ite (.or (.not (.call 11 (.cons (.bin .add (.var 4) (.var 5)) (.cons (.bin .add (.var 1) (.var 2)) .nil)))) (.or (.not (.call 11 (.cons (.inv (.var 4)) (.cons (.comp (.rev (.var 6)) [6] true (.rev (.var 1)) .nil) .nil)))) (.cmp .ne (.inv (.inv (.var 4))) (.var 4)))) (.seq (.ret (.bl false)) .skip) .skip)
def ri5 : Sm := (.ite (.or (.cmp .ne (.var 3) (.bin .add (.var 4) (.var 5))) (.or (.not (.call 11 (.cons (.bin .add (.var 4) (.new 0 (.cons (.lst .nil) .nil))) (.cons (.var 1) .nil)))) (.not (.call 11 (.cons (.bin .add (.new 0 (.cons (.tup .nil) .nil)) (.var 4)) (.cons (.var 1) .nil)))))) (.seq (.ret (.bl false)) .skip) .skip)
def ri6 : Sm := (.ite (.or (.not (.call 12 (.cons (.var 4) (.cons (.var 1) .nil)))) (.not (.call 13 (.cons (.var 0) (.cons (.var 5) (.cons (.var 2) .nil)))))) (.seq (.ret (.bl false)) .skip) .skip)
def ri7 : Sm := (.ret (.and (.call 11 (.cons (.var 4) (.cons (.var 1) .nil))) (.and (.call 11 (.cons (.var 5) (.cons (.var 2) .nil))) (.cmp .eq (.inv (.bin .add (.var 4) (.var 5))) (.bin .add (.inv (.var 5)) (.inv (.var 4)))))))
theorem u_right (k : Nat) (b c : Dv.D) (cs : Cells) : run T (k + 1) false 14 [.cell 0, b, c] cs = (sm T (run T k) (.seq (.par [4, 5] (.cons (.call 9 (.cons (.var 1) .nil)) (.cons (.call 9 (.cons (.var 2) .nil)) .nil))) (.seq ri2 (.seq (.set 3 (.var 4)) (.seq (.aug 3 .add (.var 5)) (.seq ri5 (.seq ri6 (.seq ri7 .skip))))))) [.val (.cell 0), .val b, .val c, .emp, .emp, .emp, .emp] cs).bind endF := rfl
theorem bin_ch (k : Nat) (ps qs : List (List Int)) (h1 : Wf 200 ps) (h2 : Wf 200 qs) (cs : Cells) : binD T (run T (k + 5)) .add (ch ps) (ch qs) cs = .ok (ch (addP ps qs)) cs := r_add k ps qs h1 h2 cs
theorem aug_ch (k : Nat) (ps qs : List (List Int)) (h1 : Wf 200 ps) (h2 : Wf 200 qs) (cs : Cells) : augD T (run T (k + 5)) .add (ch ps) (ch qs) cs = .ok (ch (addP ps qs)) cs := r_add k ps qs h1 h2 cs
theorem inv_ch (k : Nat) (ps : List (List Int)) (h1 : Wf 400 ps) (cs : Cells) : callM T (run T (k + 5)) nInv (ch ps) [] cs = .ok (ch (invP ps)) cs := r_inv k ps h1 cs
theorem Dr.app {n m : Nat} {ps qs : List (List Int)} (h1 : Dr n ps) (h2 : Dr m qs) : Dr (n + m) (ps ++ qs) := by
  obtain ⟨a1, b1, c1⟩ := h1
  obtain ⟨a2, b2, c2⟩ := h2
  refine ⟨fun p hp => ?_, by simp; omega, by simp; omega⟩
  rcases List.mem_append.mp hp with q | q
  · exact a1 p q
  · exact a2 p q
theorem Dr.inv {n : Nat} {ps : List (List Int)} (h : Dr n ps) : Dr n (invP ps) := by
  obtain ⟨a, b, c⟩ := h
  refine ⟨fun p hp => ?_, by simpa [invP] using b, by simpa [invP] using c⟩
  unfold invP at hp
  obtain ⟨q, hq, rfl⟩ := List.mem_map.mp hp
  have := a q (List.mem_reverse.mp hq)
  exact ⟨⟨by simpa using this.1.1, fun n hn => this.1.2 n (List.mem_reverse.mp hn)⟩, by simpa using this.2⟩
theorem Dr.mono {n m : Nat} {ps : List (List Int)} (h : Dr n ps) (i : n ≤ m) : Dr m ps := ⟨h.1, h.2.1, Nat.le_trans h.2.2 i⟩
theorem Dr.ne {n : Nat} {ps : List (List Int)} (h : Dr n ps) : ps ≠ [] := List.length_pos_iff.mp h.2.1
theorem Dr.add {n m : Nat} {ps qs : List (List Int)} (h1 : Dr n ps) (h2 : Dr m qs) : addP ps qs = ps ++ qs := addP_ne (fun p hp => (h1.1 p hp).2) (fun p hp => (h2.1 p hp).2) h1.ne
theorem filt {n : Nat} {ps : List (List Int)} (h : Dr n ps) : ps.filter (fun p => !p.isEmpty) = ps := by
  rw [List.filter_eq_self]
  intro p hp
  simpa using (h.1 p hp).2
theorem Dr.add_bare {n : Nat} {ps : List (List Int)} (h : Dr n ps) : addP ps [[]] = ps := by
  unfold addP
  rw [List.filter_append, filt h]
  simp [h.ne]
theorem Dr.bare_add {n : Nat} {ps : List (List Int)} (h : Dr n ps) : addP [[]] ps = ps := by
  unfold addP
  rw [List.filter_append, filt h]
  simp [h.ne]
theorem invP_inv (ps : List (List Int)) : invP (invP ps) = ps := by
  simp [invP, Function.comp_def]
theorem invP_app (ps qs : List (List Int)) : invP (ps ++ qs) = invP qs ++ invP ps := by simp [invP]
theorem new_l (k : Nat) (cs : Cells) : run T (k + 4) true 16 [.lst []] cs = .ok (ch [[]]) cs := r_init k [(false, [])] ⟨by simp [Pg], by simp, by simp, by simp⟩ cs
theorem new_t (k : Nat) (cs : Cells) : run T (k + 4) true 16 [.tup []] cs = .ok (ch [[]]) cs := r_init k [(true, [])] ⟨by simp [Pg], by simp, by simp, by simp⟩ cs
abbrev riR (ps qs : List (List Int)) (s3 s6 : Slot) : Dv.Env := [.val (.cell 0), .val (lL ps), .val (lL qs), s3, .val (ch ps), .val (ch qs), s6]
variable {k : Nat} {ps qs : List (List Int)} {s3 s6 : Slot} {cs : Cells}
theorem lL_app (O : Orc) (h1 : Dr 100 ps) (h2 : Dr 100 qs) (cs : Cells) : binD T O .add (lL ps) (lL qs) cs = .ok (lL (ps ++ qs)) cs := by
  have b : (ps.map rL).length + (qs.map rL).length ≤ sizeLine := Nat.le_trans (show _ ≤ 400 by have := h1.2.2; have := h2.2.2; simp; omega) (by decide)
  rw [add_lst _ _ _ b]
  simp
theorem r_ri2 (h1 : Dr 100 ps) (h2 : Dr 100 qs) : sm T (run T (k + 7)) ri2 (riR ps qs s3 s6) cs = .ok (.nx (riR ps qs s3 s6)) cs := by
  have e1 : binD T (run T (k + 7)) .add (ch ps) (ch qs) cs = _ := bin_ch (k + 2) ps qs (h1.wf.mono (by decide)) (h2.wf.mono (by decide)) cs
  rw [h1.add h2] at e1
  have e2 : run T (k + 7) false 11 [ch (ps ++ qs), lL (ps ++ qs)] cs = _ := r_is (k + 4) (ps ++ qs) ((h1.app h2).wf.mono (by decide)) cs
  have e3 : callM T (run T (k + 7)) nInv (ch ps) [] cs = _ := inv_ch (k + 2) ps (h1.wf.mono (by decide)) cs
  have e4 : callM T (run T (k + 7)) nInv (ch (invP ps)) [] cs = _ := inv_ch (k + 2) (invP ps) (h1.inv.wf.mono (by decide)) cs
  rw [invP_inv] at e4
  have e5 : run T (k + 7) false 11 [ch (invP ps), lL (invP ps)] cs = _ := r_is (k + 4) (invP ps) (h1.inv.wf.mono (by decide)) cs
  have e6 : eqD T (run T (k + 7)) (ch ps) (ch ps) cs = _ := eqD_ch (k + 6) ps cs
  unfold ri2
  simp only [sm, thenF_nx, thenF_ret, thenF_brk, thenF_cnt, den, ofVT, ofVB, noDen, baseA, cmpD, bltD, bind_ok, ofRes_some, getV_0, getV_s, getB_0, getB_s, truth_bl, truth_int, cmp_lt, cmp_le, cmp_gt, cmp_ge, List.getElem?_cons_zero, List.getElem?_cons_succ, List.set_cons_zero, List.set_cons_succ, if_true, if_false, reduceIte, decide_true, decide_false, end_ret, end_nx, List.length_cons, List.length_nil, Nat.zero_add, Nat.reduceAdd, Nat.reduceLT, Nat.reduceLeDiff, Nat.zero_le, and_self, Bool.not_true, Bool.not_false, Bool.false_eq_true, items_lst, items_tup, deref_lst, deref_tup, deref_str, deref_int, e1, lL_app, h1, h2, e2, e3]
  simp only [Dv.bind_assoc]
  refine comp_bind (fun d => match d with | .lst ds => .lst ds.reverse | d => d) (fun x hx => ?_) (by simp; exact Nat.le_trans h1.2.2 (by decide)) ?_
  · obtain ⟨p, hp, rfl⟩ := List.mem_map.mp (List.mem_reverse.mp hx)
    rfl
  · have c : (ps.map rL).reverse.map (fun d => match d with | .lst ds => .lst ds.reverse | d => d) = (invP ps).map rL := by simp [invP, Function.comp_def]
    rw [c]
    simp only [sm, thenF_nx, thenF_ret, thenF_brk, thenF_cnt, den, ofVT, ofVB, noDen, baseA, cmpD, bltD, bind_ok, ofRes_some, getV_0, getV_s, getB_0, getB_s, truth_bl, truth_int, cmp_lt, cmp_le, cmp_gt, cmp_ge, List.getElem?_cons_zero, List.getElem?_cons_succ, List.set_cons_zero, List.set_cons_succ, if_true, if_false, reduceIte, decide_true, decide_false, end_ret, end_nx, List.length_cons, List.length_nil, Nat.zero_add, Nat.reduceAdd, Nat.reduceLT, Nat.reduceLeDiff, Nat.zero_le, and_self, Bool.not_true, Bool.not_false, Bool.false_eq_true, items_lst, items_tup, deref_lst, deref_tup, deref_str, deref_int, e3, e4, e5, e6]
theorem r_ri5 (h1 : Dr 100 ps) (h2 : Dr 100 qs) : sm T (run T (k + 7)) ri5 (riR ps qs (.val (ch (ps ++ qs))) s6) cs = .ok (.nx (riR ps qs (.val (ch (ps ++ qs))) s6)) cs := by
  have e1 : binD T (run T (k + 7)) .add (ch ps) (ch qs) cs = _ := bin_ch (k + 2) ps qs (h1.wf.mono (by decide)) (h2.wf.mono (by decide)) cs
  rw [h1.add h2] at e1
  have e2 : binD T (run T (k + 7)) .add (ch ps) (ch [[]]) cs = _ := bin_ch (k + 2) ps [[]] (h1.wf.mono (by decide)) ⟨by simp [Pg], by simp, by simp, by simp⟩ cs
  rw [h1.add_bare] at e2
  have e3 : binD T (run T (k + 7)) .add (ch [[]]) (ch ps) cs = _ := bin_ch (k + 2) [[]] ps ⟨by simp [Pg], by simp, by simp, by simp⟩ (h1.wf.mono (by decide)) cs
  rw [h1.bare_add] at e3
  have e4 : eqD T (run T (k + 7)) (ch (ps ++ qs)) (ch (ps ++ qs)) cs = _ := eqD_ch (k + 6) _ cs
  have e5 : run T (k + 7) false 11 [ch ps, lL ps] cs = _ := r_is (k + 4) ps (h1.wf.mono (by decide)) cs
  have e6 : run T (k + 7) true 16 [.lst []] cs = _ := new_l (k + 3) cs
  have e7 : run T (k + 7) true 16 [.tup []] cs = _ := new_t (k + 3) cs
  unfold ri5
  simp only [sm, thenF_nx, thenF_ret, thenF_brk, thenF_cnt, den, ofVT, ofVB, noDen, baseA, cmpD, bltD, bind_ok, ofRes_some, getV_0, getV_s, getB_0, getB_s, truth_bl, truth_int, cmp_lt, cmp_le, cmp_gt, cmp_ge, List.getElem?_cons_zero, List.getElem?_cons_succ, List.set_cons_zero, List.set_cons_succ, if_true, if_false, reduceIte, decide_true, decide_false, end_ret, end_nx, List.length_cons, List.length_nil, Nat.zero_add, Nat.reduceAdd, Nat.reduceLT, Nat.reduceLeDiff, Nat.zero_le, and_self, Bool.not_true, Bool.not_false, Bool.false_eq_true, items_lst, items_tup, deref_lst, deref_tup, deref_str, deref_int, e1, tc0, e2, e3, e4, e5, e6, e7]
theorem r_ri6 (h1 : Dr 100 ps) (h2 : Dr 100 qs) {b : Nat} (hp : Pn [] b cs) (hb : b < 800000) : Wp (sm T (run T (k + 7)) ri6 (riR ps qs s3 s6) cs) fun f cs' => f = .nx (riR ps qs s3 s6) ∧ Pn [] (b + 6) cs' := by
  have e1 := r_parts k ps h1 cs
  obtain ⟨_, cs', e2, rfl, hp'⟩ := r_changed k h2 hp hb
  unfold ri6
  simp only [sm, thenF_nx, thenF_ret, thenF_brk, thenF_cnt, den, ofVT, ofVB, noDen, baseA, cmpD, bltD, bind_ok, ofRes_some, getV_0, getV_s, getB_0, getB_s, truth_bl, truth_int, cmp_lt, cmp_le, cmp_gt, cmp_ge, List.getElem?_cons_zero, List.getElem?_cons_succ, List.set_cons_zero, List.set_cons_succ, if_true, if_false, reduceIte, decide_true, decide_false, end_ret, end_nx, List.length_cons, List.length_nil, Nat.zero_add, Nat.reduceAdd, Nat.reduceLT, Nat.reduceLeDiff, Nat.zero_le, and_self, Bool.not_true, Bool.not_false, Bool.false_eq_true, items_lst, items_tup, deref_lst, deref_tup, deref_str, deref_int, e1, e2]
  exact (wp_ok _ _ _).mpr ⟨rfl, hp'⟩
theorem r_ri7 (h1 : Dr 100 ps) (h2 : Dr 100 qs) : sm T (run T (k + 7)) ri7 (riR ps qs s3 s6) cs = .ok (.ret (.bl true)) cs := by
  have e1 : binD T (run T (k + 7)) .add (ch ps) (ch qs) cs = _ := bin_ch (k + 2) ps qs (h1.wf.mono (by decide)) (h2.wf.mono (by decide)) cs
  rw [h1.add h2] at e1
  have e2 : run T (k + 7) false 11 [ch ps, lL ps] cs = _ := r_is (k + 4) ps (h1.wf.mono (by decide)) cs
  have e3 : run T (k + 7) false 11 [ch qs, lL qs] cs = _ := r_is (k + 4) qs (h2.wf.mono (by decide)) cs
  have e4 : callM T (run T (k + 7)) nInv (ch ps) [] cs = _ := inv_ch (k + 2) ps (h1.wf.mono (by decide)) cs
  have e5 : callM T (run T (k + 7)) nInv (ch qs) [] cs = _ := inv_ch (k + 2) qs (h2.wf.mono (by decide)) cs
  have e6 : callM T (run T (k + 7)) nInv (ch (ps ++ qs)) [] cs = _ := inv_ch (k + 2) (ps ++ qs) ((h1.app h2).wf.mono (by decide)) cs
  rw [invP_app] at e6
  have e7 : binD T (run T (k + 7)) .add (ch (invP qs)) (ch (invP ps)) cs = _ := bin_ch (k + 2) _ _ (h2.inv.wf.mono (by decide)) (h1.inv.wf.mono (by decide)) cs
  rw [h2.inv.add h1.inv] at e7
  have e8 : eqD T (run T (k + 7)) (ch (invP qs ++ invP ps)) (ch (invP qs ++ invP ps)) cs = _ := eqD_ch (k + 6) _ cs
  unfold ri7
  simp only [sm, thenF_nx, thenF_ret, thenF_brk, thenF_cnt, den, ofVT, ofVB, noDen, baseA, cmpD, bltD, bind_ok, ofRes_some, getV_0, getV_s, getB_0, getB_s, truth_bl, truth_int, cmp_lt, cmp_le, cmp_gt, cmp_ge, List.getElem?_cons_zero, List.getElem?_cons_succ, List.set_cons_zero, List.set_cons_succ, if_true, if_false, reduceIte, decide_true, decide_false, end_ret, end_nx, List.length_cons, List.length_nil, Nat.zero_add, Nat.reduceAdd, Nat.reduceLT, Nat.reduceLeDiff, Nat.zero_le, and_self, Bool.not_true, Bool.not_false, Bool.false_eq_true, items_lst, items_tup, deref_lst, deref_tup, deref_str, deref_int, e1, e2, e3, e4, e5, e6, e7, e8]
theorem r_right (k : Nat) {ps qs : List (List Int)} {b : Nat} {cs : Cells} (h1 : Dr 100 ps) (h2 : Dr 100 qs) (hp : Pn [] b cs) (hb : b < 800000) : Wp (run T (k + 8) false 14 [.cell 0, lL ps, lL qs] cs) fun d cs' => d = .bl true ∧ Pn [] (b + 6) cs' := by
  rw [u_right]
  have m1 : run T (k + 7) false 9 [lL ps] cs = _ := r_made (k + 1) ps h1 cs
  have m2 : run T (k + 7) false 9 [lL qs] cs = _ := r_made (k + 1) qs h2 cs
  have m3 : augD T (run T (k + 7)) .add (ch ps) (ch qs) cs = _ := aug_ch (k + 2) ps qs (h1.wf.mono (by decide)) (h2.wf.mono (by decide)) cs
  rw [h1.add h2] at m3
  rw [sm_seq]
  simp only [sm, thenF_nx, thenF_ret, thenF_brk, thenF_cnt, den, ofVT, ofVB, noDen, baseA, cmpD, bltD, bind_ok, ofRes_some, getV_0, getV_s, getB_0, getB_s, truth_bl, truth_int, cmp_lt, cmp_le, cmp_gt, cmp_ge, List.getElem?_cons_zero, List.getElem?_cons_succ, List.set_cons_zero, List.set_cons_succ, if_true, if_false, reduceIte, decide_true, decide_false, end_ret, end_nx, List.length_cons, List.length_nil, Nat.zero_add, Nat.reduceAdd, Nat.reduceLT, Nat.reduceLeDiff, Nat.zero_le, and_self, m1, m2, setAll]
  have r2 := r_ri2 (k := k) (s3 := .emp) (s6 := .emp) (cs := cs) h1 h2
  have r5 := r_ri5 (k := k) (s6 := .emp) (cs := cs) h1 h2
  obtain ⟨_, cs', r6, rfl, hp'⟩ := r_ri6 (k := k) (s3 := .val (ch (ps ++ qs))) (s6 := .emp) h1 h2 hp hb
  have r7 := r_ri7 (k := k) (s3 := .val (ch (ps ++ qs))) (s6 := .emp) (cs := cs') h1 h2
  simp only [sm, thenF_nx, thenF_ret, thenF_brk, thenF_cnt, den, ofVT, ofVB, noDen, baseA, cmpD, bltD, bind_ok, ofRes_some, getV_0, getV_s, getB_0, getB_s, truth_bl, truth_int, cmp_lt, cmp_le, cmp_gt, cmp_ge, List.getElem?_cons_zero, List.getElem?_cons_succ, List.set_cons_zero, List.set_cons_succ, if_true, if_false, reduceIte, decide_true, decide_false, end_ret, end_nx, List.length_cons, List.length_nil, Nat.zero_add, Nat.reduceAdd, Nat.reduceLT, Nat.reduceLeDiff, Nat.zero_le, and_self, Bool.not_true, Bool.not_false, Bool.false_eq_true, items_lst, items_tup, deref_lst, deref_tup, deref_str, deref_int, r2, m3, r5, r6, r7]
  exact (wp_ok _ _ _).mpr ⟨rfl, hp'⟩
end K19
end
section
set_option Elab.async false
set_option linter.all false
set_option maxRecDepth 100000
set_option maxHeartbeats 400000
namespace K19
open PySem PySem.Spec PyProof.Rows L2 Dv
theorem u_pen (k : Nat) (a : Dv.D) (cs : Cells) : run T (k + 1) false 5 [a] cs = (sm T (run T k) f_law_pen.body [.val a] cs).bind endF := rfl
theorem r_pen (k : Nat) (ns : List Int) (h : ns.length ≤ 63) : ∃ cs', run T (k + 1) false 5 [.scr (ns.map .int)] [] = .ok (.cell 0) cs' ∧ Pn [] 0 cs' := by
  rw [u_pen]
  have e : Dv.cutD (ns.map D.int) none (some 63) = ns.map D.int := by
    unfold Dv.cutD cutG
    rw [show HT.sIx (ns.map D.int).length 0 none = 0 from rfl]
    simp only [List.drop_zero, Nat.sub_zero]
    refine List.take_of_length_le ?_
    rw [show (some (63 : Int)) = some ((63 : Nat) : Int) from rfl, HT.sIx_nat]
    simp
    omega
  have b3 : 3 ≤ sizeLine := by decide
  unfold f_law_pen
  simp only [sm, thenF_nx, thenF_ret, thenF_brk, thenF_cnt, den, ofVT, ofVB, noDen, baseA, cmpD, bltD, bind_ok, ofRes_some, getV_0, getV_s, getB_0, getB_s, truth_bl, truth_int, cmp_lt, cmp_le, cmp_gt, cmp_ge, List.getElem?_cons_zero, List.getElem?_cons_succ, List.set_cons_zero, List.set_cons_succ, if_true, if_false, reduceIte, decide_true, decide_false, end_ret, end_nx, List.length_cons, List.length_nil, Nat.zero_add, Nat.reduceAdd, Nat.reduceLT, Nat.reduceLeDiff, Nat.zero_le, and_self, Bool.not_true, Bool.not_false, Bool.false_eq_true, items_lst, items_tup, deref_lst, deref_tup, deref_str, deref_int, show ∀ cs, deref (.scr (ns.map D.int)) cs = .scr (ns.map D.int) from fun _ => rfl, e, bList, seqOf, b3, Option.map]
  exact ⟨_, rfl, ns, 0, 0, rfl, by decide, by decide⟩
def laIn : Sm := (.seq (.ite (.not (.call 14 (.cons (.var 1) (.cons (.call 8 (.cons (.var 1) (.cons (.int 5) .nil))) (.cons (.call 8 (.cons (.var 1) (.cons (.int 4) .nil))) .nil))))) (.seq (.ret (.bl false)) .skip) .skip) .skip)
def laEnd : Sm := (.seq (.set 3 (.new 0 (.cons (.lst .nil) .nil))) (.seq (.ret (.and (.cmp .eq (.bin .add (.var 3) (.var 3)) (.var 3)) (.and (.cmp .eq (.inv (.var 3)) (.var 3)) (.and (.cmp .eq (.meth 13 (.var 3) (.cons (.int 0) (.cons (.int 1) .nil))) (.var 3)) (.cmp .eq (.meth 14 (.new 0 (.cons (.lst (.cons (.int 5) .nil)) .nil)) (.cons (.int 0) (.cons (.tup .nil) .nil))) (.var 3)))))) .skip))
theorem u_law (k : Nat) (a : Dv.D) (cs : Cells) : run T (k + 1) false 15 [a] cs = (sm T (run T k) (.seq (.set 1 (.call 5 (.cons (.var 0) .nil))) (.seq (.for_ [2] true (.rng (.int 6)) laIn) laEnd)) [.val a, .emp, .emp, .emp] cs).bind endF := rfl
variable {k : Nat} {a : Dv.D} {s2 s3 : Slot} {cs : Cells}
theorem r_laIn {b : Nat} (hp : Pn [] b cs) (hb : b < 700000) : Wp (sm T (run T (k + 8)) laIn [.val a, .val (.cell 0), s2, s3] cs) fun f cs' => f = .nx [.val a, .val (.cell 0), s2, s3] ∧ Pn [] (b + 70) cs' := by
  unfold laIn
  simp only [sm, thenF_nx, thenF_ret, thenF_brk, thenF_cnt, den, ofVT, ofVB, noDen, baseA, cmpD, bltD, bind_ok, ofRes_some, getV_0, getV_s, getB_0, getB_s, truth_bl, truth_int, cmp_lt, cmp_le, cmp_gt, cmp_ge, List.getElem?_cons_zero, List.getElem?_cons_succ, List.set_cons_zero, List.set_cons_succ, if_true, if_false, reduceIte, decide_true, decide_false, end_ret, end_nx, List.length_cons, List.length_nil, Nat.zero_add, Nat.reduceAdd, Nat.reduceLT, Nat.reduceLeDiff, Nat.zero_le, and_self, Bool.not_true, Bool.not_false, Bool.false_eq_true, items_lst, items_tup, deref_lst, deref_tup, deref_str, deref_int]
  simp only [Dv.bind_assoc]
  refine wp_at (r_pages (k + 5) hp (most := 5) (by omega) (by decide) (by decide)) ?_
  rintro _ cs1 ⟨ps, rfl, d1, hp1⟩
  simp only [sm, thenF_nx, thenF_ret, thenF_brk, thenF_cnt, den, ofVT, ofVB, noDen, baseA, cmpD, bltD, bind_ok, ofRes_some, getV_0, getV_s, getB_0, getB_s, truth_bl, truth_int, cmp_lt, cmp_le, cmp_gt, cmp_ge, List.getElem?_cons_zero, List.getElem?_cons_succ, List.set_cons_zero, List.set_cons_succ, if_true, if_false, reduceIte, decide_true, decide_false, end_ret, end_nx, List.length_cons, List.length_nil, Nat.zero_add, Nat.reduceAdd, Nat.reduceLT, Nat.reduceLeDiff, Nat.zero_le, and_self, Bool.not_true, Bool.not_false, Bool.false_eq_true, items_lst, items_tup, deref_lst, deref_tup, deref_str, deref_int]
  simp only [Dv.bind_assoc]
  refine wp_at (r_pages (k + 5) hp1 (most := 4) (by omega) (by decide) (by decide)) ?_
  rintro _ cs2 ⟨qs, rfl, d2, hp2⟩
  simp only [sm, thenF_nx, thenF_ret, thenF_brk, thenF_cnt, den, ofVT, ofVB, noDen, baseA, cmpD, bltD, bind_ok, ofRes_some, getV_0, getV_s, getB_0, getB_s, truth_bl, truth_int, cmp_lt, cmp_le, cmp_gt, cmp_ge, List.getElem?_cons_zero, List.getElem?_cons_succ, List.set_cons_zero, List.set_cons_succ, if_true, if_false, reduceIte, decide_true, decide_false, end_ret, end_nx, List.length_cons, List.length_nil, Nat.zero_add, Nat.reduceAdd, Nat.reduceLT, Nat.reduceLeDiff, Nat.zero_le, and_self, Bool.not_true, Bool.not_false, Bool.false_eq_true, items_lst, items_tup, deref_lst, deref_tup, deref_str, deref_int]
  simp only [Dv.bind_assoc]
  refine wp_at (r_right k d1 d2 hp2 (by omega)) ?_
  rintro _ cs3 ⟨rfl, hp3⟩
  simp only [sm, thenF_nx, thenF_ret, thenF_brk, thenF_cnt, den, ofVT, ofVB, noDen, baseA, cmpD, bltD, bind_ok, ofRes_some, getV_0, getV_s, getB_0, getB_s, truth_bl, truth_int, cmp_lt, cmp_le, cmp_gt, cmp_ge, List.getElem?_cons_zero, List.getElem?_cons_succ, List.set_cons_zero, List.set_cons_succ, if_true, if_false, reduceIte, decide_true, decide_false, end_ret, end_nx, List.length_cons, List.length_nil, Nat.zero_add, Nat.reduceAdd, Nat.reduceLT, Nat.reduceLeDiff, Nat.zero_le, and_self, Bool.not_true, Bool.not_false, Bool.false_eq_true, items_lst, items_tup, deref_lst, deref_tup, deref_str, deref_int]
  exact (wp_ok _ _ _).mpr ⟨rfl, hp3.mono (by omega)⟩
theorem r_laEnd : sm T (run T (k + 8)) laEnd [.val a, .val (.cell 0), s2, s3] cs = .ok (.ret (.bl true)) cs := by
  have wb : ∀ n, 1 ≤ n → Wf n [[]] := fun n h => ⟨by simp [Pg], by simp, by simpa using h, by simp⟩
  have e1 : run T (k + 8) true 16 [.lst []] cs = _ := new_l (k + 4) cs
  have e2 : binD T (run T (k + 8)) .add (ch [[]]) (ch [[]]) cs = .ok (ch [[]]) cs := bin_ch (k + 3) [[]] [[]] (wb _ (by decide)) (wb _ (by decide)) cs
  have e3 : callM T (run T (k + 8)) nInv (ch [[]]) [] cs = .ok (ch [[]]) cs := inv_ch (k + 3) [[]] (wb _ (by decide)) cs
  have e4 : run T (k + 8) false 17 [ch [[]], .int 0, .int 1] cs = .ok (ch [[]]) cs := r_stretch (k + 3) [[]] (wb _ (by decide)) 0 1 (by decide) (by decide) cs
  have e5 : run T (k + 8) true 16 [.lst [.int 5]] cs = .ok (ch [[5]]) cs := r_init (k + 4) [(false, [5])] ⟨by simp [Pg], by simp, by simp, by simp⟩ cs
  have e6 : run T (k + 8) false 21 [ch [[5]], .int 0, .tup []] cs = .ok (ch [[]]) cs := r_with (k + 3) [[5]] ⟨by simp [Pg], by simp, by simp, by simp⟩ 0 (by simp) (true, []) (wb _ (by decide)) cs
  have e7 : eqD T (run T (k + 8)) (ch [[]]) (ch [[]]) cs = _ := eqD_ch (k + 7) _ cs
  have b1 : 1 ≤ sizeLine := by decide
  unfold laEnd
  simp only [sm, thenF_nx, thenF_ret, thenF_brk, thenF_cnt, den, ofVT, ofVB, noDen, baseA, cmpD, bltD, bind_ok, ofRes_some, getV_0, getV_s, getB_0, getB_s, truth_bl, truth_int, cmp_lt, cmp_le, cmp_gt, cmp_ge, List.getElem?_cons_zero, List.getElem?_cons_succ, List.set_cons_zero, List.set_cons_succ, if_true, if_false, reduceIte, decide_true, decide_false, end_ret, end_nx, List.length_cons, List.length_nil, Nat.zero_add, Nat.reduceAdd, Nat.reduceLT, Nat.reduceLeDiff, Nat.zero_le, and_self, Bool.not_true, Bool.not_false, Bool.false_eq_true, items_lst, items_tup, deref_lst, deref_tup, deref_str, deref_int, e1, tc0, e2, e3, m13, m14, e4, b1, e5, e6, e7]
theorem plain (ns : List Int) (h : ns.length ≤ 63) : ∃ cs, Dv.run T (9 + 1) false 15 [.scr (ns.map .int)] [] = .ok (.bl true) cs := by
  rw [u_law]
  obtain ⟨cs1, e, hp⟩ := r_pen 8 ns h
  have r6 : rngD (.int 6) cs1 = _ := rngD_nat 6 (by decide) cs1
  simp only [sm, thenF_nx, thenF_ret, thenF_brk, thenF_cnt, den, ofVT, ofVB, noDen, baseA, cmpD, bltD, bind_ok, ofRes_some, getV_0, getV_s, getB_0, getB_s, truth_bl, truth_int, cmp_lt, cmp_le, cmp_gt, cmp_ge, List.getElem?_cons_zero, List.getElem?_cons_succ, List.set_cons_zero, List.set_cons_succ, if_true, if_false, reduceIte, decide_true, decide_false, end_ret, end_nx, List.length_cons, List.length_nil, Nat.zero_add, Nat.reduceAdd, Nat.reduceLT, Nat.reduceLeDiff, Nat.zero_le, and_self, Bool.not_true, Bool.not_false, Bool.false_eq_true, items_lst, items_tup, deref_lst, deref_tup, deref_str, deref_int, e, r6]
  have W : Wp ((forF (fun ρ cs => sm T (Dv.run T 9) laIn ρ cs) [2] true ((List.range 6).map fun (i : Nat) => Dv.D.int (i : Int)) [.val (.scr (ns.map .int)), .val (.cell 0), .emp, .emp] cs1).bind (thenF fun ρ cs => sm T (run T 9) laEnd ρ cs)) fun f cs => f = .ret (.bl true) := by
    refine wp_for (fun xs ρ cs => ∃ (m : Nat) (s2 s3 : Slot), ρ = [.val (.scr (ns.map .int)), .val (.cell 0), s2, s3] ∧ xs.length + m = 6 ∧ Pn [] (70 * m) cs) ⟨0, .emp, .emp, rfl, by simp, hp⟩ ?_ ?_
    · rintro x xs ρ cs ⟨m, s2, s3, rfl, hl, hp⟩
      simp only [List.length_cons] at hl
      refine ⟨_, rfl, ?_⟩
      refine wp_mono (r_laIn (k := 1) hp (by omega)) ?_
      rintro f cs' ⟨rfl, hp'⟩
      exact ⟨_, rfl, m + 1, _, _, rfl, by omega, hp'⟩
    · rintro ρ cs ⟨m, s2, s3, rfl, hl, hp⟩
      have := r_laEnd (k := 1) (a := .scr (ns.map .int)) (s2 := s2) (s3 := s3) (cs := cs)
      show Wp (sm T (run T 9) laEnd _ cs) _
      rw [this]
      exact (wp_ok _ _ _).mpr rfl
  obtain ⟨f, cs2, e2, rfl⟩ := W
  refine ⟨cs2, ?_⟩
  have := congrArg (fun r => r.bind endF) e2
  exact this
end K19
end
theorem PySem.Challenge.cw_pagefloor_k19_whole_chains_put_together_holds : PySem.Challenge.rw_pagefloor_k19_whole_chains_put_together.Holds :=
  K19.fin K19.plain
