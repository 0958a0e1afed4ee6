import PyProof.Rows.All
import Wide.All
import OpenK.AllK
import Wide.FinOn
import KE.GoesEnum
import HandS.Base
import HandS.Call
import HandS.List
import HandS.Hot
import HandS.HotCalls
import HandS.ForMost
import HandS.ForExc
import HandS.Codes
import HandS.Property
import HandS.Evl
import HandS.Deep
import HandS.TryOnly
import HandS.Conv
import HandS.IsInst
import HandS.Dict
import HandS.HeadHook1
import HandS.HeadHook2
import HandS.HeadHook3
import HandS.HeadHook4
import HandS.Defaults
import OpenK.KOps
import HandS.Zip
import HandS.MakeKwOnly
import HandS.TupMul
import HandS.Star
import KE.KWithOwn
import HandS.Finally
import HandS.ExcCtx
import HandS.Lambda
import HandS.Nested
import HandS.ExcBuiltin
import KE.KExcSuper
import HandS.ExcInit
import HandS.TupLe
import HandS.Head0
import HandS.Head1
import HandS.Head2
import HandS.HeadEnd
import HandS.HeadWalk
import HandS.EndTab
import Lean
import PySem.Challenge.RW_lapnumbers_k36_whole_live
set_option Elab.async false
set_option linter.all false
set_option maxRecDepth 100000
set_option maxHeartbeats 4000000
/-! Iterators that end while an exception is handled whose own context is None. -/
namespace LNa
open PySem PySem.Spec PyProof.Rows HotX
/-- the record of the handled exception: its context is None -/
def HotH (x1 : Addr) (h : Heap) : Prop := ∃ (o : Obj) (vs : Array Value), h.get? x1 = some o ∧ o.data = .fields vs ∧ vs[2]? = some .none
theorem HotH.mono {x1 : Addr} {h h' : Heap} (t : HotH x1 h) (k : ∀ o, h.get? x1 = some o → h'.get? x1 = some o) : HotH x1 h' := by
  obtain ⟨o, vs, e, r⟩ := t
  exact ⟨o, vs, k o e, r⟩
/-- nothing is handled, or such an exception -/
def WmAt (A : Around) (h : Heap) : Prop := A.handled = none ∨ ∃ x1, A.handled = some (.ref x1) ∧ HotH x1 h
section
variable {prog : Program} {w : World} {A : Around} {E : Value → Shared → Prop} {s : Shared}
theorem stop_hot {α : Type} {x1 : Addr} {Q : α → Shared → Prop} (hh : A.handled = some (.ref x1)) (hot : HotH x1 s.heap)
    (hE : ∀ (h' : Heap) (e : Addr), (∀ b o, s.heap.get? b = some o → h'.get? b = some o) → (∃ o, h'.get? e = some o ∧ o.cls = .type "StopIteration") → E (.ref e) { s with heap := h' }) :
    wpAny (model prog w) A (newExc (.type "StopIteration") [] >>= fun e => (raiseNew e : Sem α)) Q E s := by
  obtain ⟨o1, vs1, h1, d1, c1⟩ := hot
  refine wpAny_bind ?_
  simp only [newExc, newTuple]
  refine wpAny_bind (wpAny_newObj_type ?_ (by size_fits))
  refine wpAny_bind (m := firstArgMember _ _) (wpAny_of_eq (a := Value.none) (by first | rfl | (simp only [firstArgMember]; rfl)) ?_)
  refine wpAny_newObj_type ?_ (by size_fits)
  have old := Heap.get?_push_of_some { cls := .type "tuple", data := .seq ([] : List Value).toArray } h1
  refine raiseNew_hot ⟨hh, o1, vs1, Heap.get?_push_of_some _ old, d1, c1⟩ (Nat.ne_of_lt (Heap.lt_size old)) (Heap.get?_push_size _ rfl) rfl (by first | (simp; done) | (simp; omega) | (simp only [Array.size_append]; simp; omega)) ?_
  refine hE _ _ (fun b o q => ?_) ⟨_, Heap.get?_update_self _ (Heap.get?_push_size _ rfl) rfl, rfl⟩
  have q2 := Heap.get?_push_of_some { cls := .type "tuple", data := .seq ([] : List Value).toArray } q
  rw [Heap.get?_update_other _ _ (Nat.ne_of_gt (Heap.lt_size q2))]
  exact Heap.get?_push_of_some _ q2
/-- two fields: no exception's record -/
theorem HotH.apart {x1 it : Addr} {h : Heap} {o : Obj} {a b : Value} (t : HotH x1 h) (ho : h.get? it = some o) (hd : o.data = .fields #[a, b]) : x1 ≠ it := by
  rintro rfl
  obtain ⟨o2, vs, e, d, c⟩ := t
  rw [ho] at e
  cases e
  rw [hd] at d
  cases d
  simp at c
theorem list_end_hot {it l x1 : Addr} {i : Nat} {items : Array Value} {Q : Option Value → Shared → Prop} (hh : A.handled = some (.ref x1)) (hot : HotH x1 s.heap)
    (hit : s.heap.IsListIter it l i) (hl : s.heap.IsList l items) (hx : items[i]? = none)
    (hQ : ∀ h', Heap.ExtBut it s.heap h' → Q none { s with heap := h' }) : wpAny (model prog w) A (pyNext (.ref it)) Q E s := by
  obtain ⟨o, ho, hc, hd⟩ := id hit
  obtain ⟨ol, hol, _, nl, hdl⟩ := hl
  have ne := hot.apart ho hd
  unfold pyNext
  refine wpAny_bind (wpAny_attempt (wpAny_callSpecial?_slot (name := Str.ofString "__next__") hit.typeIs slot_listiter_next
    (wpAny_call_entry slot_listiter_next hit.typeIs entry_listiter_next ?_ (args_listiter_next _))))
  show wpAny _ _ (field (.ref it) 0 >>= _) _ _ s
  refine wpAny_bind (wpAny_field ho hd (x := .ref l) rfl ?_)
  show wpAny _ _ (if (Value.ref l == Value.none) = true then _ else _) _ _ s
  rw [if_neg (show ¬ ((Value.ref l == Value.none) = true) from Bool.false_ne_true)]
  show wpAny _ _ (field (.ref it) 1 >>= _) _ _ s
  refine wpAny_bind (wpAny_field ho hd (x := .int i 0) rfl ?_)
  show wpAny _ _ (seqItems? (.ref l) >>= _) _ _ s
  refine wpAny_bind (wpAny_seqItems hol hdl ?_)
  simp only [Int.toNat_natCast, hx]
  refine wpAny_bind (wpAny_rule (wpAny_bind (wpAny_setField ho hd (by simp) ?_)))
  refine stop_hot hh (hot.mono fun o q => (Heap.get?_update_other _ _ ne.symm).trans q) fun h' e k hs => ?_
  obtain ⟨oe, e1, e2⟩ := hs
  refine wpAny_bind (wpAny_isInstance (T := "StopIteration") (b := true) ⟨oe, e1, e2⟩ isSubtype_stop ?_)
  exact wpAny_pure (hQ _ fun b ob hb q => k b ob ((Heap.get?_update_other _ _ (Ne.symm hb)).trans q))
theorem tuple_end_hot {it t x1 : Addr} {i : Nat} {items : Array Value} {Q : Option Value → Shared → Prop} (hh : A.handled = some (.ref x1)) (hot : HotH x1 s.heap)
    (hit : s.heap.IsTupleIter it t i) (ht : s.heap.IsTuple t items) (hx : items[i]? = none)
    (hQ : ∀ h', Heap.ExtBut it s.heap h' → Q none { s with heap := h' }) : wpAny (model prog w) A (pyNext (.ref it)) Q E s := by
  obtain ⟨o, ho, hc, hd⟩ := id hit
  obtain ⟨ol, hol, _, nl, hdl⟩ := ht
  have ne := hot.apart ho hd
  unfold pyNext
  refine wpAny_bind (wpAny_attempt (wpAny_callSpecial?_slot (name := Str.ofString "__next__") hit.typeIs F.slot_tuple_iterator_next
    (wpAny_call_entry F.slot_tuple_iterator_next hit.typeIs F.entry_tuple_iterator_next ?_ (F.args_tuple_iterator_next_1 _))))
  show wpAny _ _ (field (.ref it) 0 >>= _) _ _ s
  refine wpAny_bind (wpAny_field ho hd (x := .ref t) rfl ?_)
  show wpAny _ _ (if (Value.ref t == Value.none) = true then _ else _) _ _ s
  rw [if_neg (show ¬ ((Value.ref t == Value.none) = true) from Bool.false_ne_true)]
  show wpAny _ _ (field (.ref it) 1 >>= _) _ _ s
  refine wpAny_bind (wpAny_field ho hd (x := .int i 0) rfl ?_)
  show wpAny _ _ (seqItems? (.ref t) >>= _) _ _ s
  refine wpAny_bind (wpAny_seqItems hol hdl ?_)
  simp only [Int.toNat_natCast, hx]
  refine wpAny_bind (wpAny_rule (wpAny_bind (wpAny_setField ho hd (by simp) ?_)))
  refine stop_hot hh (hot.mono fun o q => (Heap.get?_update_other _ _ ne.symm).trans q) fun h' e k hs => ?_
  obtain ⟨oe, e1, e2⟩ := hs
  refine wpAny_bind (wpAny_isInstance (T := "StopIteration") (b := true) ⟨oe, e1, e2⟩ isSubtype_stop ?_)
  exact wpAny_pure (hQ _ fun b ob hb q => k b ob ((Heap.get?_update_other _ _ (Ne.symm hb)).trans q))
theorem nextOf_list_end_hot {it l x1 : Addr} {i : Nat} {items : Array Value} {Q : Value → Shared → Prop} (hh : A.handled = some (.ref x1)) (hot : HotH x1 s.heap)
    (hit : s.heap.IsListIter it l i) (hl : s.heap.IsList l items) (hx : items[i]? = none)
    (hE : ∀ h' e, Heap.ExtBut it s.heap h' → (∃ o, h'.get? e = some o ∧ o.cls = .type "StopIteration") → E (.ref e) { s with heap := h' }) :
    wpAny (model prog w) A (Builtin.SmallTypes.nextOf (.ref it)) Q E s := by
  obtain ⟨o, ho, hc, hd⟩ := id hit
  obtain ⟨ol, hol, _, nl, hdl⟩ := hl
  have ne := hot.apart ho hd
  unfold Builtin.SmallTypes.nextOf
  refine wpAny_bind (wpAny_callSpecial?_slot (name := Str.ofString "__next__") hit.typeIs slot_listiter_next
    (wpAny_call_entry slot_listiter_next hit.typeIs entry_listiter_next ?_ (args_listiter_next _)))
  show wpAny _ _ (field (.ref it) 0 >>= _) _ _ s
  refine wpAny_bind (wpAny_field ho hd (x := .ref l) rfl ?_)
  show wpAny _ _ (if (Value.ref l == Value.none) = true then _ else _) _ _ s
  rw [if_neg (show ¬ ((Value.ref l == Value.none) = true) from Bool.false_ne_true)]
  show wpAny _ _ (field (.ref it) 1 >>= _) _ _ s
  refine wpAny_bind (wpAny_field ho hd (x := .int i 0) rfl ?_)
  show wpAny _ _ (seqItems? (.ref l) >>= _) _ _ s
  refine wpAny_bind (wpAny_seqItems hol hdl ?_)
  simp only [Int.toNat_natCast, hx]
  refine wpAny_bind (wpAny_rule (wpAny_bind (wpAny_setField ho hd (by simp) ?_)))
  exact stop_hot hh (hot.mono fun o q => (Heap.get?_update_other _ _ ne.symm).trans q) fun h' e k hs => hE h' e (fun b ob hb q => k b ob ((Heap.get?_update_other _ _ (Ne.symm hb)).trans q)) hs
theorem nextOf_tuple_end_hot {it t x1 : Addr} {i : Nat} {items : Array Value} {Q : Value → Shared → Prop} (hh : A.handled = some (.ref x1)) (hot : HotH x1 s.heap)
    (hit : s.heap.IsTupleIter it t i) (ht : s.heap.IsTuple t items) (hx : items[i]? = none)
    (hE : ∀ h' e, Heap.ExtBut it s.heap h' → (∃ o, h'.get? e = some o ∧ o.cls = .type "StopIteration") → E (.ref e) { s with heap := h' }) :
    wpAny (model prog w) A (Builtin.SmallTypes.nextOf (.ref it)) Q E s := by
  obtain ⟨o, ho, hc, hd⟩ := id hit
  obtain ⟨ol, hol, _, nl, hdl⟩ := ht
  have ne := hot.apart ho hd
  unfold Builtin.SmallTypes.nextOf
  refine wpAny_bind (wpAny_callSpecial?_slot (name := Str.ofString "__next__") hit.typeIs F.slot_tuple_iterator_next
    (wpAny_call_entry F.slot_tuple_iterator_next hit.typeIs F.entry_tuple_iterator_next ?_ (F.args_tuple_iterator_next_1 _)))
  show wpAny _ _ (field (.ref it) 0 >>= _) _ _ s
  refine wpAny_bind (wpAny_field ho hd (x := .ref t) rfl ?_)
  show wpAny _ _ (if (Value.ref t == Value.none) = true then _ else _) _ _ s
  rw [if_neg (show ¬ ((Value.ref t == Value.none) = true) from Bool.false_ne_true)]
  show wpAny _ _ (field (.ref it) 1 >>= _) _ _ s
  refine wpAny_bind (wpAny_field ho hd (x := .int i 0) rfl ?_)
  show wpAny _ _ (seqItems? (.ref t) >>= _) _ _ s
  refine wpAny_bind (wpAny_seqItems hol hdl ?_)
  simp only [Int.toNat_natCast, hx]
  refine wpAny_bind (wpAny_rule (wpAny_bind (wpAny_setField ho hd (by simp) ?_)))
  exact stop_hot hh (hot.mono fun o q => (Heap.get?_update_other _ _ ne.symm).trans q) fun h' e k hs => hE h' e (fun b ob hb q => k b ob ((Heap.get?_update_other _ _ (Ne.symm hb)).trans q)) hs
/-! ### warm: one rule for both -/
theorem list_end {it l : Addr} {i : Nat} {items : Array Value} {Q : Option Value → Shared → Prop} (wm : WmAt A s.heap) (hit : s.heap.IsListIter it l i) (hl : s.heap.IsList l items) (hx : items[i]? = none)
    (hQ : ∀ h', Heap.ExtBut it s.heap h' → Q none { s with heap := h' }) : wpAny (model prog w) A (pyNext (.ref it)) Q E s := by
  rcases wm with hh | ⟨x1, hh, hot⟩
  · exact wpAny_pyNext_list_end hh hit hl hx hQ
  · exact list_end_hot hh hot hit hl hx hQ
theorem tuple_end {it t : Addr} {i : Nat} {items : Array Value} {Q : Option Value → Shared → Prop} (wm : WmAt A s.heap) (hit : s.heap.IsTupleIter it t i) (ht : s.heap.IsTuple t items) (hx : items[i]? = none)
    (hQ : ∀ h', Heap.ExtBut it s.heap h' → Q none { s with heap := h' }) : wpAny (model prog w) A (pyNext (.ref it)) Q E s := by
  rcases wm with hh | ⟨x1, hh, hot⟩
  · exact wpAny_pyNext_tuple_end hh hit ht hx hQ
  · exact tuple_end_hot hh hot hit ht hx hQ
theorem range_end {it : Addr} {x left step : Int} {Q : Option Value → Shared → Prop} (wm : WmAt A s.heap) (hit : IsRangeIter s.heap it x left step) (hleft : left ≤ 0)
    (hQ : ∀ h', (∀ b o, b ≠ it → s.heap.get? b = some o → h'.get? b = some o) → Q none { s with heap := h' }) : wpAny (model prog w) A (pyNext (.ref it)) Q E s := by
  rcases wm with hh | ⟨x1, hh, hot⟩
  · exact wpAny_pyNext_range_end hh hit hleft fun h' eb => hQ h' fun b o hb e => eb b o hb e
  · exact pyNext_range_end_hot ⟨hh, hot⟩ hit hleft fun h' eb => hQ h' fun b o _ e => eb b o e
end
/-- the cells that a warm iterator's state leans on besides -/
def hotFp (A : Around) : List Addr := match A.handled with
  | some (.ref x1) => [x1]
  | _ => []
def HotSt (A : Around) (h : Heap) : Prop := WmAt A h
theorem HotSt.frame {A : Around} {h h' : Heap} (t : WmAt A h) (k : ∀ b ∈ hotFp A, ∀ o, h.get? b = some o → h'.get? b = some o) : WmAt A h' := by
  rcases t with hh | ⟨x1, hh, hot⟩
  · exact .inl hh
  · exact .inr ⟨x1, hh, hot.mono fun o e => k x1 (by unfold hotFp; rw [hh]; exact List.mem_singleton.mpr rfl) o e⟩
theorem hotFp_lt {A : Around} {h : Heap} (t : WmAt A h) : ∀ b ∈ hotFp A, b < h.objs.size := by
  intro b hb
  rcases t with hh | ⟨x1, hh, o, vs, e, _⟩
  · unfold hotFp at hb
    rw [hh] at hb
    cases hb
  · unfold hotFp at hb
    rw [hh] at hb
    have e2 : b = x1 := List.mem_singleton.mp hb
    subst e2
    exact Heap.lt_size e
theorem hotFp_ne {A : Around} {h : Heap} {it : Addr} {o : Obj} {a b : Value} (t : WmAt A h) (ho : h.get? it = some o) (hd : o.data = .fields #[a, b]) : it ∉ hotFp A := by
  intro hb
  rcases t with hh | ⟨x1, hh, hot⟩
  · unfold hotFp at hb
    rw [hh] at hb
    cases hb
  · unfold hotFp at hb
    rw [hh] at hb
    have e2 : it = x1 := List.mem_singleton.mp hb
    exact hot.apart ho hd e2.symm
section
variable {prog : Program} {w : World} {A : Around}
theorem walks_list (I ax : Addr) (hne : ax ≠ I) (items : Array Value) :
    Walks prog w A I (I :: ax :: hotFp A) [I] items.size (fun i v => items[i]? = some v) (fun i h => (h.IsListIter I ax i ∧ h.IsList ax items) ∧ WmAt A h) where
  sub := fun b hb => by simp at hb; simp [hb]
  frame := fun _ _ _ st hk => ⟨⟨st.1.1.at fun o e => hk I (by simp) o e, st.1.2.at fun o e => hk ax (by simp) o e⟩, HotSt.frame st.2 fun b hb o e => hk b (by simp [hb]) o e⟩
  item := fun i s Q E hi st hQ => by
    refine wpAny_pyNext_list_item st.1.1 st.1.2 (x := items[i]) (by simp [hi]) fun h' hit' hs' => ?_
    obtain ⟨o, ho, _, hd⟩ := id st.1.1
    refine hQ _ h' s.toks (by simp [hi]) ⟨⟨hit', st.1.2.extBut hs'.extBut hne⟩, HotSt.frame st.2 fun b hb o e => hs'.extBut b o ?_ e⟩ fun b o hb e => hs'.extBut b o (fun h => hb (by simp [h])) e
    rintro rfl
    exact hotFp_ne st.2 ho hd hb
  done := fun s Q E st hQ => list_end st.2 st.1.1 st.1.2 (by simp) fun h' he' => hQ h' s.toks fun b o hb e => he' b o (fun h => hb (by simp [h])) e
  self := fun _ _ _ _ st hQ => wpAny_pyIter_listiter st.1.1 hQ
theorem walks_tuple (I ax : Addr) (hne : ax ≠ I) (items : Array Value) :
    Walks prog w A I (I :: ax :: hotFp A) [I] items.size (fun i v => items[i]? = some v) (fun i h => (h.IsTupleIter I ax i ∧ h.IsTuple ax items) ∧ WmAt A h) where
  sub := fun b hb => by simp at hb; simp [hb]
  frame := fun _ _ _ st hk => ⟨⟨st.1.1.at fun o e => hk I (by simp) o e, st.1.2.at fun o e => hk ax (by simp) o e⟩, HotSt.frame st.2 fun b hb o e => hk b (by simp [hb]) o e⟩
  item := fun i s Q E hi st hQ => by
    refine wpAny_pyNext_tuple_item st.1.1 st.1.2 (x := items[i]) (by simp [hi]) fun h' hit' hs' => ?_
    obtain ⟨o, ho, _, hd⟩ := id st.1.1
    refine hQ _ h' s.toks (by simp [hi]) ⟨⟨hit', st.1.2.extBut hs'.extBut hne⟩, HotSt.frame st.2 fun b hb o e => hs'.extBut b o ?_ e⟩ fun b o hb e => hs'.extBut b o (fun h => hb (by simp [h])) e
    rintro rfl
    exact hotFp_ne st.2 ho hd hb
  done := fun s Q E st hQ => tuple_end st.2 st.1.1 st.1.2 (by simp) fun h' he' => hQ h' s.toks fun b o hb e => he' b o (fun h => hb (by simp [h])) e
  self := fun _ _ _ _ st hQ => wpAny_pyIter_tupleiter st.1.1 hQ
theorem draws_list (I ax : Addr) (hne : ax ≠ I) (items : Array Value) :
    Draws prog w A I (I :: ax :: hotFp A) items.size (fun i v => items[i]? = some v) (fun i h => (h.IsListIter I ax i ∧ h.IsList ax items) ∧ WmAt A h) where
  live := fun _ _ st => let ⟨o, ho, _⟩ := st.1.1; ⟨o, ho⟩
  frame := fun _ _ _ st hk => ⟨⟨st.1.1.at fun o e => hk I (by simp) o e, st.1.2.at fun o e => hk ax (by simp) o e⟩, HotSt.frame st.2 fun b hb o e => hk b (by simp [hb]) o e⟩
  item := fun i s Q E hi st hQ => by
    refine wpAny_nextOf_list_item st.1.1 st.1.2 (x := items[i]) (by simp [hi]) fun h' hit' hs' => ?_
    obtain ⟨o, ho, _, hd⟩ := id st.1.1
    refine hQ _ h' s.toks (by simp [hi]) ⟨⟨hit', st.1.2.extBut hs'.extBut hne⟩, HotSt.frame st.2 fun b hb o e => hs'.extBut b o ?_ e⟩ hs'
    rintro rfl
    exact hotFp_ne st.2 ho hd hb
  done := fun s Q E st hE => by
    rcases st.2 with hh | ⟨x1, hh, hot⟩
    · exact wpAny_nextOf_list_end hh st.1.1 st.1.2 (by simp) hE
    · exact nextOf_list_end_hot hh hot st.1.1 st.1.2 (by simp) hE
theorem draws_tuple (I ax : Addr) (hne : ax ≠ I) (items : Array Value) :
    Draws prog w A I (I :: ax :: hotFp A) items.size (fun i v => items[i]? = some v) (fun i h => (h.IsTupleIter I ax i ∧ h.IsTuple ax items) ∧ WmAt A h) where
  live := fun _ _ st => let ⟨o, ho, _⟩ := st.1.1; ⟨o, ho⟩
  frame := fun _ _ _ st hk => ⟨⟨st.1.1.at fun o e => hk I (by simp) o e, st.1.2.at fun o e => hk ax (by simp) o e⟩, HotSt.frame st.2 fun b hb o e => hk b (by simp [hb]) o e⟩
  item := fun i s Q E hi st hQ => by
    refine wpAny_nextOf_tuple_item st.1.1 st.1.2 (x := items[i]) (by simp [hi]) fun h' hit' hs' => ?_
    obtain ⟨o, ho, _, hd⟩ := id st.1.1
    refine hQ _ h' s.toks (by simp [hi]) ⟨⟨hit', st.1.2.extBut hs'.extBut hne⟩, HotSt.frame st.2 fun b hb o e => hs'.extBut b o ?_ e⟩ hs'
    rintro rfl
    exact hotFp_ne st.2 ho hd hb
  done := fun s Q E st hE => by
    rcases st.2 with hh | ⟨x1, hh, hot⟩
    · exact wpAny_nextOf_tuple_end hh st.1.1 st.1.2 (by simp) hE
    · exact nextOf_tuple_end_hot hh hot st.1.1 st.1.2 (by simp) hE
end
end LNa
set_option maxHeartbeats 4000000
/-! Warm: nothing is handled, or an exception whose context is None is handled. Defs, calls, loops, comprehensions under both. -/
namespace LNb
open PySem PySem.Spec PyProof.Rows L2 HotX L2H LNa
abbrev St := L2.St
def Wm (X : Cx) : Prop := X.calm = true ∨ HotC X
theorem Wm.at {X : Cx} {pp : List (Addr × Obj)} {σ : St} {H : Hp} {s : Shared} (c : Wm X) (J : Inv X pp σ H s) : WmAt X.A s.heap := by
  rcases c with c | ⟨p, ⟨hh, vs, e, n⟩, hp⟩
  · exact .inl (J.ok.hd c)
  · exact .inr ⟨p.1, hh, p.2, vs, (J.pin p (List.mem_append_left _ hp)).1, e, n⟩
/-- how a call stands there -/
def HotE (A : Around) (outer : List Env) (H : Hp) (s : Shared) : Prop := A.handled = none ∨ ∃ p, Hot1 A p ∧ PinOk outer H s p
/-- a def's promise under both -/
structure FnW (P : Program) (w : World) (K : PySem.W.Frag) (mg : Str → Option Value) (base : Heap) (CX : CXT) (k : Nat) (f : Addr) (fd : FuncData) (ps : List Str) (sp : Sp) : Prop where
  ok : FnOk P w K mg base CX k f fd ps sp
  hot : FnH P w K mg base CX k f fd ps sp
theorem room_of {k : Nat} {A : Around} (r : RoomH k A) (h : A.handled = none) : Room k A := ⟨h, r.dp, r.un⟩
theorem FnH.up {P : Program} {w : World} {K : PySem.W.Frag} {mg : Str → Option Value} {base : Heap} {CX : CXT} {j k : Nat} {f : Addr} {fd : FuncData} {ps : List Str} {sp : Sp} (F : FnH P w K mg base CX j f fd ps sp) (h : j ≤ k) : FnH P w K mg base CX k f fd ps sp :=
  ⟨F.len, fun A o s H a us vs Q E p r => F.run A o s H a us vs Q E p (r.mono h)⟩
theorem FnW.up {P : Program} {w : World} {K : PySem.W.Frag} {mg : Str → Option Value} {base : Heap} {CX : CXT} {j k : Nat} {f : Addr} {fd : FuncData} {ps : List Str} {sp : Sp} (F : FnW P w K mg base CX j f fd ps sp) (h : j ≤ k) : FnW P w K mg base CX k f fd ps sp :=
  ⟨F.ok.mono h, FnH.up F.hot h⟩
theorem FnW.imp {P : Program} {w : World} {K : PySem.W.Frag} {mg : Str → Option Value} {base : Heap} {CX : CXT} {k : Nat} {f : Addr} {fd : FuncData} {ps : List Str} {sp sp' : Sp} (F : FnW P w K mg base CX k f fd ps sp) (h : ∀ vs H Q E, sp' vs H Q E → sp vs H Q E) : FnW P w K mg base CX k f fd ps sp' :=
  ⟨F.ok.imp h, fun vs H Q E q => F.hot.len vs H Q E (h _ _ _ _ q), fun A o s H a us vs Q E p r1 r2 r3 r4 r5 r6 r7 => F.hot.run A o s H a us vs Q E p r1 r2 r3 r4 r5 r6 (h _ _ _ _ r7)⟩
/-- the context of a body: calm, or bearing the handled exception as a pin -/
def cxG (c : Bool) (pn : List (Addr × Obj)) (CX : CXT) (P : Program) (w : World) (K : PySem.W.Frag) (mg : Str → Option Value) (base : Heap) (N : List Str) (qual : Str) (scope : Scope) (f : Addr) (cd : Value) (A : Around) (outer : List Env) (s : Shared) (H : Hp) (E : XK) : Cx :=
  { cxOf CX P w K mg base N qual scope f cd A outer s H E with calm := c, pn := pn }
theorem fn_ofW {CX : CXT} {P : Program} {w : World} {K : PySem.W.Frag} {mg : Str → Option Value} {base : Heap} {k : Nat} {f : Addr} {name qual : Str} {params : Arguments} {body : List Stmt} {scope : Scope} {dV kV doc pm cdv ct oc : Value} {an od : Option Addr}
    {osl : Array (Option Value)} {N ps : List Str} {sp : Sp} (lk : K.lookup f = some ⟨oc, od, .func (PySem.W.fnOf name qual params body scope dV kV doc pm an cdv ct), osl⟩) (hcd : PySem.W.codeIn K cdv qual = true) (S : FnScope N ps scope)
    (len : ∀ vs H Q E, sp vs H Q E → vs.length = ps.length)
    (hbody : ∀ (c : Bool) (pn : List (Addr × Obj)) (A : Around) (outer : List Env) (s : Shared) (H : Hp) (vs : List V) (Q : VK) (E : XK), Wm (cxG c pn CX P w K mg base N qual scope f cdv A outer s H E) → RoomH k (A.deeper (envOfC qual scope s.heap.objs.size f cdv)) → sp vs H Q E →
      ∃ t, PSs (cxG c pn CX P w K mg base N qual scope f cdv A outer s H E) body t ∧ t { nx := fun _ H' => Q .non H', rt := Q } (L2.start N vs) H) :
    FnW P w K mg base CX (k + 1) f (PySem.W.fnOf name qual params body scope dV kV doc pm an cdv ct) ps sp :=
  ⟨fn_of lk hcd S len fun A outer s H vs Q E hr h => hbody true [] A outer s H vs Q E (.inl rfl) ⟨hr.dp, hr.un⟩ h,
   fn_ofH lk hcd S len fun A outer s H vs Q E p hot hr h => hbody false [p] A outer s H vs Q E (.inr ⟨p, hot, List.mem_singleton.mpr rfl⟩) hr h⟩
/-! ### calls -/
section
variable {X : Cx} {CX : CXT} {k : Nat} {f C : Addr} {fd : FuncData} {ps : List Str} {sp : Sp} {E : XK} {x m : Str} {q pos apos : Pos} {e o : Expr} {es : List Expr} {ta : TE} {t : TA}
theorem run_fnW {pp : List (Addr × Obj)} {σ : St} {H : Hp} {s : Shared} {Q : VK} {us : List Value} {vs : List V} (F : FnW X.prog X.w X.K X.mg X.base CX k f fd ps sp) (hr : RoomH k X.A) (hc : Wm X) (hb : Binds X.K fd ps []) (hx : Passes CX X E)
    (J : Inv X pp σ H s) (r : Vals vs us) (h : sp vs H Q E) : wpAny (model X.prog X.w) X.A (call (.ref f) us) (EP X pp σ Q) X.xe s := by
  rcases hc with c | c
  · exact run_fn F.ok (room_of hr (J.ok.hd c)) hb .nil hx J r (by rw [List.append_nil]; exact h)
  · exact run_fnH (E := fun _ => E) F.hot hr c hb (fun pp H s e s' J' => hx pp σ H s e s' J') J r h
theorem pe_callW (F : FnW X.prog X.w X.K X.mg X.base CX k f fd ps sp) (hr : RoomH k X.A) (hc : Wm X) (hg : Gl X x) (hm : X.mg x = some (.ref f)) (hk : PySem.W.keepIn X.K (.ref f) = true) (hb : Binds X.K fd ps []) (hx : Passes CX X E)
    (ha : PA X (e :: es) t) (hdb : (x == ("__debug__" : Str)) = false := by decide) (he : starEach (e :: es) X.env = (false, eval e X.env) :: starEach es X.env := by rfl) (hpl : (backTo pos (starEach es X.env)).any (·.1) = false := by rfl) :
    PE X (.Call (.Name x q) (e :: es) [] pos) (fun σ H Q => t σ H fun vs H1 => sp vs H1 Q E) :=
  ⟨fun pp s σ H Q J h => wpAny_Call_Name_kw (ld_glob J hg hm (PySem.W.callWith_K (h₀ := X.base) J.ok.mod.kin hk (thn (ha.run pos pp s σ H _ J h) fun us s1 ⟨vs, H1, J1, r, q⟩ => ⟨J1.kIn, run_fnW F hr hc hb hx J1 r q⟩) he hpl) hdb)⟩
theorem pe_call0W (F : FnW X.prog X.w X.K X.mg X.base CX k f fd ps sp) (hr : RoomH k X.A) (hc : Wm X) (hg : Gl X x) (hm : X.mg x = some (.ref f)) (hk : PySem.W.keepIn X.K (.ref f) = true) (hb : Binds X.K fd ps []) (hx : Passes CX X E)
    (hdb : (x == ("__debug__" : Str)) = false := by decide) : PE X (.Call (.Name x q) [] [] pos) (fun _ H Q => sp [] H Q E) :=
  ⟨fun pp s σ H Q J h => wpAny_Call_Name_kw (ld_glob J hg hm (PySem.W.callWith_K0 J.kIn hk (run_fnW (us := []) F hr hc hb hx J .nil h)) hdb)⟩
/-- o.m(e, ..) of an own class -/
def tMt (C : Addr) (m : Str) (sp : Sp) (E : XK) (ta : TE) (t : TA) : TE := fun σ H Q => ta σ H fun x H1 => ∃ a dx fs, x = .ref a ∧ H1 a = some (.ins C dx fs) ∧ fs.lookup m = none ∧ t σ H1 fun vs H2 => sp (x :: vs) H2 Q E
theorem pe_methW {pl : Sem Bool} (he : PE X o ta) (c : Cls X.K C) (hm : Meth X.K C m f) (F : FnW X.prog X.w X.K X.mg X.base CX k f fd ps sp) (hr : RoomH k X.A) (hc : Wm X) (hb : Binds X.K fd ps []) (hx : Passes CX X E) (ha : PA X (e :: es) t)
    (hst : starEach (e :: es) X.env = (false, eval e X.env) :: starEach es X.env := by rfl) (hpl : (backTo pos (starEach es X.env)).any (·.1) = false := by rfl)
    (ht : eval (.Call (.Attribute o m apos) (e :: es) [] pos) X.env = (do
      let ov ← eval o X.env; standAt apos.atName; let (f, first) ← holding [ov] (getMethod ov m pl); callWith pos f first (backTo pos (starEach (e :: es) X.env)) (backToKw pos (keywordEach [] X.env))) := by rfl) :
    PE X (.Call (.Attribute o m apos) (e :: es) [] pos) (tMt C m sp E ta t) := by
  refine ⟨fun pp s σ H Q J h => PySem.W.methodCall_KW (pl := pl) (thn (he.run pp s σ H _ J h) fun u s1 ⟨x, H1, J1, rx, a, dx, fs, ex, ea, l, q⟩ => ?_) ht⟩
  subst ex
  obtain rfl : u = Value.ref a := rx
  exact getmeth_ok J1 ea c hm l (PySem.W.callWith_K (first := [.ref a]) (h₀ := X.base) J.ok.mod.kin hm.kp (thn (ha.run pos pp s1 σ H1 _ J1 q) fun us s2 ⟨vs, H2, J2, r, q2⟩ => ⟨J2.kIn, run_fnW (us := .ref a :: us) (vs := .ref a :: vs) F hr hc hb hx J2 (.cons rfl r) q2⟩) hst hpl)
theorem pe_meth0W {pl : Sem Bool} (he : PE X o ta) (c : Cls X.K C) (hm : Meth X.K C m f) (F : FnW X.prog X.w X.K X.mg X.base CX k f fd ps sp) (hr : RoomH k X.A) (hc : Wm X) (hb : Binds X.K fd ps []) (hx : Passes CX X E)
    (ht : eval (.Call (.Attribute o m apos) [] [] pos) X.env = (do
      let ov ← eval o X.env; standAt apos.atName; let (f, first) ← holding [ov] (getMethod ov m pl); callWith pos f first (backTo pos (starEach [] X.env)) (backToKw pos (keywordEach [] X.env))) := by rfl) :
    PE X (.Call (.Attribute o m apos) [] [] pos) (tMt C m sp E ta tNil) := by
  refine ⟨fun pp s σ H Q J h => PySem.W.methodCall_KW (pl := pl) (thn (he.run pp s σ H _ J h) fun u s1 ⟨x, H1, J1, rx, a, dx, fs, ex, ea, l, q⟩ => ?_) ht⟩
  subst ex
  obtain rfl : u = Value.ref a := rx
  exact getmeth_ok J1 ea c hm l (PySem.W.callWith_K0 (first := [.ref a]) J1.kIn hm.kp (run_fnW (us := [.ref a]) (vs := [.ref a]) F hr hc hb hx J1 (.cons rfl .nil) q))
/-- e.f, a property -/
def tPr (C : Addr) (sp : Sp) (E : XK) (ta : TE) : TE := fun σ H Q => ta σ H fun x H1 => ∃ a dx fs, x = .ref a ∧ H1 a = some (.ins C dx fs) ∧ sp [.ref a] H1 Q E
theorem RoomH.in1 {k : Nat} {A : Around} (r : RoomH (k + 1) A) : RoomH k A.in1 := ⟨by have := r.dp; show A.depth + 3 * k + 5 < _; omega, by have := r.un; show A.units + 1 + 16 * k + 200 < _; omega⟩
theorem pe_propW {p : Addr} (he : PE X e ta) (c : Cls X.K C) (hp : PropOf X.K C x p f) (F : FnW X.prog X.w X.K X.mg X.base CX k f fd ps sp) (hr : RoomH (k + 1) X.A) (hc : Wm X) (hb : Binds X.K fd ps []) (hx : Passes CX X.nox E)
    (hab : attributeBase e x X.env (eval e X.env) = eval e X.env) : PE X (.Attribute e x pos) (tPr C sp E ta) := by
  refine ⟨fun pp s σ H Q J h => attr_of hab (thn (he.run pp s σ H _ J h) fun u s1 ⟨y, H1, J1, rx, a, dx, fs, ex, ea, q⟩ => ?_)⟩
  subst ex
  obtain rfl : u = Value.ref a := rx
  obtain ⟨mA, O, _, _, _, _⟩ := ins_get J1.hok ea
  obtain ⟨od, M, _⟩ := O.look
  obtain ⟨rest, hrec⟩ := hp.rec_
  have J2 := J1.tok (s1.toks + 1)
  have hci : (PySem.W.clsIn X.K C).isSome = true := by
    obtain ⟨cd, z, _⟩ := PySem.W.any_some c.hd
    rw [z]; rfl
  refine PySem.W.get_bind J1.kIn M (PySem.W.plainGet_of (c.get x)).1 (PySem.W.findObj_data hci hp.at_ hp.get hp.tak) (PySem.W.plainGet_of (c.get x)).2 (wpAny_call (PySem.W.prop_get (s := { s1 with toks := s1.toks + 1 }) J1.kIn hrec ?_))
  have hl : ([Value.ref a] ++ []).length = ps.length := by rw [← F.ok.len _ _ _ _ q]; rfl
  have bb := hb { s1 with toks := s1.toks + 1 } [.ref a] J2.kIn hl
  rw [List.append_nil] at bb
  have fin : ∀ r s', CR CX X.stack X.prog X.w H1 { s1 with toks := s1.toks + 1 } Q E r s' → (match r with
      | .ok (.ret u) => wpAny (model X.prog X.w) X.A (handedOut u) (EP X pp σ Q) X.xe s'
      | .ok _ => False
      | .error er => False) := fun r s' hq => by
    cases r with
    | error er => exact hx pp σ H1 _ er s' (J2.wish _) hq
    | ok fl =>
      cases fl with
      | ret u =>
        obtain ⟨v, H', J3, rv, q3⟩ := J2.after hq
        show wpAny _ _ (handedOut u) _ _ _
        rw [PySem.W.handedOut_of (handed_of rv)]
        exact wpAny_pure ⟨v, H', J3, rv, q3⟩
      | next => exact hq.elim
      | brk => exact hq.elim
      | cont => exact hq.elim
  rcases hc with c1 | ⟨pp1, ⟨hh, hv⟩, hp1⟩
  · refine codeAny_mono (F.ok.run X.A.in1 X.stack { s1 with toks := s1.toks + 1 } H1 ⟨[.ref a], []⟩ [.ref a] [.ref a] Q E (room_of (RoomH.in1 hr) (J.ok.hd c1)) J2.env0.in1 bb (.cons rfl .nil) q) fun r s' hq => ?_
    have z := fin r s' hq
    cases r with
    | error er => exact z.elim
    | ok fl => cases fl <;> first | exact z | exact z.elim
  · have P1 := J2.pin pp1 (List.mem_append_left _ hp1)
    have hpin : PinOk X.stack H1 { s1 with toks := s1.toks + 1 } pp1 := ⟨P1.1, P1.2.1, fun hm => (List.mem_cons.mp (J2.stkSub pp1.1 hm)).elim P1.2.2.1 P1.2.2.2.1, P1.2.2.2.2⟩
    refine codeAny_mono (F.hot.run X.A.in1 X.stack { s1 with toks := s1.toks + 1 } H1 ⟨[.ref a], []⟩ [.ref a] [.ref a] Q E pp1 (RoomH.in1 hr) ⟨hh, hv⟩ hpin J2.env0.in1 bb (.cons rfl .nil) q) fun r s' hq => ?_
    have z := fin r s' hq
    cases r with
    | error er => exact z.elim
    | ok fl => cases fl <;> first | exact z | exact z.elim
end
end LNb
set_option maxHeartbeats 4000000
/-! Warm loops, comprehensions, unpackings, max, min, all, list(range). -/
namespace LNb
open PySem PySem.Spec PyProof.Rows L2 HotX L2H LNa
structure TurnW (P : Program) (w : World) (K : PySem.W.Frag) (tg : Expr) (J : It) (fp : List Addr) (it : Addr) (tn : Nat → Heap → Prop) : Prop where
  mem : it ∈ fp
  obj : ∀ i h, tn i h → ∀ b ∈ fp, ∃ o, h.get? b = some o ∧ ∀ v, o.data ≠ .cell v
  keep : ∀ i h h', tn i h → (∀ b ∈ fp, ∀ o, h.get? b = some o → h'.get? b = some o) → tn i h'
  item : ∀ (X : Cx), X.prog = P → X.w = w → X.K = K → Wm X → ∀ (i : Nat) (pp : List (Addr × Obj)) (s : Shared) (σ : St) (H : Hp) (E : Value → Shared → Prop), Inv X pp σ H s → (∀ b ∈ fp, FpOk X pp H b) → tn i s.heap → J.go i H →
    wpAny (model P w) X.A (pyNext (.ref it)) (fun r s1 => ∃ u, r = some u ∧ wpAny (model P w) X.A (letOwnedTupleGo tg (.ref it) u) (fun _ s2 => ∃ x H', Inv X pp σ H' s2 ∧ RelV x u ∧ J.yld i H x H' ∧ tn (i + 1) s2.heap ∧ ∀ b ∈ fp, H' b = none) E s1) E s
  done : ∀ (X : Cx), X.prog = P → X.w = w → X.K = K → Wm X → ∀ (i : Nat) (pp : List (Addr × Obj)) (s : Shared) (σ : St) (H : Hp) (E : Value → Shared → Prop), Inv X pp σ H s → (∀ b ∈ fp, FpOk X pp H b) → tn i s.heap → J.stop i H →
    wpAny (model P w) X.A (pyNext (.ref it)) (fun r s1 => r = none ∧ Inv X pp σ H s1) E s
  self : ∀ (A : Around) (i : Nat) (s : Shared) (Q : Value → Shared → Prop) (E : Value → Shared → Prop), tn i s.heap → Q (.ref it) s → wpAny (model P w) A (pyIter (.ref it)) Q E s
section
variable {P : Program} {w : World} {K : PySem.W.Frag} {tg : Expr} {J : It} {fp : List Addr} {it : Addr} {tn : Nat → Heap → Prop}
theorem TurnW.calm (T : TurnW P w K tg J fp it tn) : Turn P w K tg J fp it tn :=
  ⟨T.mem, T.obj, T.keep, fun X a b c d => T.item X a b c (.inl d), fun X a b c d => T.done X a b c (.inl d), T.self⟩
theorem TurnW.hot (T : TurnW P w K tg J fp it tn) : TurnH P w K tg J fp it tn :=
  ⟨T.mem, T.obj, T.keep, fun X a b c d => T.item X a b c (.inr d), fun X a b c d => T.done X a b c (.inr d), T.self⟩
end
def PIEW (X : Cx) (pp : List (Addr × Obj)) (σ : St) (tg : Expr) (R : It → Hp → Prop) (itv : Value) (s2 : Shared) : Prop :=
  ∃ (it : Addr) (fp : List Addr) (tn : Nat → Heap → Prop) (J : It) (H' : Hp), itv = .ref it ∧ Inv X pp σ H' s2 ∧ TurnW X.prog X.w X.K tg J fp it tn ∧ tn 0 s2.heap ∧ (∀ b ∈ fp, FpOk X pp H' b) ∧ R J H'
structure PIW (X : Cx) (tg iter : Expr) (wi : TI) : Prop where
  run : ∀ (pp : List (Addr × Obj)) (s : Shared) (σ : St) (H : Hp) (R : It → Hp → Prop), Inv X pp σ H s → wi σ H R →
    wpAny (model X.prog X.w) X.A (eval iter X.env) (fun v s1 => wpAny (model X.prog X.w) X.A (pyIter v) (PIEW X pp σ tg R) X.xe s1) X.xe s
section
variable {X : Cx} {tg iter : Expr} {wi : TI}
theorem PIW.calm (p : PIW X tg iter wi) : PI X tg iter wi := ⟨fun pp s σ H R I h => thn (p.run pp s σ H R I h) fun _ _ z => thn z fun _ _ ⟨a, b, c, d, e, f, g, T, r⟩ => ⟨a, b, c, d, e, f, g, T.calm, r⟩⟩
theorem PIW.hot (p : PIW X tg iter wi) : PIH X tg iter wi := ⟨fun pp s σ H R I h => thn (p.run pp s σ H R I h) fun _ _ z => thn z fun _ _ ⟨a, b, c, d, e, f, g, T, r⟩ => ⟨a, b, c, d, e, f, g, T.hot, r⟩⟩
theorem ps_forW {body : List Stmt} {g : TG} {tb : TS} {pos : Pos} (hp : PassesOwn (model X.prog X.w) X.A X.env X.xe) (hc : Wm X) (hi : PIW X tg iter wi) (hg : PG X tg g) (hb : PSs X body tb)
    (hs : ∀ x, foldedSetIterable iter X.env x = pure x := by intro _; rfl) : PS X (.For tg iter body [] pos) (tFor wi g tb) := by
  rcases hc with c | c
  · exact ps_for hp c hi.calm hg hb hs
  · exact ps_forH hp c hi.hot hg hb hs
end
/-! ### turns -/
theorem turn_listW {P : Program} {w : World} {K : PySem.W.Frag} {tg : Expr} (a it : Addr) : TurnW P w K tg (Itl K a) [it] it (fun i h => h.IsListIter it a i) where
  mem := by simp
  obj := (turn_list (P := P) (w := w) (K := K) (tg := tg) a it).obj
  keep := (turn_list (P := P) (w := w) (K := K) (tg := tg) a it).keep
  item := by
    intro X hP hw hK hc i pp s σ H E J hf st hg
    subst hP hw hK
    obtain ⟨xs, x, hq, hx⟩ := hg
    obtain ⟨its, rv, pl, hz⟩ := J.list hq
    obtain ⟨u, hu, ru⟩ := rv.get hx
    obtain ⟨f0, f1, f2, f3, f4, f5⟩ := hf it (List.mem_singleton.mpr rfl)
    refine wpAny_pyNext_list_item st pl.isList (x := u) (by simpa using hu) fun h1 st1 sb => ⟨u, rfl, ?_⟩
    obtain ⟨o, e, c, d⟩ := id st1
    exact go_of (s := { s with heap := h1 }) e c d (by decide) ⟨x, H, J.turned (t' := s.toks) (fun b o hb z => (sb.2 b hb).trans z) f0 f1 f3 f4 f5, ru, ⟨rfl, fun ys hy => by rw [J.list_inj hy hq]; exact hx⟩, st1, fun b hb => (hf b hb).1⟩
  done := by
    intro X hP hw hK hc i pp s σ H E J hf st hg
    subst hP hw hK
    obtain ⟨xs, hq, hx⟩ := hg
    obtain ⟨its, rv, pl, hz⟩ := J.list hq
    obtain ⟨f0, f1, f2, f3, f4, f5⟩ := hf it (List.mem_singleton.mpr rfl)
    have hl := rv.length
    exact LNa.list_end (hc.at J) st pl.isList (by simp; omega) fun h1 eb => ⟨rfl, J.turned (t' := s.toks) (fun b o hb e => eb b o hb e) f0 f1 f3 f4 f5⟩
  self := (turn_list (P := P) (w := w) (K := K) (tg := tg) a it).self
theorem turn_tupW {P : Program} {w : World} {K : PySem.W.Frag} {tg : Expr} (a it : Addr) : TurnW P w K tg (Itt K a) [it] it (fun i h => h.IsTupleIter it a i) where
  mem := by simp
  obj := (turn_tuple (P := P) (w := w) (K := K) (tg := tg) a it).obj
  keep := (turn_tuple (P := P) (w := w) (K := K) (tg := tg) a it).keep
  item := by
    intro X hP hw hK hc i pp s σ H E J hf st hg
    subst hP hw hK
    obtain ⟨xs, x, hq, hx⟩ := hg
    obtain ⟨its, rv, pl, hz⟩ := J.tuple hq
    obtain ⟨u, hu, ru⟩ := rv.get hx
    obtain ⟨f0, f1, f2, f3, f4, f5⟩ := hf it (List.mem_singleton.mpr rfl)
    refine wpAny_pyNext_tuple_item st (show s.heap.IsTuple a its.toArray from pl) (x := u) (by simpa using hu) fun h1 st1 sb => ⟨u, rfl, ?_⟩
    obtain ⟨o, e, c, d⟩ := id st1
    exact go_of (s := { s with heap := h1 }) e c d (by decide) ⟨x, H, J.turned (t' := s.toks) (fun b o hb z => (sb.2 b hb).trans z) f0 f1 f3 f4 f5, ru, ⟨rfl, fun ys hy => by rw [J.tuple_inj hy hq]; exact hx⟩, st1, fun b hb => (hf b hb).1⟩
  done := by
    intro X hP hw hK hc i pp s σ H E J hf st hg
    subst hP hw hK
    obtain ⟨xs, hq, hx⟩ := hg
    obtain ⟨its, rv, pl, hz⟩ := J.tuple hq
    obtain ⟨f0, f1, f2, f3, f4, f5⟩ := hf it (List.mem_singleton.mpr rfl)
    have hl := rv.length
    exact LNa.tuple_end (hc.at J) st (show s.heap.IsTuple a its.toArray from pl) (by simp; omega) fun h1 eb => ⟨rfl, J.turned (t' := s.toks) (fun b o hb e => eb b o hb e) f0 f1 f3 f4 f5⟩
  self := (turn_tuple (P := P) (w := w) (K := K) (tg := tg) a it).self
section
variable {X : Cx} {tg : Expr}
theorem pi_listW {l : Expr} {tl : TE} (hl : PE X l tl) : PIW X tg l (iList X.K tl) := by
  refine ⟨fun pp s σ H R J h => thn (hl.run pp s σ H _ J h) fun v s1 ⟨x, H1, J1, r1, a, e, ⟨xs, hq⟩, q⟩ => ?_⟩
  subst e
  cases r1
  obtain ⟨its, rv, pl, hz⟩ := J1.list hq
  refine wpAny_pyIter_list pl.isList ⟨s1.heap.objs.size, [s1.heap.objs.size], _, _, H1, rfl, J1.kept (t' := s1.toks) fun b o e => Heap.get?_push_of_some _ e, turn_listW a _, ⟨_, Heap.get?_push_size _ rfl, rfl, rfl⟩, fun b hb => ?_, q⟩
  obtain rfl := List.mem_singleton.mp hb
  exact J1.fpOk (Nat.le_refl _) (J1.hok.fresh (Nat.le_refl _))
theorem pi_tupW {l : Expr} {tl : TE} (hl : PE X l tl) : PIW X tg l (iTup X.K tl) := by
  refine ⟨fun pp s σ H R J h => thn (hl.run pp s σ H _ J h) fun v s1 ⟨x, H1, J1, r1, a, e, ⟨xs, hq⟩, q⟩ => ?_⟩
  subst e
  cases r1
  obtain ⟨its, rv, pl, hz⟩ := J1.tuple hq
  refine wpAny_pyIter_tuple (show s1.heap.IsTuple a its.toArray from pl) ⟨s1.heap.objs.size, [s1.heap.objs.size], _, _, H1, rfl, J1.kept (t' := s1.toks) fun b o e => Heap.get?_push_of_some _ e, turn_tupW a _, ⟨_, Heap.get?_push_size _ rfl, rfl, rfl⟩, fun b hb => ?_, q⟩
  obtain rfl := List.mem_singleton.mp hb
  exact J1.fpOk (Nat.le_refl _) (J1.hok.fresh (Nat.le_refl _))
end
/-! ### enumerate of a list, of a tuple -/
/-- a sequence: list or tuple -/
def Sq (K : PySem.W.Frag) (b : Bool) (H : Hp) (a : Addr) (xs : List V) : Prop := if b = true then SqL K H a xs else SqT K H a xs
/-- its items in new pairs -/
def ItE (K : PySem.W.Frag) (b : Bool) (a : Addr) : It :=
  ⟨fun i H => ∃ xs x, Sq K b H a xs ∧ xs[i]? = some x, fun i H v H' => ∃ T x, v = .ref T ∧ H T = none ∧ H' = upd H T (.tup [.int (i : Nat), x]) ∧ ∀ xs, Sq K b H a xs → xs[i]? = some x, fun i H => ∃ xs : List V, Sq K b H a xs ∧ xs.length = i⟩
def IsSeqIter (b : Bool) (h : Heap) (it a : Addr) (i : Nat) : Prop := if b = true then h.IsListIter it a i else h.IsTupleIter it a i
def IsSq (b : Bool) (h : Heap) (a : Addr) (its : Array Value) : Prop := if b = true then h.IsList a its else h.IsTuple a its
theorem Inv.sq {X : Cx} {pp : List (Addr × Obj)} {σ : St} {H : Hp} {s : Shared} {a : Addr} {xs : List V} (b : Bool) (J : Inv X pp σ H s) (h : Sq X.K b H a xs) : ∃ its : List Value, Vals xs its ∧ IsSq b s.heap a its.toArray := by
  cases b with
  | true =>
    obtain ⟨its, rv, pl, _⟩ := J.list (show SqL X.K H a xs from h)
    exact ⟨its, rv, pl.isList⟩
  | false =>
    obtain ⟨its, rv, pl, _⟩ := J.tuple (show SqT X.K H a xs from h)
    exact ⟨its, rv, pl⟩
theorem Inv.sq_inj {X : Cx} {pp : List (Addr × Obj)} {σ : St} {H : Hp} {s : Shared} {a : Addr} {xs ys : List V} (b : Bool) (J : Inv X pp σ H s) (h : Sq X.K b H a xs) (h' : Sq X.K b H a ys) : xs = ys := by
  cases b with
  | true => exact J.list_inj h h'
  | false => exact J.tuple_inj h h'
def dSt (b : Bool) (A : Around) (I ax : Addr) (items : Array Value) : Nat → Heap → Prop := fun i h => (IsSeqIter b h I ax i ∧ IsSq b h ax items) ∧ WmAt A h
theorem draws_sq {prog : Program} {w : World} {A : Around} (b : Bool) (I ax : Addr) (hne : ax ≠ I) (items : Array Value) : Draws prog w A I (I :: ax :: hotFp A) items.size (fun i v => items[i]? = some v) (dSt b A I ax items) := by
  cases b with
  | true => exact draws_list I ax hne items
  | false => exact draws_tuple I ax hne items
theorem IsSeqIter.get {b : Bool} {h : Heap} {it a : Addr} {i : Nat} (t : IsSeqIter b h it a i) : ∃ o x y, h.get? it = some o ∧ o.data = .fields #[x, y] := by
  cases b with
  | true => obtain ⟨o, e, _, d⟩ := (show h.IsListIter it a i from t); exact ⟨o, _, _, e, d⟩
  | false => obtain ⟨o, e, _, d⟩ := (show h.IsTupleIter it a i from t); exact ⟨o, _, _, e, d⟩
theorem IsSeqIter.keep {b : Bool} {h h' : Heap} {it a : Addr} {i : Nat} (t : IsSeqIter b h it a i) (k : ∀ o, h.get? it = some o → h'.get? it = some o) : IsSeqIter b h' it a i := by
  cases b with
  | true => exact (show h.IsListIter it a i from t).at k
  | false => exact (show h.IsTupleIter it a i from t).at k
theorem turn_enumW {P : Program} {w : World} {K : PySem.W.Frag} {elts : List Expr} {kk : Nat} {tpos : Pos} (b : Bool) (a e it : Addr) :
    TurnW P w K (.Tuple elts kk tpos) (ItE K b a) [e, it] e (fun i h => (∃ old, IsEnum h e it (0 + (i : Int)) old) ∧ IsSeqIter b h it a i ∧ e ≠ it) where
  mem := by simp
  obj := fun i h st c hc => by
    obtain ⟨⟨old, he⟩, hi, _⟩ := st
    obtain ⟨o, x, y, ho, hd⟩ := hi.get
    rcases List.mem_cons.mp hc with z | z
    · rw [z]; exact ⟨_, he, fun v q => nomatch q⟩
    · rw [List.mem_singleton.mp z]; exact ⟨o, ho, fun v q => by rw [hd] at q; cases q⟩
  keep := fun i h h' st k => let ⟨⟨old, he⟩, hi, hne⟩ := st; ⟨⟨old, k e (by simp) _ he⟩, hi.keep fun o q => k it (by simp) o q, hne⟩
  item := by
    intro X hP hw hK hc i pp s σ H E J hf st hg
    subst hP hw hK
    obtain ⟨⟨old, he⟩, hit, hne⟩ := st
    obtain ⟨xs, x, hq, hx⟩ := hg
    obtain ⟨its, rv, hs⟩ := Inv.sq b J hq
    obtain ⟨u, hu, ru⟩ := rv.get hx
    obtain ⟨oi, xi, yi, hoi, hdi⟩ := hit.get
    have wm := hc.at J
    have hel : e < s.heap.objs.size := Heap.lt_size he
    have hil : it < s.heap.objs.size := Heap.lt_size hoi
    have hai : a ≠ it := fun z => by
      subst z
      cases b with
      | true => obtain ⟨o, q, _, n, d⟩ := (show s.heap.IsList a its.toArray from hs); rw [hoi] at q; cases q; rw [hdi] at d; cases d
      | false => obtain ⟨o, q, _, n, d⟩ := (show s.heap.IsTuple a its.toArray from hs); rw [hoi] at q; cases q; rw [hdi] at d; cases d
    have hea : e ≠ a := fun z => by
      subst z
      cases b with
      | true => obtain ⟨o, q, _, n, d⟩ := (show s.heap.IsList e its.toArray from hs); rw [show s.heap.get? e = some _ from he] at q; cases q; cases d
      | false => obtain ⟨o, q, _, n, d⟩ := (show s.heap.IsTuple e its.toArray from hs); rw [show s.heap.get? e = some _ from he] at q; cases q; cases d
    have heh : e ∉ hotFp X.A.in1 := fun hm => by
      rcases wm with z | ⟨x1, z, o, vs, q, d, c⟩
      · have z2 : X.A.in1.handled = none := z
        unfold hotFp at hm; rw [z2] at hm; cases hm
      · have z2 : X.A.in1.handled = some (.ref x1) := z
        unfold hotFp at hm; rw [z2] at hm
        have e2 : e = x1 := List.mem_singleton.mp hm
        rw [← e2, show s.heap.get? e = some _ from he] at q
        cases q
        cases d
        cases c
    have hef : e ∉ it :: a :: hotFp X.A.in1 := fun hm => by
      rcases List.mem_cons.mp hm with z | hm
      · exact hne z
      · rcases List.mem_cons.mp hm with z | hm
        · exact hea z
        · exact heh hm
    have D := draws_sq (prog := X.prog) (w := X.w) (A := X.A.in1) b it a hai its.toArray
    have W := WalksT.enumFrom 0 D e hne hef (by simp)
    have hi : i < its.toArray.size := by
      have z := (List.getElem?_eq_some_iff.mp hu).1
      simpa using z
    refine W.item i s _ _ hi ⟨⟨old, he⟩, ⟨hit, hs⟩, wm⟩ fun T vals h1 tk hP hT hTt hM k1 => ⟨_, rfl, ?_⟩
    refine W.go elts kk tpos i T _ _ _ hM fun h2 st2 k2 => ?_
    obtain ⟨t, x2, hx2, rfl⟩ := hP
    have ex : x2 = u := by
      have z : its.toArray[i]? = some u := by simpa using hu
      exact Option.some.inj (hx2.symm.trans z)
    subst ex
    have hTw := W.apart i T h1 hM
    obtain ⟨oT, eT, cT, nT, dT⟩ := hTt
    have new : ObjOk X.prog X.w (upd H T (.tup [.int (i : Nat), x])) h2 T (.tup [.int (i : Nat), x]) :=
      ⟨by show 2 ≤ sizeLine; decide, [.int (0 + (i : Int)) t, x2], .cons ⟨t, by rw [Int.zero_add]⟩ (.cons ru .nil), ⟨oT, k2 T oT hTw eT, cT, nT, dT⟩⟩
    have J1 : Inv X pp σ (upd H T (.tup [.int (i : Nat), x])) { s with heap := h2, toks := tk } :=
      J.turnedNew (ch := [e, it]) (fun c ob hb q => k2 c ob hb (k1 c ob hb q)) hf hT new
    refine ⟨.ref T, _, J1, rfl, ⟨T, x, rfl, J.hok.fresh hT, rfl, fun ys hy => by rw [Inv.sq_inj b J hy hq]; exact hx⟩, ⟨st2.1, st2.2.1.1, hne⟩, fun c hc => ?_⟩
    have hlt : c < s.heap.objs.size := by
      rcases List.mem_cons.mp hc with z | z
      · rw [z]; exact hel
      · rw [List.mem_singleton.mp z]; exact hil
    rw [upd_ne (Nat.ne_of_lt (Nat.lt_of_lt_of_le hlt hT))]
    exact (hf c hc).1
  done := by
    intro X hP hw hK hc i pp s σ H E J hf st hg
    subst hP hw hK
    obtain ⟨⟨old, he⟩, hit, hne⟩ := st
    obtain ⟨xs, hq, hx⟩ := hg
    obtain ⟨its, rv, hs⟩ := Inv.sq b J hq
    obtain ⟨oi, xi, yi, hoi, hdi⟩ := hit.get
    have wm := hc.at J
    have hel : e < s.heap.objs.size := Heap.lt_size he
    have hil : it < s.heap.objs.size := Heap.lt_size hoi
    have hai : a ≠ it := fun z => by
      subst z
      cases b with
      | true => obtain ⟨o, q, _, n, d⟩ := (show s.heap.IsList a its.toArray from hs); rw [hoi] at q; cases q; rw [hdi] at d; cases d
      | false => obtain ⟨o, q, _, n, d⟩ := (show s.heap.IsTuple a its.toArray from hs); rw [hoi] at q; cases q; rw [hdi] at d; cases d
    have hea : e ≠ a := fun z => by
      subst z
      cases b with
      | true => obtain ⟨o, q, _, n, d⟩ := (show s.heap.IsList e its.toArray from hs); rw [show s.heap.get? e = some _ from he] at q; cases q; cases d
      | false => obtain ⟨o, q, _, n, d⟩ := (show s.heap.IsTuple e its.toArray from hs); rw [show s.heap.get? e = some _ from he] at q; cases q; cases d
    have heh : e ∉ hotFp X.A.in1 := fun hm => by
      rcases wm with z | ⟨x1, z, o, vs, q, d, c⟩
      · have z2 : X.A.in1.handled = none := z
        unfold hotFp at hm; rw [z2] at hm; cases hm
      · have z2 : X.A.in1.handled = some (.ref x1) := z
        unfold hotFp at hm; rw [z2] at hm
        have e2 : e = x1 := List.mem_singleton.mp hm
        rw [← e2, show s.heap.get? e = some _ from he] at q
        cases q
        cases d
        cases c
    obtain ⟨f0, f1, f2, f3, f4, f5⟩ := hf it (by simp)
    have hl := rv.length
    have D := draws_sq (prog := X.prog) (w := X.w) (A := X.A.in1) b it a hai its.toArray
    refine wpAny_pyNext_enum_endD D he ?_ fun h1 eb => ⟨rfl, J.turned (t' := s.toks) (fun c o hb q => eb c o hb q) f0 f1 f3 f4 f5⟩
    have hi : i = its.toArray.size := by simp; omega
    rw [← hi]
    exact ⟨⟨hit, hs⟩, wm⟩
  self := fun A i s Q E st h => let ⟨⟨_, he⟩, _⟩ := st; wpAny_pyIter_enum he h
theorem meetsEnumT (l : Addr) (items : Array Value) (n : Nat) (dct : Option Addr) (sl : Array (Option Value)) :
    Meets (Builtin.«enumerate.__new__» ⟨[.type "enumerate", .ref l], []⟩) (fun _ R s => s.heap.get? l = some { cls := .type "tuple", dict := dct, data := .seq items n, slots := sl } ∧
      R (.ok (.ret (.ref (s.heap.push { cls := .type "tuple_iterator", data := .fields #[.ref l, .int 0 0] }).objs.size)))
        { s with heap := (s.heap.push { cls := .type "tuple_iterator", data := .fields #[.ref l, .int 0 0] }).push { cls := .type "enumerate", data := .fields #[.none, .bool false, .ref s.heap.objs.size, rawInt 0, .none, .none] } }) :=
  .of_wp fun prog w A R s hst => by
    obtain ⟨hp, g, d, tk, os⟩ := s; obtain ⟨ht, hst⟩ := hst
    have hsub := sub_enumerate
    have hT : Heap.IsTuple (Shared.heap ⟨hp, g, d, tk, os⟩) l items := ⟨_, ht, rfl, n, rfl⟩
    wp_walk using AutoSeq1.wpAny_loadPart' ht
    refine wpAny_stack_any fun _ => wpAny_pure ?_
    split
    · rename_i c _ _ _ _ _
      cases (c == Value.type "enumerate")
      · wp_walk using AutoSeq1.wpAny_loadPart' ht, wpAny_pyIter_tuple hT
        exact ⟨_, rfl, hst⟩
      · wp_walk using AutoSeq1.wpAny_loadPart' ht, wpAny_pyIter_tuple hT
        exact ⟨_, rfl, hst⟩
    · wp_walk using AutoSeq1.wpAny_loadPart' ht, wpAny_pyIter_tuple hT
      exact ⟨_, rfl, hst⟩
theorem call_enumT {prog : Program} {w : World} {A : Around} {E : Value → Shared → Prop} {s : Shared} {l : Addr} {items : Array Value} {Q : Value → Shared → Prop} (hT : s.heap.IsTuple l items)
    (h : ∀ h1, IsEnum h1 (s.heap.objs.size + 1) s.heap.objs.size 0 .none → h1.IsTupleIter s.heap.objs.size l 0 → (∀ b o, s.heap.get? b = some o → h1.get? b = some o) → Q (.ref (s.heap.objs.size + 1)) { s with heap := h1 }) :
    wpAny (model prog w) A (call (.type "enumerate") [.ref l]) Q E s := by
  obtain ⟨⟨c, dct, dt, sl⟩, hl, hc, n, hd⟩ := hT
  obtain rfl : c = .type "tuple" := hc
  obtain rfl : dt = .seq items n := hd
  refine callType_new F.called_enumerate (by decide) (F.typeCall_enumerate_1 _) (F.newCall_enumerate_1 _) (fun ob => F.args_object_init_2 ob _) F.entry_enumerate_new (meetsEnumT l items n dct sl) ⟨hl, ?_⟩
  generalize hi : ({ cls := .type "tuple_iterator", data := .fields #[.ref l, .int 0 0] } : Obj) = oi
  have fr : oi.isFreed = false := by rw [← hi]; rfl
  have hz : (s.heap.push oi).objs.size = s.heap.objs.size + 1 := Heap.size_push ..
  show _ ∧ _
  rw [hz]
  have he := Heap.get?_push_size (s.heap.push oi) (o := { cls := .type "enumerate", data := .fields #[.none, .bool false, .ref s.heap.objs.size, rawInt 0, .none, .none] }) rfl
  rw [hz] at he
  refine ⟨⟨_, he, rfl⟩, h _ he ⟨oi, Heap.get?_push_of_some _ (Heap.get?_push_size _ fr), by rw [← hi], by rw [← hi]; rfl⟩ fun b o y => Heap.get?_push_of_some _ (Heap.get?_push_of_some _ y)⟩
def iEn (K : PySem.W.Frag) (b : Bool) (ta : TA) : TI := fun σ H R => ta σ H fun vs H1 => ∃ a xs, vs = [.ref a] ∧ Sq K b H1 a xs ∧ R (ItE K b a) H1
theorem pi_enumW {X : Cx} {e : Expr} {ta : TA} {p pos tpos : Pos} {elts : List Expr} {kk : Nat} (b : Bool) (hg : Gl X "enumerate") (hm : X.mg "enumerate" = none) (ha : PA X [e] ta) (hs : starEach [e] X.env = [(false, eval e X.env)] := by rfl) :
    PIW X (.Tuple elts kk tpos) (.Call (.Name "enumerate" p) [e] [] pos) (iEn X.K b ta) := by
  refine ⟨fun pp s σ H R J h => ?_⟩
  refine Call_ (ld_blt J hg hm boot_enumerate (PyProof.Rows.callWith_type1 (thn (ha.run pos pp s σ H _ J h) fun us s1 ⟨vs, H1, J1, r1, a, xs, ex, hq, q⟩ => ?_) hs rfl))
  subst ex
  obtain ⟨u, rfl, r⟩ := vals1 r1
  cases r
  have fin : ∀ h1, IsEnum h1 (s1.heap.objs.size + 1) s1.heap.objs.size 0 .none → IsSeqIter b h1 s1.heap.objs.size a 0 → (∀ c o, s1.heap.get? c = some o → h1.get? c = some o) →
      wpAny (model X.prog X.w) X.A (pyIter (.ref (s1.heap.objs.size + 1))) (PIEW X pp σ (.Tuple elts kk tpos) R) X.xe { s1 with heap := h1 } := fun h1 he hit hk => by
    refine wpAny_pyIter_enum he ⟨s1.heap.objs.size + 1, [s1.heap.objs.size + 1, s1.heap.objs.size], _, _, H1, rfl, J1.kept (t' := s1.toks) hk, turn_enumW b a (s1.heap.objs.size + 1) s1.heap.objs.size, ⟨⟨.none, he⟩, hit, Nat.succ_ne_self _⟩, fun c hc => ?_, q⟩
    have hle : s1.heap.objs.size ≤ c := by
      rcases List.mem_cons.mp hc with z | z
      · rw [z]; exact Nat.le_add_right _ _
      · rw [List.mem_singleton.mp z]; exact Nat.le_refl _
    exact J1.fpOk hle (J1.hok.fresh hle)
  cases b with
  | true =>
    obtain ⟨its, rv, pl, hz⟩ := J1.list (show SqL X.K H1 a xs from hq)
    exact call_enumerate_list pl.isList fun h1 he hit hsz hk => fin h1 he hit hk
  | false =>
    obtain ⟨its, rv, pl, hz⟩ := J1.tuple (show SqT X.K H1 a xs from hq)
    exact call_enumT (show s1.heap.IsTuple a its.toArray from pl) fun h1 he hit hk => fin h1 he hit hk
/-! ### unpackings -/
section
variable {prog : Program} {w : World} {A : Around} {E : Value → Shared → Prop} {s : Shared}
theorem items_tup {t : Addr} {items : Array Value} {Q : List Value → Shared → Prop} (wm : WmAt A s.heap) (ht : s.heap.IsTuple t items)
    (hQ : ∀ h1, Heap.ExtBut s.heap.objs.size s.heap h1 → Q items.toList { s with heap := h1 }) : wpAny (model prog w) A (unpackItems (.ref t) items.size none) Q E s := by
  have hlt : t ≠ s.heap.objs.size := by obtain ⟨o, ho, _⟩ := ht; exact Nat.ne_of_lt (Heap.lt_size ho)
  unfold unpackItems notIterableAtAll
  refine wpAny_bind (wpAny_bind (wpAny_specialOf ht.typeIs F.slot_tuple_iter.lookup (wpAny_pure ?_)))
  simp only [Bool.false_eq_true, if_false]
  refine wpAny_bind (wpAny_holding (wpAny_pyIter_tuple ht (wpAny_bind (wpAny_holding (wpAny_draw_tuple hlt items.size 0 _ _ ⟨_, Heap.get?_push_size _ rfl, rfl, rfl⟩ (ht.push _) (by omega) fun h1 hit hs => ?_)))))
  rw [show List.take items.size (List.drop 0 items.toList) = items.toList by rw [List.drop_zero]; exact List.take_of_length_le (by simp), if_neg (by simp)]
  have wm1 : WmAt A h1 := by
    rcases wm with z | ⟨x1, z, o, vs, e, r⟩
    · exact .inl z
    · exact .inr ⟨x1, z, o, vs, hs.extBut x1 o (Nat.ne_of_lt (Heap.lt_size e)) (Heap.get?_push_of_some _ e), r⟩
  refine wpAny_bind (wpAny_holding (LNa.tuple_end wm1 hit ((ht.push _).extBut hs.extBut hlt) (by simp) fun h2 he => ?_))
  simp only [Option.isSome_none, Bool.false_eq_true, if_false]
  exact wpAny_pure (hQ h2 fun b o hb e => he b o hb (hs.extBut b o hb (Heap.get?_push_of_some _ e)))
theorem items_lst {t : Addr} {items : Array Value} {Q : List Value → Shared → Prop} (wm : WmAt A s.heap) (ht : s.heap.IsList t items)
    (hQ : ∀ h1, Heap.ExtBut s.heap.objs.size s.heap h1 → Q items.toList { s with heap := h1 }) : wpAny (model prog w) A (unpackItems (.ref t) items.size none) Q E s := by
  have hlt : t ≠ s.heap.objs.size := by obtain ⟨o, ho, _⟩ := ht; exact Nat.ne_of_lt (Heap.lt_size ho)
  unfold unpackItems notIterableAtAll
  refine wpAny_bind (wpAny_bind (wpAny_specialOf ht.typeIs slot_list_iter.lookup (wpAny_pure ?_)))
  simp only [Bool.false_eq_true, if_false]
  refine wpAny_bind (wpAny_holding (wpAny_pyIter_list ht (wpAny_bind (wpAny_holding (PySem.W.kun_draw hlt items.size 0 _ _ ⟨_, Heap.get?_push_size _ rfl, rfl, rfl⟩ (ht.push _) (by omega) fun h1 hit hs => ?_)))))
  rw [show List.take items.size (List.drop 0 items.toList) = items.toList by rw [List.drop_zero]; exact List.take_of_length_le (by simp), if_neg (by simp)]
  have wm1 : WmAt A h1 := by
    rcases wm with z | ⟨x1, z, o, vs, e, r⟩
    · exact .inl z
    · exact .inr ⟨x1, z, o, vs, hs.extBut x1 o (Nat.ne_of_lt (Heap.lt_size e)) (Heap.get?_push_of_some _ e), r⟩
  refine wpAny_bind (wpAny_holding (LNa.list_end wm1 hit ((ht.push _).extBut hs.extBut hlt) (by simp) fun h2 he => ?_))
  simp only [Option.isSome_none, Bool.false_eq_true, if_false]
  exact wpAny_pure (hQ h2 fun b o hb e => he b o hb (hs.extBut b o hb (Heap.get?_push_of_some _ e)))
end
section
variable {X : Cx} {pos : Pos}
/-- a, b, .. = a sequence of that length -/
def gSq (K : PySem.W.Frag) (b : Bool) (n : Nat) (t : TGs) : TG := fun v σ H Q => ∃ a xs, v = .ref a ∧ Sq K b H a xs ∧ xs.length = n ∧ t xs σ H Q
theorem pg_sqW {es : List Expr} {k : Nat} {t : TGs} {n : Nat} (b : Bool) (hc : Wm X) (h : PGs X es t)
    (hn : (assignEach es X.env).length = n := by rfl) (hst : (assignEach es X.env).findIdx? (·.1) = none := by rfl) : PG X (.Tuple es k pos) (gSq X.K b n t) := by
  refine ⟨fun pp s σ H v u Q J r ⟨a, xs, e1, hq, hl, hw⟩ => ?_⟩
  subst e1
  cases r
  obtain ⟨its, rv, hs⟩ := Inv.sq b J hq
  have hsz : (assignEach es X.env).length = its.toArray.size := by simp [hn, ← hl, rv.length]
  rw [PyProof.Rows.assign_Tuple]
  refine wpAny_bind (wpAny_standAt ?_)
  unfold unpack
  rw [hsz, hst]
  have fin : ∀ h1, Heap.ExtBut s.heap.objs.size s.heap h1 → wpAny (model X.prog X.w) X.A (assignInOrder ((assignEach es X.env).map (·.2)) its.toArray.toList) (fun _ s' => ∃ σ' H', Inv X pp σ' H' s' ∧ Q σ' H') X.xe { s with heap := h1 } := fun h1 hx =>
    h.run pp _ σ H xs _ Q (J.kept (t' := s.toks) fun b o e => hx b o (Nat.ne_of_lt (Heap.lt_size e)) e) (by simpa using rv) hw
  cases b with
  | true => exact wpAny_bind (wpAny_holding (items_lst (hc.at J) hs fin))
  | false => exact wpAny_bind (wpAny_holding (items_tup (hc.at J) hs fin))
end
end LNb
set_option maxHeartbeats 4000000
/-! Warm comprehensions, max, min, all, list(range), pairs stored at once. -/
namespace LNb
open PySem PySem.Spec PyProof.Rows L2 HotX L2H LNa
/-- a comprehension's block that keeps the pins pn -/
abbrev blkW (X : Cx) (pn : List (Addr × Obj)) (s : Shared) (H : Hp) (scope : Scope) (cenv : Env) (fp : List Addr) : Cx := { X.blk s H scope cenv fp with pn := pn }
section
variable {X : Cx}
theorem Inv.repin {pn : List (Addr × Obj)} {s0 : Shared} {H0 : Hp} {scope : Scope} {cenv : Env} {fp : List Addr} {σ : St} {H : Hp} {s : Shared} (J : Inv (X.blk s0 H0 scope cenv fp) [] σ H s)
    (h : ∀ p ∈ pn, s.heap.get? p.1 = some p.2 ∧ H p.1 = none ∧ p.1 ≠ cenv.locals ∧ p.1 ∉ frs X.stack ∧ ∀ v, p.2.data ≠ .cell v) : Inv (blkW X pn s0 H0 scope cenv fp) [] σ H s :=
  have k := J.ok
  ⟨⟨k.mod, k.kind, k.glob, k.blt, k.above, k.inj, k.has, k.cab, k.hd, k.frames, k.stk, k.exf, k.bs, k.bsz, k.noex, k.exfs, k.funs, k.frf⟩, J.os, J.bare, J.base, J.loc, J.cell, J.free, J.freeC, fun p hp => h p (by rw [List.append_nil] at hp; exact hp), J.hok, J.len⟩
theorem lc_hot {pp : List (Addr × Obj)} {s : Shared} {σ : St} {H : Hp} {Q : VK} {elt tg iter : Expr} {ifs : List Expr} {scope : Scope} {own : List (Str × Nat)} {pos pos' : Pos} {wi : TI} {g : TG} {tt : TT} {te : TE} {use : Option (Value → Sem Unit)} {Qf : Value → Shared → Prop}
    (hot : HotC X) (hN : X.N.Nodup) (J : Inv X pp σ H s) (hi : PIH X tg iter wi) (ok : BlkOk X.N X.env.scope scope own)
    (hg : ∀ (s : Shared) (H : Hp) (C : Addr) (cl : List (Str × Addr)) (fp : List Addr), PG (blkW X X.pn s H scope (compEnvC scope cl C X.env) fp) tg g) (ht : ∀ (s : Shared) (H : Hp) (C : Addr) (cl : List (Str × Addr)) (fp : List Addr), PTs (blkW X X.pn s H scope (compEnvC scope cl C X.env) fp) ifs tt)
    (he : ∀ (s : Shared) (H : Hp) (C : Addr) (cl : List (Str × Addr)) (fp : List Addr), PE (blkW X X.pn s H scope (compEnvC scope cl C X.env) fp) elt te) (hs : ∀ x, foldedSetIterable iter X.env x = pure x)
    (h : tLc wi g tt te (own.map (·.2)) σ H Q)
    (hRR : ∀ D C s' m H', Inv X pp σ H' s' → Q (.ref D) H' → s'.heap.Ns C m → FpOk X pp H' C → compPost (model X.prog X.w) X.A X.xe use Qf (.ref D) C (.ok .next) s') :
    wpAny (model X.prog X.w) X.A (comprehension (.ListComp elt [⟨tg, iter, ifs, 0⟩] scope pos) scope X.env pos' (newList []) false (eval iter X.env) use) Qf X.xe s := by
  have hclo : ∀ y ∈ scope.names, y.2 = .free → ∃ c, X.env.cells.lookup y.1 = some c := fun y hy e => (ok.free y hy e).elim (fun k => J.ok.has _ (.inl k)) fun k => J.ok.has _ (.inr k)
  refine wpAny_comprehension_free (use := use) rfl hs (closure_ok hclo) ok.kind (fun y hy e => by rw [ok.uniq y hy, e]) (thn (hi.run pp s σ H _ J h) fun xv s1 hx => thn hx fun itv s2 h2 => ?_)
  obtain ⟨it, fp, tn, Jt, H2, e, J2, T, st2, f2, q⟩ := h2
  subst e
  refine wpAny_newObj_type (newEnv_comp ?_) (by show 0 ≤ sizeLine; decide)
  generalize hD : s2.heap.objs.size = D
  obtain ⟨W, ⟨m0, w0⟩, turn⟩ := q D (J2.hok.fresh (Nat.le_of_eq hD))
  generalize hs3 : ({ s2 with heap := s2.heap.push { cls := .type "list", data := .seq ([] : List Value).toArray } } : Shared) = s3
  have h3 : s3.heap = s2.heap.push { cls := .type "list", data := .seq ([] : List Value).toArray } := by rw [← hs3]
  have J3 : Inv X pp σ (upd H2 D (.lst [])) s3 := by
    rw [← hs3]
    exact J2.laid (t' := s2.toks) (fun b o e => Heap.get?_push_of_some _ e) (Nat.le_of_eq hD) ⟨Nat.zero_le _, [], 0, .nil, by rw [← hD]; exact Heap.get?_push_size _ rfl⟩
  have f3 : ∀ b ∈ fp, FpOk X pp (upd H2 D (.lst [])) b ∧ b < s3.heap.objs.size := fun b hb => by
    obtain ⟨o, e, _⟩ := T.obj _ _ st2 b hb
    have hlt := Heap.lt_size e
    exact ⟨⟨by rw [upd_ne (by rw [← hD]; exact Nat.ne_of_lt hlt)]; exact (f2 b hb).1, (f2 b hb).2⟩, by rw [h3, Heap.size_push]; exact Nat.lt_succ_of_lt hlt⟩
  have st3 : tn 0 s3.heap := T.keep _ _ _ st2 fun b _ o e => by rw [h3]; exact Heap.get?_push_of_some _ e
  have cl3 := cellsFrom (s3.heap.objs.size + 1) scope.names (cloFrom X.env.cells scope.names [])
  have J4 : Inv (blkW X X.pn s3 (upd H2 D (.lst [])) scope (compEnvC scope (cellsFrom (s3.heap.objs.size + 1) scope.names (cloFrom X.env.cells scope.names [])) s3.heap.objs.size X.env) fp) [] (wipe σ (own.map (·.2))) (upd H2 D (.lst []))
      { s3 with heap := pushCells (s3.heap.push { cls := .type "dict", data := .dict #[] }) scope.names } := by
    refine Inv.repin (block_start J3 ok hN f3) fun p hp => ?_
    have P3 := J3.pin p (List.mem_append_left _ hp)
    exact ⟨pushCells_keeps _ _ _ _ (Heap.get?_push_of_some _ P3.1), P3.2.1, Nat.ne_of_lt (Heap.lt_size P3.1), fun z => (List.mem_cons.mp (J3.stkSub p.1 z)).elim P3.2.2.1 P3.2.2.2.1, P3.2.2.2.2⟩
  have pg := hg s3 (upd H2 D (.lst [])) s3.heap.objs.size (cellsFrom (s3.heap.objs.size + 1) scope.names (cloFrom X.env.cells scope.names [])) fp
  have pt := ht s3 (upd H2 D (.lst [])) s3.heap.objs.size (cellsFrom (s3.heap.objs.size + 1) scope.names (cloFrom X.env.cells scope.names [])) fp
  have pe := he s3 (upd H2 D (.lst [])) s3.heap.objs.size (cellsFrom (s3.heap.objs.size + 1) scope.names (cloFrom X.env.cells scope.names [])) fp
  show codeAny _ _ (.compStart (.ListComp elt [⟨tg, iter, ifs, 0⟩] scope pos) 0 (.ref it) (.ref D) (compEnvC scope (cellsFrom (s3.heap.objs.size + 1) scope.names (cloFrom X.env.cells scope.names [])) s3.heap.objs.size X.env)) (compPost (model X.prog X.w) X.A X.xe use Qf (.ref D) s3.heap.objs.size)
    { s3 with heap := pushCells (s3.heap.push { cls := .type "dict", data := .dict #[] }) scope.names }
  have nfp : ∀ b ∈ fp, (upd H2 D (.lst [])) b = none := fun b hb => (f3 b hb).1.1
  generalize hce : compEnvC scope (cellsFrom (s3.heap.objs.size + 1) scope.names (cloFrom X.env.cells scope.names [])) s3.heap.objs.size X.env = ce at J4 pg pt pe ⊢
  have cL : ce.locals = s3.heap.objs.size := by subst hce; rfl
  generalize hH3 : upd H2 D (.lst []) = H3 at J3 J4 pg pt pe w0 nfp f3
  generalize hs4 : ({ s3 with heap := pushCells (s3.heap.push { cls := .type "dict", data := .dict #[] }) scope.names } : Shared) = s4 at J4 ⊢
  have st4 : tn 0 s4.heap := T.keep _ _ _ st3 fun b _ o e => by rw [← hs4]; exact pushCells_keeps _ _ _ _ (Heap.get?_push_of_some _ e)
  have hotB : HotC (blkW X X.pn s3 H3 scope ce fp) := hot
  have stat : ∀ {σ1 : St} {H1 : Hp} {s1 : Shared}, Inv (blkW X X.pn s3 H3 scope ce fp) [] σ1 H1 s1 → (∀ b ∈ fp, H1 b = none) → ∀ b ∈ fp, FpOk (blkW X X.pn s3 H3 scope ce fp) [] H1 b := fun {σ1 H1 s1} I1 hn b hb =>
    ⟨hn b hb, (I1.ok.exf b hb).1, I1.ok.exfs b hb, .inl hb, fun x c e => (I1.ok.exf b hb).2 x c e, fun p hp => (f3 b hb).1.2.2.2.2.2 p (List.mem_append_left _ (by rw [List.append_nil] at hp; exact hp))⟩
  have loop : codeAny (model X.prog X.w) X.A (.compLoop (.ListComp elt [⟨tg, iter, ifs, 0⟩] scope pos) 0 (.ref it) (.ref D) ce) (compPost (model X.prog X.w) X.A X.xe use Qf (.ref D) s3.heap.objs.size) s4 := by
    refine compLoop_any (fun n s1 => ∃ i H1, Inv (blkW X X.pn s3 H3 scope ce fp) [] (wipe σ (own.map (·.2))) H1 s1 ∧ tn i s1.heap ∧ (∀ b ∈ fp, H1 b = none) ∧ W i n H1) ?_ m0 ⟨0, H3, J4, st4, nfp, w0⟩
    rintro n s5 ⟨i, H5, J5, st5, n5, w5⟩
    rcases turn i n H5 w5 with ⟨stop, qq⟩ | ⟨go, Nx, hNx, step⟩
    · refine thnF (T.done (blkW X X.pn s3 H3 scope ce fp) rfl rfl rfl hotB i [] s5 _ H5 (fun _ _ => False) J5 (stat J5 n5) st5 stop) fun r s6 ⟨hr, J6⟩ => ?_
      subst hr
      have J7 : Inv X pp σ H5 s6 := J3.call' (ch := fp) J6.os J6.base J6.hok J6.bare fun b hb => ⟨(f3 b hb).1.2.2.2.1, (f3 b hb).1.2.1, (f3 b hb).1.2.2.2.2.1, (f3 b hb).1.2.2.2.2.2⟩
      have nC : H5 s3.heap.objs.size = none := cL ▸ J6.free
      obtain ⟨m, hn, _⟩ := J6.loc
      have hn : s6.heap.Ns ce.locals m := hn
      rw [cL] at hn
      exact hRR D s3.heap.objs.size s6 m H5 J7 qq hn (J3.fpOk (Nat.le_refl _) nC)
    · refine thnF (T.item (blkW X X.pn s3 H3 scope ce fp) rfl rfl rfl hotB i [] s5 _ H5 (fun _ _ => False) J5 (stat J5 n5) st5 go) fun r s6 ⟨u, hr, h6⟩ => ?_
      subst hr
      refine thnF h6 fun _ s7 ⟨x, H7, J7, r7, y7, st7, n7⟩ => ?_
      refine thnF (pg.run _ s7 _ H7 x u _ (J7.pinned (stat J7 n7) (T.obj _ _ st7)) r7 (step x H7 y7)) fun _ s8 ⟨σ8, H8, J8, hw8, q8⟩ => ?_
      refine thnF (pt.run _ s8 σ8 H8 _ J8 q8) fun b s9 ⟨H9, J9, q9⟩ => ?_
      have fin : ∀ {s1 : Shared} {H1 : Hp}, Inv (blkW X X.pn s3 H3 scope ce fp) ([] ++ pinsAt fp s7.heap) σ8 H1 s1 → Nx H1 → ∃ m, m < n ∧ ∃ i H1, Inv (blkW X X.pn s3 H3 scope ce fp) [] (wipe σ (own.map (·.2))) H1 s1 ∧ tn i s1.heap ∧ (∀ b ∈ fp, H1 b = none) ∧ W i m H1 := fun {s1 H1} I1 nx => by
        obtain ⟨m1, hm, w1⟩ := hNx H1 nx
        have stay : ∀ b ∈ fp, ∀ o, s7.heap.get? b = some o → s1.heap.get? b = some o ∧ H1 b = none := fun b hb o e =>
          have z := I1.pin (b, o) (List.mem_append_right _ (List.mem_append_right _ (mem_pinsAt hb e)))
          ⟨z.1, z.2.1⟩
        refine ⟨m1, hm, i + 1, H1, (I1.unpinned (pins := [])).weak (by rw [← hw8, wipe_length]) (fun j v e => (wipe_some (hw8 ▸ e)).1), T.keep _ _ _ st7 fun b hb o e => (stay b hb o e).1, fun b hb => ?_, w1⟩
        obtain ⟨o, e, _⟩ := T.obj _ _ st7 b hb
        exact (stay b hb o e).2
      cases b with
      | false =>
        simp only [Bool.false_eq_true, if_false] at q9 ⊢
        exact fin J9 q9
      | true =>
        simp only [if_true] at q9 ⊢
        exact thnF (pe.run _ s9 σ8 H9 _ J9 q9) fun z s10 ⟨yv, H10, J10, r10, acc, hD10, hz10, nx⟩ => app_ok (X := blkW X X.pn s3 H3 scope ce fp) J10 hD10 hz10 r10 fun s11 J11 => fin J11 nx
  exact codeAny_compStart_list loop (T.self X.A 0 _ _ _ st4 loop)
/-- a list comprehension, warm: the block's context keeps the pins -/
theorem pe_lcW {elt tg iter : Expr} {ifs : List Expr} {scope : Scope} {own : List (Str × Nat)} {pos : Pos} {wi : TI} {g : TG} {tt : TT} {te : TE} (hc : Wm X) (hN : X.N.Nodup) (hi : PIW X tg iter wi) (ok : BlkOk X.N X.env.scope scope own)
    (hg : ∀ (pn : List (Addr × Obj)) (s : Shared) (H : Hp) (C : Addr) (cl : List (Str × Addr)) (fp : List Addr), Wm (blkW X pn s H scope (compEnvC scope cl C X.env) fp) → PG (blkW X pn s H scope (compEnvC scope cl C X.env) fp) tg g)
    (ht : ∀ (pn : List (Addr × Obj)) (s : Shared) (H : Hp) (C : Addr) (cl : List (Str × Addr)) (fp : List Addr), Wm (blkW X pn s H scope (compEnvC scope cl C X.env) fp) → PTs (blkW X pn s H scope (compEnvC scope cl C X.env) fp) ifs tt)
    (he : ∀ (pn : List (Addr × Obj)) (s : Shared) (H : Hp) (C : Addr) (cl : List (Str × Addr)) (fp : List Addr), Wm (blkW X pn s H scope (compEnvC scope cl C X.env) fp) → PE (blkW X pn s H scope (compEnvC scope cl C X.env) fp) elt te) (hs : ∀ x, foldedSetIterable iter X.env x = pure x := by intro _; rfl) :
    PE X (.ListComp elt [⟨tg, iter, ifs, 0⟩] scope pos) (tLc wi g tt te (own.map (·.2))) := by
  rcases hc with c | c
  · exact pe_lc c hN hi.calm ok (fun s H C cl fp => hg [] s H C cl fp (.inl c)) (fun s H C cl fp => ht [] s H C cl fp (.inl c)) (fun s H C cl fp => he [] s H C cl fp (.inl c)) hs
  · refine ⟨fun pp s σ H Q J h => ?_⟩
    rw [eval_ListComp]
    refine lc_hot c hN J hi.hot ok (fun s H C cl fp => hg X.pn s H C cl fp (.inr c)) (fun s H C cl fp => ht X.pn s H C cl fp (.inr c)) (fun s H C cl fp => he X.pn s H C cl fp (.inr c)) hs h fun D C s1 m H1 J1 q hn f => ⟨m, hn, fun h2 sb => ?_⟩
    obtain ⟨f0, f1, f2, f3, f4, f5⟩ := f
    exact ⟨.ref D, H1, J1.turned (t' := s1.toks) (fun b o hb e => (sb.2 b hb).trans e) f0 f1 f3 f4 f5, rfl, q⟩
/-- name = [..] on one line -/
theorem ps_setLcW {i : Nat} {y : Str} {py : Pos} {elt tg iter : Expr} {ifs : List Expr} {scope : Scope} {own : List (Str × Nat)} {pos spos : Pos} {wi : TI} {g : TG} {tt : TT} {te : TE} (hc : Wm X) (hN : X.N.Nodup) (hy : X.N[i]? = some y) (hyl : X.env.scope.names.lookup y = some .local)
    (hsw : swapsWith (.ListComp elt [⟨tg, iter, ifs, 0⟩] scope pos) (some (.Name y py)) spos.line X.env = pure true) (hi : PIW X tg iter wi) (ok : BlkOk X.N X.env.scope scope own)
    (hg : ∀ (pn : List (Addr × Obj)) (s : Shared) (H : Hp) (C : Addr) (cl : List (Str × Addr)) (fp : List Addr), Wm (blkW X pn s H scope (compEnvC scope cl C X.env) fp) → PG (blkW X pn s H scope (compEnvC scope cl C X.env) fp) tg g)
    (ht : ∀ (pn : List (Addr × Obj)) (s : Shared) (H : Hp) (C : Addr) (cl : List (Str × Addr)) (fp : List Addr), Wm (blkW X pn s H scope (compEnvC scope cl C X.env) fp) → PTs (blkW X pn s H scope (compEnvC scope cl C X.env) fp) ifs tt)
    (he : ∀ (pn : List (Addr × Obj)) (s : Shared) (H : Hp) (C : Addr) (cl : List (Str × Addr)) (fp : List Addr), Wm (blkW X pn s H scope (compEnvC scope cl C X.env) fp) → PE (blkW X pn s H scope (compEnvC scope cl C X.env) fp) elt te) (hs : ∀ x, foldedSetIterable iter X.env x = pure x := by intro _; rfl) :
    PS X (.Assign [.Name y py] (.ListComp elt [⟨tg, iter, ifs, 0⟩] scope pos) spos) (tAsg (tLc wi g tt te (own.map (·.2))) (gName i)) := by
  rcases hc with c | c
  · exact ps_setLc c hN hy hyl hsw hi.calm ok (fun s H C cl fp => hg [] s H C cl fp (.inl c)) (fun s H C cl fp => ht [] s H C cl fp (.inl c)) (fun s H C cl fp => he [] s H C cl fp (.inl c)) hs
  · refine ⟨fun pp s σ H D J h => ?_⟩
    rw [exec_Assign_Name_used _ _ _ _ hsw]
    refine wpAny_bind (wpAny_standAt (wpAny_bind ?_))
    show wpAny _ X.A (do let _ ← comprehension (.ListComp elt [⟨tg, iter, ifs, 0⟩] scope pos) scope X.env (firstIterPos [⟨tg, iter, ifs, 0⟩] pos) (newList []) false (eval iter X.env) (some (assign (.Name y py) X.env))) _ _ s
    have h : tLc wi g tt te (own.map (·.2)) σ H (fun x H1 => gName i x σ H1 D.nx) := h
    refine wpAny_bind (thn (lc_hot (Qf := fun _ s1 => SP X pp D .next s1) c hN J hi.hot ok (fun s H C cl fp => hg X.pn s H C cl fp (.inr c)) (fun s H C cl fp => ht X.pn s H C cl fp (.inr c)) (fun s H C cl fp => he X.pn s H C cl fp (.inr c)) hs h fun L C s1 m H1 J1 q hn f => ?_) fun _ s1 hq => wpAny_pure (wpAny_pure hq))
    show wpAny _ _ (assign (.Name y py) X.env (.ref L)) _ _ _
    refine wpAny_assign_Name (store_ok2 (v := V.ref L) J1 hN hy (.inl hyl) rfl (fun s2 J2 ⟨a, sb, ha⟩ => ?_) (.inr hyl))
    obtain ⟨f0, f1, f2, f3, f4, f5⟩ := f
    have haC : C ≠ a := ha.elim (fun z => by rw [z]; exact f1) fun z e => f4 y a z e.symm
    exact ⟨m, hn.sameBut sb haC, fun h3 sb3 => ⟨_, H1, J2.turned (t' := s2.toks) (fun b o hb e => (sb3.2 b hb).trans e) f0 f1 f3 f4 f5, q⟩⟩
end
end LNb
set_option maxHeartbeats 4000000
/-! Warm max, min, all, list(range), pairs stored at once. -/
namespace LNb
open PySem PySem.Spec PyProof.Rows L2 HotX L2H LNa
section
variable {prog : Program} {w : World} {A : Around} {E : Value → Shared → Prop} {s : Shared}
theorem WmAt.push {h : Heap} (wm : WmAt A h) (o : Obj) : WmAt A (h.push o) := by
  rcases wm with z | ⟨x1, z, ob, vs, e, r⟩
  · exact .inl z
  · exact .inr ⟨x1, z, ob, vs, Heap.get?_push_of_some _ e, r⟩
theorem best_gt {a b : Int} {t u : Tok} {v : Value} (h : (intItems #[(a, t), (b, u)])[argBest (fun i j => decide (numAt #[(a, t), (b, u)] i > numAt #[(a, t), (b, u)] j)) ((intItems #[(a, t), (b, u)]).size - 1)]? = some v) : v = if b > a then Value.int b u else Value.int a t := by
  by_cases hba : b > a <;> simp [intItems, argBest, numAt, hba] at h ⊢ <;> exact h.symm
theorem best_lt {a b : Int} {t u : Tok} {v : Value} (h : (intItems #[(a, t), (b, u)])[argBest (fun i j => decide (numAt #[(a, t), (b, u)] i < numAt #[(a, t), (b, u)] j)) ((intItems #[(a, t), (b, u)]).size - 1)]? = some v) : v = if b < a then Value.int b u else Value.int a t := by
  by_cases hba : b < a <;> simp [intItems, argBest, numAt, hba] at h ⊢ <;> exact h.symm
theorem two_old {a b : Value} {I2 : Addr} {h1 : Heap} (hk : ∀ c o, c ∉ [(s.heap.push { cls := .type "tuple", data := .seq #[a, b] }).objs.size] → ((s.heap.push { cls := .type "tuple", data := .seq #[a, b] }).push { cls := .type "tuple_iterator", data := .fields #[.ref s.heap.objs.size, .int 0 0] }).get? c = some o → h1.get? c = some o) :
    ∀ c o, s.heap.get? c = some o → h1.get? c = some o := fun c o e => by
  refine hk c o (fun hm => ?_) (Heap.get?_push_of_some _ (Heap.get?_push_of_some _ e))
  have z := List.mem_singleton.mp hm
  have l := Heap.lt_size e
  rw [z, Heap.size_push] at l
  exact Nat.lt_irrefl _ (Nat.lt_of_succ_lt l)
theorem fp_lt {o1 o2 : Obj} (wm : WmAt A s.heap) : ∀ c ∈ (s.heap.push o1).objs.size :: s.heap.objs.size :: hotFp A.in1, c < ((s.heap.push o1).push o2).objs.size := fun c hc => by
  rw [Heap.size_push, Heap.size_push]
  rw [Heap.size_push] at hc
  rcases List.mem_cons.mp hc with z | hc
  · rw [z]; exact Nat.lt_succ_self _
  · rcases List.mem_cons.mp hc with z | hc
    · rw [z]; exact Nat.lt_succ_of_lt (Nat.lt_succ_self _)
    · exact Nat.lt_succ_of_lt (Nat.lt_succ_of_lt (hotFp_lt (A := A) wm c hc))
theorem maxW {a b : Int} {t u : Tok} {Q : Value → Shared → Prop} (wm : WmAt A s.heap)
    (h : ∀ h1 tk, (∀ c o, s.heap.get? c = some o → h1.get? c = some o) → Q (if b > a then .int b u else .int a t) { s with heap := h1, toks := tk }) : wpAny (model prog w) A (call (.builtin "max") [.int a t, .int b u]) Q E s := by
  have hT : (s.heap.push { cls := .type "tuple", data := .seq #[.int a t, .int b u] }).IsTuple s.heap.objs.size (intItems #[(a, t), (b, u)]) := ⟨_, Heap.get?_push_size _ rfl, rfl, 0, by simp [intItems]⟩
  have hsz : (s.heap.push { cls := .type "tuple", data := .seq #[.int a t, .int b u] }).objs.size = s.heap.objs.size + 1 := Heap.size_push ..
  refine call_max_two (wpAny_pyIter_tuple hT ⟨_, _, _, _, _, _, _, rfl, walks_tuple (A := A.in1) _ s.heap.objs.size (by rw [hsz]; exact Nat.ne_of_lt (Nat.lt_succ_self _)) (intItems #[(a, t), (b, u)]),
    ⟨⟨⟨_, Heap.get?_push_size _ rfl, rfl, rfl⟩, hT.push _⟩, WmAt.push (WmAt.push (A := A.in1) wm _) _⟩, fp_lt wm, by simp [intItems], CmpOf.ints_gt (numAt #[(a, t), (b, u)]) (fun _ _ => intItems_at), fun v h1 tk hP hk => ?_⟩)
  rw [best_gt hP]
  exact h h1 tk (two_old (I2 := 0) hk)
theorem minW {a b : Int} {t u : Tok} {Q : Value → Shared → Prop} (wm : WmAt A s.heap)
    (h : ∀ h1 tk, (∀ c o, s.heap.get? c = some o → h1.get? c = some o) → Q (if b < a then .int b u else .int a t) { s with heap := h1, toks := tk }) : wpAny (model prog w) A (call (.builtin "min") [.int a t, .int b u]) Q E s := by
  have hT : (s.heap.push { cls := .type "tuple", data := .seq #[.int a t, .int b u] }).IsTuple s.heap.objs.size (intItems #[(a, t), (b, u)]) := ⟨_, Heap.get?_push_size _ rfl, rfl, 0, by simp [intItems]⟩
  have hsz : (s.heap.push { cls := .type "tuple", data := .seq #[.int a t, .int b u] }).objs.size = s.heap.objs.size + 1 := Heap.size_push ..
  refine call_min_two (wpAny_pyIter_tuple hT ⟨_, _, _, _, _, _, _, rfl, walks_tuple (A := A.in1) _ s.heap.objs.size (by rw [hsz]; exact Nat.ne_of_lt (Nat.lt_succ_self _)) (intItems #[(a, t), (b, u)]),
    ⟨⟨⟨_, Heap.get?_push_size _ rfl, rfl, rfl⟩, hT.push _⟩, WmAt.push (WmAt.push (A := A.in1) wm _) _⟩, fp_lt wm, by simp [intItems], CmpOf.ints_lt (numAt #[(a, t), (b, u)]) (fun _ _ => intItems_at), fun v h1 tk hP hk => ?_⟩)
  rw [best_lt hP]
  exact h h1 tk (two_old (I2 := 0) hk)
/-- a range walked, warm -/
theorem walks_rng (I : Addr) (a : Int) (n : Nat) : Walks prog w A I (I :: hotFp A) [I] n (fun i v => ∃ t, v = .int (a + i * 1) t) (fun i h => IsRangeIter h I (a + (i : Nat) * 1) ((n : Int) - (i : Nat)) 1 ∧ WmAt A h ∧ I ∉ hotFp A) where
  sub := fun b hb => by simp at hb; simp [hb]
  frame := fun i h h1 st hk => ⟨hk I (by simp) _ st.1, HotSt.frame st.2.1 fun b hb o e => hk b (by simp [hb]) o e, st.2.2⟩
  item := fun i s Q E hi st hQ => by
    refine wpAny_pyNext_range_item st.1 (by omega) fun h1 hit hs => hQ _ h1 _ ⟨_, rfl⟩ ⟨?_, HotSt.frame st.2.1 fun b hb o e => hs.extBut b o (fun z => st.2.2 (z ▸ hb)) e, st.2.2⟩ fun b o hb e => hs.extBut b o (fun z => hb (by simp [z])) e
    have e1 : a + ((i + 1 : Nat) : Int) * 1 = a + (i : Int) * 1 + 1 := by omega
    have e2 : (n : Int) - ((i + 1 : Nat) : Int) = (n : Int) - (i : Int) - 1 := by omega
    rw [e1, e2]; exact hit
  done := fun s Q E st hQ => LNa.range_end st.2.1 st.1 (by omega) fun h1 he => hQ h1 s.toks fun b o hb e => he b o (fun z => hb (by simp [z])) e
  self := fun _ _ _ _ st hQ => wpAny_pyIter_rangeiter st.1 hQ
theorem not_hot {h : Heap} {b : Addr} (wm : WmAt A h) (hb : h.objs.size ≤ b) : b ∉ hotFp A := fun z => absurd (hotFp_lt wm b z) (Nat.not_lt.mpr hb)
theorem extend_rng {R : Result → Shared → Prop} {r : Addr} {a b : Int} {t u v : Tok} {n : Nat} (wm : WmAt A s.heap) (hr : IsRange s.heap r a b 1 t u v) (hsm : Builtin.Range.small a b 1 = true)
    (hn : Builtin.Range.rangeSize a b 1 = n) (hl : n ≤ 2 ^ 24) (S : Addr) (res : Value) (c0 : Nat) (hS : s.heap.get? S = some { cls := .type "list", data := .seq #[] c0 }) (hSh : S ∉ hotFp A)
    (hR : ∀ h1 tk acc c1, (∀ b o, b ≠ S → s.heap.get? b = some o → h1.get? b = some o) → h1.get? S = some { cls := .type "list", dict := none, data := .seq acc c1, slots := #[] } → ItemsOf (fun i v => ∃ t, v = .int (a + i * 1) t) acc n → R (.ok (.ret res)) { s with heap := h1, toks := tk }) :
    wpAny (model prog w) A.in1 (Builtin.List.listExtendWith (.ref S) (.ref r) res) (fun fin s1 => match fin with | .done f => R (.ok f) s1 | .again c1 => c1.quiet = true ∧ codeAny (model prog w) A c1 R s1) (fun e s1 => R (.error e) s1) s := by
  have hSr : S ≠ r := fun e => by rw [e, hr] at hS; simp at hS
  have hSI : S ≠ s.heap.objs.size := Nat.ne_of_lt (Heap.lt_size hS)
  have hIh : s.heap.objs.size ∉ hotFp A.in1 := not_hot (A := A.in1) wm (Nat.le_refl _)
  have hSf : S ∉ s.heap.objs.size :: hotFp A.in1 := fun hm => (List.mem_cons.mp hm).elim hSI hSh
  have W := (walks_rng (prog := prog) (w := w) (A := A.in1) s.heap.objs.size a n).toS
  have key : ∀ (h : Heap) (c1 tk : Nat), IsRangeIter h s.heap.objs.size (a + ((0 : Nat) : Int) * 1) ((n : Int) - ((0 : Nat) : Int)) 1 → WmAt A.in1 h → (∀ b o, b ≠ S → s.heap.get? b = some o → h.get? b = some o) →
      h.get? S = some { cls := .type "list", data := .seq #[] c1 } → codeAny (model prog w) A (.builtin "list.extend.loop" ⟨[.ref S, .ref s.heap.objs.size, res], []⟩) R { s with heap := h, toks := tk } := by
    intro h c1 tk hit wm1 hk hS1
    refine codeAny_extend_loopS W (by rw [sizeLine_eq]; omega) S hSf res n 0 _ #[] c1 rfl (Nat.zero_le _) ⟨hit, wm1, hIh⟩ hS1 (ItemsOf.nil _) fun s1 acc c2 hm hS2 hacc => ?_
    rw [Moved.eq_with hm]
    refine hR s1.heap s1.toks acc c2 (fun b o hb e => hm.heap b o (fun hmem => (List.mem_cons.mp hmem).elim hb fun q => absurd (Heap.lt_size e) (by rw [List.mem_singleton.mp q]; exact Nat.lt_irrefl _)) (hk b o hb e)) hS2 hacc
  unfold Builtin.List.listExtendWith
  refine wpAny_bind (wpAny_typeOf (T := "range") ⟨_, hr, rfl⟩ ?_)
  simp only [show Builtin.List.listSameRef (.ref S) (.ref r) = false by simp [Builtin.List.listSameRef, hSr], show (Value.type "range" == Value.type "list") = false by decide, show (Value.type "range" == Value.type "tuple") = false by decide, Bool.or_false, Bool.false_eq_true, if_false]
  refine wpAny_bind (wpAny_pyIter_range hr hsm (wpAny_bind (wpAny_holding (wpAny_hint_range (n := n) (Heap.get?_push_of_some _ hr) hn hl ?_))))
  generalize hq : ({ cls := .type "range_iterator", data := .fields #[rawInt a, rawInt (Builtin.Range.rangeSize a b 1), rawInt 1] } : Obj) = ob
  have fr : ob.isFreed = false := by rw [← hq]; rfl
  have hit1 : IsRangeIter (s.heap.push ob) s.heap.objs.size (a + ((0 : Nat) : Int) * 1) ((n : Int) - ((0 : Nat) : Int)) 1 := by
    have z := Heap.get?_push_size s.heap (o := ob) fr
    rw [← hq, hn] at z
    show IsRangeIter _ _ _ _ _
    rw [← hq, hn]
    simpa using z
  have hS1 := Heap.get?_push_of_some ob hS
  have wm1 := WmAt.push wm ob
  have keepS : ∀ {h : Heap} {f : Obj → Obj}, WmAt A h → WmAt A (h.update S f) := fun {h f} q => by
    rcases q with z | ⟨x1, z, o, vs, e, q2⟩
    · exact .inl z
    · refine .inr ⟨x1, z, o, vs, (Heap.get?_update_other _ _ (fun y => hSh ?_)).trans e, q2⟩
      unfold hotFp; rw [z]; exact List.mem_singleton.mpr y
  refine wpAny_ite_split (fun _ => ?_) (fun _ => wpAny_pure ⟨plainId_quiet F.plain_extend_loop _, key _ c0 _ hit1 wm1 (fun b o _ e => Heap.get?_push_of_some _ e) hS1⟩)
  refine wpAny_bind (wpAny_rule (wpAny_bind ?_))
  show wpAny _ _ (updateSeq S (·.push .none) >>= fun _ => updateSeq S (·.pop)) _ _ _
  have hS2 := Heap.get?_update_self (Obj.mapSeq (·.push Value.none)) hS1 rfl
  refine wpAny_bind (wpAny_updateSeq hS1 rfl (wpAny_updateSeq (hz := by seq_fits) hS2 rfl ?_))
  refine wpAny_pure ⟨plainId_quiet F.plain_extend_loop _, key _ _ _ ((Heap.get?_update_other _ _ hSI).trans ((Heap.get?_update_other _ _ hSI).trans hit1)) (keepS (keepS wm1)) (fun b o hb e => ?_) (Heap.get?_update_self (Obj.mapSeq (·.pop)) hS2 rfl)⟩
  exact (Heap.get?_update_other _ _ (Ne.symm hb)).trans ((Heap.get?_update_other _ _ (Ne.symm hb)).trans (Heap.get?_push_of_some _ e))
theorem call_lrng {Q : Value → Shared → Prop} {r : Addr} {a b : Int} {t u v : Tok} {n : Nat} (wm : WmAt A s.heap) (hr : IsRange s.heap r a b 1 t u v) (hsm : Builtin.Range.small a b 1 = true) (hn : Builtin.Range.rangeSize a b 1 = n) (hl : n ≤ 2 ^ 24)
    (hQ : ∀ h1 tk acc c1, (∀ b o, s.heap.get? b = some o → h1.get? b = some o) → h1.get? s.heap.objs.size = some { cls := .type "list", dict := none, data := .seq acc c1, slots := #[] } → ItemsOf (fun i v => ∃ t, v = .int (a + i * 1) t) acc n → Q (.ref s.heap.objs.size) { s with heap := h1, toks := tk }) :
    wpAny (model prog w) A (call (.type "list") [.ref r]) Q E s := by
  refine callType_codes (Q₁ := fun obj s1 => obj = .ref s.heap.objs.size ∧ s1 = { s with heap := s.heap.push { cls := .type "list", data := .seq #[] } }) F.called_list (F.typeCall_list_1 _) F.entry_list_init (code_list_new _ ⟨rfl, rfl⟩) fun obj s1 h1 => ?_
  obtain ⟨rfl, rfl⟩ := h1
  generalize hSa : s.heap.objs.size = S
  have hS : (s.heap.push { cls := .type "list", data := .seq #[] }).get? S = some { cls := .type "list", data := .seq #[] } := by rw [← hSa]; exact Heap.get?_push_size _ rfl
  have hSr : S ≠ r := by rw [← hSa]; exact Nat.ne_of_gt (Heap.lt_size hr)
  have hSh : S ∉ hotFp A.in1 := not_hot (A := A.in1) wm (Nat.le_of_eq hSa)
  rw [hSa] at hQ
  refine ⟨⟨_, hS, rfl⟩, F.args_list_init_2 _ _, ?_⟩
  show wpAny _ _ (do let old ← Builtin.List.listItems (.ref S); Builtin.List.listUpdate (.ref S) (fun _ => #[]); letGo old.toList.reverse; Builtin.List.listExtendWith (.ref S) (.ref r) .none) _ _ _
  refine wpAny_bind ?_
  unfold Builtin.List.listItems
  refine wpAny_bind (wpAny_seqItems hS rfl (wpAny_pure ?_))
  show wpAny _ _ (updateSeq S (fun _ => #[]) >>= fun _ => letGo (#[] : Array Value).toList.reverse >>= fun _ => Builtin.List.listExtendWith (.ref S) (.ref r) .none) _ _ _
  refine wpAny_bind (wpAny_updateSeq hS rfl ?_)
  have hS2 := Heap.get?_update_self (Obj.mapSeq (fun _ => (#[] : Array Value))) hS rfl
  have oth : ∀ b o, b ≠ S → s.heap.get? b = some o → ((s.heap.push { cls := .type "list", data := .seq #[] }).update S (Obj.mapSeq (fun _ => (#[] : Array Value)))).get? b = some o := fun b o hb e => (Heap.get?_update_other _ _ (Ne.symm hb)).trans (Heap.get?_push_of_some _ e)
  have wm2 : WmAt A.in1 ((s.heap.push { cls := .type "list", data := .seq #[] }).update S (Obj.mapSeq (fun _ => (#[] : Array Value)))) := by
    rcases wm with z | ⟨x1, z, o, vs, e, q2⟩
    · exact .inl z
    · exact .inr ⟨x1, z, o, vs, oth x1 o (by rw [← hSa]; exact Nat.ne_of_lt (Heap.lt_size e)) e, q2⟩
  refine wpAny_bind (wpAny_letGo ?_)
  refine extend_rng (A := A.in1) wm2 (oth r _ (Ne.symm hSr) hr) hsm hn hl S .none _ hS2 hSh fun h1 tk acc c1 hk hS1 hacc => ⟨rfl, ?_⟩
  exact hQ h1 tk acc c1 (fun b o e => hk b o (by rw [← hSa]; exact Nat.ne_of_lt (Heap.lt_size e)) (oth b o (by rw [← hSa]; exact Nat.ne_of_lt (Heap.lt_size e)) e)) hS1 hacc
end
section
variable {X : Cx}
theorem call_max2W (hc : Wm X) : CallR X (.builtin "max") (fun xs H Q => ∃ i j, xs = [.int i, .int j] ∧ Q (.int (if j > i then j else i)) H) := by
  intro pp s σ H xs us Q J r ⟨i, j, e, q⟩
  subst e
  obtain ⟨u, v, rfl, ⟨t, rfl⟩, ⟨t2, rfl⟩⟩ := vals2 r
  refine maxW (hc.at J) fun h1 tk k => ⟨_, H, J.kept k, ?_, q⟩
  by_cases hj : j > i
  · rw [if_pos hj, if_pos hj]; exact ⟨_, rfl⟩
  · rw [if_neg hj, if_neg hj]; exact ⟨_, rfl⟩
theorem call_min2W (hc : Wm X) : CallR X (.builtin "min") (fun xs H Q => ∃ i j, xs = [.int i, .int j] ∧ Q (.int (if j < i then j else i)) H) := by
  intro pp s σ H xs us Q J r ⟨i, j, e, q⟩
  subst e
  obtain ⟨u, v, rfl, ⟨t, rfl⟩, ⟨t2, rfl⟩⟩ := vals2 r
  refine minW (hc.at J) fun h1 tk k => ⟨_, H, J.kept k, ?_, q⟩
  by_cases hj : j < i
  · rw [if_pos hj, if_pos hj]; exact ⟨_, rfl⟩
  · rw [if_neg hj, if_neg hj]; exact ⟨_, rfl⟩
theorem call_allW (hc : Wm X) : CallR X (.builtin "all") (rAll X.K) := by
  intro pp s σ H xs us Q J r ⟨a, bs, e, hs, q⟩
  subst e
  obtain ⟨its, rv, hl, _⟩ := J.list hs
  rw [Vals.ref1 r]
  have hb := rv.bls
  refine call_all_walk (iter_any hl.isList fun s2 e2 st hne => ?_)
  subst e2
  refine ⟨_, _, _, _, _, _, _, rfl, walks_list (A := X.A.in1) _ a hne its.toArray, ⟨st, WmAt.push (A := X.A.in1) (hc.at J) _⟩, truth_bools hb, fun h1 tk hk => ⟨.bl _, H, J.kept fun b o eo => hk b o (fun hm => ?_) (Heap.get?_push_of_some _ eo), ?_, q⟩⟩
  · exact absurd (Heap.lt_size eo) (by rw [List.mem_singleton.mp hm]; exact Nat.lt_irrefl _)
  · show Value.bool _ = Value.bool _
    rw [← L2.all_range, hb, List.size_toArray, List.length_map]
theorem pe_listRgW {e : Expr} {te : St → Hp → (Int → Int → Hp → Prop) → Prop} {p pos : Pos} (hc : Wm X) (hg : Gl X "list") (hm : X.mg "list" = none) (he : PRg X e te) (na : starEach [e] X.env = (false, eval e X.env) :: starEach [] X.env := by rfl) : PE X (.Call (.Name "list" p) [e] [] pos) (tLstRg te) := by
  refine ⟨fun pp s σ H Q J h => Call_ (ld_blt J hg hm boot_list (PyProof.Rows.callWith_type1 (args_cons (thn (he pp s σ H _ J h) fun x s1 ⟨r, a, b, t, u, v, H1, ex, hr, J1, ok, q⟩ => args_nil ?_) na) na))⟩
  subst ex
  obtain ⟨b1, b2, b3, b4, b5⟩ := ok
  refine call_lrng (n := (b - a).toNat) (hc.at J1) hr (small_one b1 b2 b3 b4) (rangeSize_nat a b) b5 fun h1 tk acc c1 hk e1 hi => ?_
  refine ⟨.ref s1.heap.objs.size, upd H1 s1.heap.objs.size (.lst (rgV a b)), J1.laid hk (Nat.le_refl _) (show ObjOk X.prog X.w _ _ _ (.lst (rgV a b)) from ⟨by rw [rgV_length, sizeLine_eq]; omega, acc.toList, c1, vals_rg hi, by rw [Array.toArray_toList]; exact e1⟩), rfl, q _ (J1.hok.fresh (Nat.le_refl _))⟩
/-- a, b = x, y, both plain locals -/
theorem ps_parW {i j : Nat} {x y : Str} {a b : Expr} {ta : TA} {px py pt : Pos} {pos : Pos} {kt k2 pt2} (hc : Wm X) (hN : X.N.Nodup) (hi : X.N[i]? = some x) (hj : X.N[j]? = some y) (hij : i ≠ j)
    (hx : X.env.scope.names.lookup x = some .local) (hy : X.env.scope.names.lookup y = some .local) (ha : PA X [a, b] ta) (hw : swappedStores [.Tuple [.Name x px, .Name y py] kt pt] (.Tuple [a, b] k2 pt2) X.env = pure (some [x, y]))
    (hs : swapsWithSole [.Tuple [.Name x px, .Name y py] kt pt] (.Tuple [a, b] k2 pt2) pos.line X.env = pure false := by rfl) :
    PS X (.Assign [.Tuple [.Name x px, .Name y py] kt pt] (.Tuple [a, b] k2 pt2) pos) (tPar i j ta) := by
  refine ⟨fun pp s σ H D J h => ?_⟩
  rw [exec_Assign_arm]
  refine wpAny_bind (wpAny_standAt ?_)
  rw [hs]
  refine wpAny_bind (wpAny_pure ?_)
  rw [if_neg (by decide)]
  refine wpAny_bind (Tuple_ (thn (ha.run _ pp s σ H _ J h) fun us s1 ⟨vs, H1, J1, r1, v, w, e1, q1⟩ => ?_))
  subst e1
  obtain ⟨u1, u2, rfl, rv, rw'⟩ := vals2 r1
  refine wpAny_newObj_type ?_ (by show 2 ≤ sizeLine; decide)
  have J2 : Inv X pp σ H1 { s1 with heap := s1.heap.push { cls := .type "tuple", data := .seq [u1, u2].toArray } } := J1.kept (t' := s1.toks) fun b o e => Heap.get?_push_of_some _ e
  rw [hw]
  refine wpAny_bind (wpAny_pure ?_)
  show wpAny (model X.prog X.w) X.A (do rule "assign.swapped-stores"; let items ← unpackItems (.ref s1.heap.objs.size) 2 none; assignInOrder [fun v => bindName X.env y v, fun v => bindName X.env x v] items.reverse; pure Flow.next) _ _ _
  refine wpAny_bind (wpAny_rule (wpAny_bind (items_tup (items := #[u1, u2]) (hc.at J2) (IsTup.new s1.heap _) fun h1 hx1 => ?_)))
  have J3 := J2.kept (h' := h1) (t' := s1.toks) fun b o e => hx1 b o (Nat.ne_of_lt (Heap.lt_size e)) e
  show wpAny _ _ (assignInOrder [fun v => bindName X.env y v, fun v => bindName X.env x v] [u2, u1] >>= fun _ => pure Flow.next) _ _ _
  refine wpAny_bind (assignInOrder_cons (wpAny_bindName (store_ok J3 hN hj (.inl hy) rw' (fun s2 J4 => ?_) (.inr hy))))
  refine assignInOrder_cons (wpAny_bindName (store_ok J4 hN hi (.inl hx) rv (fun s3 J5 => assignInOrder_nil (wpAny_pure ?_)) (.inr hx)))
  rw [List.set_comm _ _ (Ne.symm hij)] at J5
  exact ⟨_, H1, J5, q1⟩
end
end LNb
set_option maxHeartbeats 4000000
/-! Readings over plain data: an expression's reading is a Lean function of the slots' data (Sem), the immutable part F of the heap grows. -/
namespace LNi
open PySem PySem.Spec PyProof.Rows L2 HotX L2H LNa LNb
open Evl (Ex Ex.refl Ex.trans Ex.new ex_t ex_l ex_rd fresh_back)
abbrev St := L2.St
/-! ### immutable data -/
mutual
inductive Dr (K : PySem.W.Frag) (F : Hp) : V → PyData → Prop
  | non : Dr K F .non .none
  | bl (b : Bool) : Dr K F (.bl b) (.bool b)
  | int (i : Int) : Dr K F (.int i) (.int i)
  | str (x : Str) : Dr K F (.str x) (.str x)
  | lst {a : Addr} {xs : List V} {ds : List PyData} : F a = some (.lst xs) → DrAll K F xs ds → Dr K F (.ref a) (.list ds)
  | tup {a : Addr} {xs : List V} {ds : List PyData} : SqT K F a xs → DrAll K F xs ds → Dr K F (.ref a) (.tuple ds)
inductive DrAll (K : PySem.W.Frag) (F : Hp) : List V → List PyData → Prop
  | nil : DrAll K F [] []
  | cons {v : V} {vs : List V} {d : PyData} {ds : List PyData} : Dr K F v d → DrAll K F vs ds → DrAll K F (v :: vs) (d :: ds)
end
section
variable {K : PySem.W.Frag} {F F' H : Hp}
mutual
theorem Dr.mono (e : Ex F F') : ∀ {v : V} {d : PyData}, Dr K F v d → Dr K F' v d
  | _, _, .non => .non
  | _, _, .bl b => .bl b
  | _, _, .int i => .int i
  | _, _, .str x => .str x
  | _, _, .lst h t => .lst (e _ _ h) (DrAll.mono e t)
  | _, _, .tup h t => .tup (ex_t e h) (DrAll.mono e t)
theorem DrAll.mono (e : Ex F F') : ∀ {vs : List V} {ds : List PyData}, DrAll K F vs ds → DrAll K F' vs ds
  | _, _, .nil => .nil
  | _, _, .cons h t => .cons (Dr.mono e h) (DrAll.mono e t)
end
mutual
theorem Dr.dp : ∀ {v : V} {d : PyData}, Dr K F v d → Dp K F v d
  | _, _, .non => .non
  | _, _, .bl b => .bl b
  | _, _, .int i => .int i
  | _, _, .str x => .str x
  | _, _, .lst h t => .lst (SqL.of h) (DrAll.dp t)
  | _, _, .tup h t => .tup h (DrAll.dp t)
theorem DrAll.dp : ∀ {vs : List V} {ds : List PyData}, DrAll K F vs ds → DpAll K F vs ds
  | _, _, .nil => .nil
  | _, _, .cons h t => .cons (Dr.dp h) (DrAll.dp t)
end
theorem DrAll.length : ∀ {vs : List V} {ds : List PyData}, DrAll K F vs ds → vs.length = ds.length
  | _, _, .nil => rfl
  | _, _, .cons _ t => by rw [List.length_cons, List.length_cons, DrAll.length t]
theorem DrAll.get : ∀ {vs : List V} {ds : List PyData} {i : Nat} {d : PyData}, DrAll K F vs ds → ds[i]? = some d → ∃ v, vs[i]? = some v ∧ Dr K F v d
  | _, _, _, _, .nil, e => by simp at e
  | _, _, 0, _, .cons h _, e => by simp at e; subst e; exact ⟨_, rfl, h⟩
  | _, _, i + 1, d, .cons _ t, e => by
    obtain ⟨v, a, b⟩ := DrAll.get (i := i) (d := d) t (by simpa using e)
    exact ⟨v, by simpa using a, b⟩
theorem DrAll.app : ∀ {vs ws : List V} {ds es : List PyData}, DrAll K F vs ds → DrAll K F ws es → DrAll K F (vs ++ ws) (ds ++ es)
  | _, _, _, _, .nil, s => s
  | _, _, _, _, .cons h t, s => .cons h (DrAll.app t s)
theorem DrAll.take : ∀ {vs : List V} {ds : List PyData} (n : Nat), DrAll K F vs ds → DrAll K F (vs.take n) (ds.take n)
  | _, _, 0, _ => .nil
  | _, _, _ + 1, .nil => .nil
  | _, _, n + 1, .cons h t => .cons h (DrAll.take n t)
theorem DrAll.drop : ∀ {vs : List V} {ds : List PyData} (n : Nat), DrAll K F vs ds → DrAll K F (vs.drop n) (ds.drop n)
  | _, _, 0, h => h
  | _, _, _ + 1, .nil => .nil
  | _, _, n + 1, .cons _ t => DrAll.drop n t
end
/-! ### the immutable part F of the heap H grows, what is outside F stays -/
structure Fr (F H F' H' : Hp) : Prop where
  a : Ex F F'
  b : Ex F' H'
  c : ∀ p o, F p = none → H p = some o → F' p = none ∧ H' p = some o
theorem Fr.rfl' {F H : Hp} (e : Ex F H) : Fr F H F H := ⟨Ex.refl F, e, fun _ _ h g => ⟨h, g⟩⟩
theorem Fr.tr {F H F1 H1 F2 H2 : Hp} (x : Fr F H F1 H1) (y : Fr F1 H1 F2 H2) : Fr F H F2 H2 :=
  ⟨x.a.trans y.a, y.b, fun p o h g => let ⟨h1, g1⟩ := x.c p o h g; y.c p o h1 g1⟩
theorem Fr.new {F H : Hp} {q : Addr} (o : HO) (e : Ex F H) (h : H q = none) : Fr F H (upd F q o) (upd H q o) := by
  have hf : F q = none := fresh_back e h
  refine ⟨Ex.new hf, fun p u g => ?_, fun p u g g2 => ?_⟩
  · by_cases z : p = q
    · subst z; rw [upd_same] at g ⊢; exact g
    · rw [upd_ne z] at g ⊢; exact e p u g
  · have z : p ≠ q := fun z => by rw [z, h] at g2; cases g2
    rw [upd_ne z, upd_ne z]; exact ⟨g, g2⟩
theorem Fr.ex {F H F' H' : Hp} (e : Ex F H) (x : Fr F H F' H') : Ex H H' := fun p o g => by
  cases hf : F p with
  | none => exact (x.c p o hf g).2
  | some u =>
    have z := e p u hf
    rw [g] at z; cases z
    exact x.b p _ (x.a p _ hf)
/-- a new object outside F -/
theorem Fr.out {F H : Hp} {q : Addr} (o : HO) (e : Ex F H) (h : H q = none) : Fr F H F (upd H q o) := by
  have hf : F q = none := fresh_back e h
  refine ⟨Ex.refl F, fun p u g => ?_, fun p u g g2 => ?_⟩
  · rw [upd_ne (ne_of_none g hf)]; exact e p u g
  · have z : p ≠ q := fun z => by rw [z, h] at g2; cases g2
    rw [upd_ne z]; exact ⟨g, g2⟩
/-! ### what the slots hold -/
structure Whl where
  size : PyData
  freeze : PyData
  stop : PyData
  hold : PyData
  cut : PyData
def Whl.at (w : Whl) (f : Str) : Option PyData := List.lookup f [("size", w.size), ("freeze", w.freeze), ("stop", w.stop), ("hold", w.hold), ("cut", w.cut)]
inductive Dv where
  | d (x : PyData)
  | whl (w : Whl)
  | tbl (w : Whl) (kept : PyData)
  | own (ds : List PyData)
  | odc (kvs : List (Str × Bool))
/-- the classes' addresses, what holds of them -/
structure Cs (K : PySem.W.Frag) where
  cw : Addr
  ct : Addr
def Rw (K : PySem.W.Frag) (C : Cs K) (F : Hp) (v : V) (w : Whl) : Prop := ∃ a dx gs, v = .ref a ∧ F a = some (.ins C.cw dx gs) ∧ ∀ f d, w.at f = some d → ∃ u, gs.lookup f = some u ∧ Dr K F u d
def Rt (K : PySem.W.Frag) (C : Cs K) (F : Hp) (v : V) (w : Whl) (kept : PyData) : Prop := ∃ a dx b k, v = .ref a ∧ F a = some (.ins C.ct dx [("base", b), ("kept", k)]) ∧ Rw K C F b w ∧ Dr K F k kept
/-- handed on: data, a wheel, a table -/
def Rd1 (K : PySem.W.Frag) (C : Cs K) (F : Hp) (v : V) : Dv → Prop
  | .d x => Dr K F v x
  | .whl w => Rw K C F v w
  | .tbl w k => Rt K C F v w k
  | _ => False
def Rv (K : PySem.W.Frag) (C : Cs K) (F H : Hp) (v : V) : Dv → Prop
  | .d x => Dr K F v x
  | .whl w => Rw K C F v w
  | .tbl w k => Rt K C F v w k
  | .own ds => ∃ p xs, v = .ref p ∧ F p = none ∧ H p = some (.lst xs) ∧ DrAll K F xs ds
  | .odc kvs => ∃ p, v = .ref p ∧ F p = none ∧ H p = some (.dK (kvs.map fun q => (Sum.inr q.1, V.bl q.2)))
section
variable {K : PySem.W.Frag} {C : Cs K} {F F' H H' : Hp} {v : V} {dv : Dv}
theorem Rw.mono {w : Whl} (e : Ex F F') (h : Rw K C F v w) : Rw K C F' v w :=
  let ⟨a, dx, gs, r, g, k⟩ := h
  ⟨a, dx, gs, r, e _ _ g, fun f d z => let ⟨u, l, m⟩ := k f d z; ⟨u, l, m.mono e⟩⟩
theorem Rt.mono {w : Whl} {k : PyData} (e : Ex F F') (h : Rt K C F v w k) : Rt K C F' v w k :=
  let ⟨a, dx, b, c, r, g, x, y⟩ := h
  ⟨a, dx, b, c, r, e _ _ g, x.mono e, y.mono e⟩
theorem Rd1.mono (e : Ex F F') (h : Rd1 K C F v dv) : Rd1 K C F' v dv := by
  cases dv with
  | d x => exact Dr.mono e h
  | whl w => exact Rw.mono e h
  | tbl w k => exact Rt.mono e h
  | own ds => exact h.elim
  | odc k => exact h.elim
theorem Rd1.rv (h : Rd1 K C F v dv) : Rv K C F H v dv := by
  cases dv with
  | d x => exact h
  | whl w => exact h
  | tbl w k => exact h
  | own ds => exact h.elim
  | odc k => exact h.elim
theorem Rv.mono (e : Fr F H F' H') (h : Rv K C F H v dv) : Rv K C F' H' v dv := by
  cases dv with
  | d x => exact Dr.mono e.a h
  | whl w => exact Rw.mono e.a h
  | tbl w k => exact Rt.mono e.a h
  | own ds =>
    obtain ⟨p, xs, r, h1, h2, h3⟩ := h
    obtain ⟨g1, g2⟩ := e.c _ _ h1 h2
    exact ⟨p, xs, r, g1, g2, h3.mono e.a⟩
  | odc kvs =>
    obtain ⟨p, r, h1, h2⟩ := h
    obtain ⟨g1, g2⟩ := e.c _ _ h1 h2
    exact ⟨p, r, g1, g2⟩
end
abbrev En := List (Option Dv)
structure Rp (K : PySem.W.Frag) (C : Cs K) (F H : Hp) (ρ : En) (σ : St) : Prop where
  len : ρ.length = σ.length
  at_ : ∀ (i : Nat) (dv : Dv), ρ[i]? = some (some dv) → ∃ v, σ[i]? = some (some v) ∧ Rv K C F H v dv
section
variable {K : PySem.W.Frag} {C : Cs K} {F F' H H' : Hp} {ρ : En} {σ : St} {dv : Dv} {v : V}
theorem Rp.mono (e : Fr F H F' H') (h : Rp K C F H ρ σ) : Rp K C F' H' ρ σ := ⟨h.len, fun i dv z => let ⟨v, a, b⟩ := h.at_ i dv z; ⟨v, a, b.mono e⟩⟩
theorem get_set {α : Type} {l : List α} {i j : Nat} {x y : α} (h : (l.set i x)[j]? = some y) : (j = i ∧ y = x) ∨ (j ≠ i ∧ l[j]? = some y) := by
  by_cases z : i = j
  · subst z
    by_cases w : i < l.length
    · rw [List.getElem?_set_self w] at h; cases h; exact .inl ⟨rfl, rfl⟩
    · rw [List.getElem?_eq_none (by simpa using w)] at h; cases h
  · rw [List.getElem?_set_ne z] at h; exact .inr ⟨Ne.symm z, h⟩
theorem Rp.set {i : Nat} (h : Rp K C F H ρ σ) (r : Rv K C F H v dv) : Rp K C F H (ρ.set i (some dv)) (σ.set i (some v)) := by
  refine ⟨by rw [List.length_set, List.length_set, h.len], fun j d z => ?_⟩
  rcases get_set z with ⟨rfl, e⟩ | ⟨ne, e⟩
  · obtain rfl := Option.some.inj e
    have hj : j < σ.length := by
      have w := (List.getElem?_eq_some_iff.mp z).1
      rw [List.length_set, h.len] at w; exact w
    exact ⟨v, List.getElem?_set_self hj, r⟩
  · obtain ⟨u, a, b⟩ := h.at_ j d e
    exact ⟨u, by rw [List.getElem?_set_ne (Ne.symm ne)]; exact a, b⟩
end
/-! ### readings -/
abbrev Sm := En → Option Dv
abbrev SmB := En → Option Bool
abbrev SmA := En → Option (List Dv)
abbrev RdA (K : PySem.W.Frag) (C : Cs K) (F : Hp) : List V → List Dv → Prop := Paired fun v d => Rd1 K C F v d
section
variable (K : PySem.W.Frag) (C : Cs K)
def tI (c : Sm) : TE := fun σ H Q => ∃ F ρ dv, Ex F H ∧ Rp K C F H ρ σ ∧ c ρ = some dv ∧ ∀ v H' F', Fr F H F' H' → Rd1 K C F' v dv → Q v H'
def tT (c : SmB) : TT := fun σ H Q => ∃ F ρ k, Ex F H ∧ Rp K C F H ρ σ ∧ c ρ = some k ∧ ∀ H' F', Fr F H F' H' → Q k H'
def tA (c : SmA) : TA := fun σ H Q => ∃ F ρ ds, Ex F H ∧ Rp K C F H ρ σ ∧ c ρ = some ds ∧ ∀ vs H' F', Fr F H F' H' → RdA K C F' vs ds → Q vs H'
end
section
variable {X : Cx} {e : Expr} {es : List Expr} {st : Stmt} {sts : List Stmt}
theorem PE.imp {t t' : TE} (h : PE X e t) (k : ∀ σ H Q, t' σ H Q → t σ H Q) : PE X e t' := ⟨fun pp s σ H Q J q => h.run pp s σ H Q J (k σ H Q q)⟩
theorem PT.imp {t t' : TT} (h : PT X e t) (k : ∀ σ H Q, t' σ H Q → t σ H Q) : PT X e t' := ⟨fun pp s σ H Q J q => h.run pp s σ H Q J (k σ H Q q)⟩
theorem PW.imp {t t' : TT} (h : PW X e t) (k : ∀ σ H Q, t' σ H Q → t σ H Q) : PW X e t' := ⟨fun wh pp s σ H Q J q => h.run wh pp s σ H Q J (k σ H Q q)⟩
theorem PA.imp {t t' : TA} (h : PA X es t) (k : ∀ σ H Q, t' σ H Q → t σ H Q) : PA X es t' := ⟨fun pos pp s σ H Q J q => h.run pos pp s σ H Q J (k σ H Q q)⟩
theorem PS.imp {t t' : TS} (h : PS X st t) (k : ∀ D σ H, t' D σ H → t D σ H) : PS X st t' := ⟨fun pp s σ H D J q => h.run pp s σ H D J (k D σ H q)⟩
theorem PSs.imp {t t' : TS} (h : PSs X sts t) (k : ∀ D σ H, t' D σ H → t D σ H) : PSs X sts t' := ⟨fun pp s σ H D J q => h.run pp s σ H D J (k D σ H q)⟩
theorem PIW.imp {tg it : Expr} {t t' : TI} (h : PIW X tg it t) (k : ∀ σ H R, t' σ H R → t σ H R) : PIW X tg it t' := ⟨fun pp s σ H R J q => h.run pp s σ H R J (k σ H R q)⟩
theorem PG.imp {tg : Expr} {t t' : TG} (h : PG X tg t) (k : ∀ v σ H Q, t' v σ H Q → t v σ H Q) : PG X tg t' := ⟨fun pp s σ H v u Q J r q => h.run pp s σ H v u Q J r (k v σ H Q q)⟩
end
/-! ### expressions -/
def cVar (i : Nat) : Sm := fun ρ => match ρ[i]? with
  | some (some (.d x)) => some (.d x)
  | some (some (.whl w)) => some (.whl w)
  | some (some (.tbl w k)) => some (.tbl w k)
  | _ => none
def cK (d : PyData) : Sm := fun _ => some (.d d)
def cUn (g : Dv → Option Dv) (a : Sm) : Sm := fun ρ => match a ρ with
  | some x => g x
  | none => none
def cBin (g : Dv → Dv → Option Dv) (a b : Sm) : Sm := fun ρ => match a ρ with
  | some x => (match b ρ with | some y => g x y | none => none)
  | none => none
section
variable {X : Cx} {C : Cs X.K} {a b : Expr} {c1 c2 : Sm} {pos : Pos}
theorem i_var {i : Nat} {x : Str} (hN : X.N[i]? = some x) (hv : Vis X.env.scope x) (hd : (x == ("__debug__" : Str)) = false := by decide) (hcd : (x == ("__classdict__" : Str)) = false := by decide) : PE X (.Name x pos) (tI X.K C (cVar i)) := by
  refine PE.imp (pe_var hN hv hd hcd) fun σ H Q ⟨F, ρ, dv, e, r, h, q⟩ => ?_
  unfold cVar at h
  split at h <;> first | (cases h; done) | skip
  · rename_i x hx
    cases h
    obtain ⟨v, a, b⟩ := r.at_ i _ hx
    exact ⟨v, a, q v H F (Fr.rfl' e) b⟩
  · rename_i x hx
    cases h
    obtain ⟨v, a, b⟩ := r.at_ i _ hx
    exact ⟨v, a, q v H F (Fr.rfl' e) b⟩
  · rename_i x hx
    cases h
    obtain ⟨v, a, b⟩ := r.at_ i _ hx
    exact ⟨v, a, q v H F (Fr.rfl' e) b⟩
theorem i_k {e : Expr} {v : V} {d : PyData} (h : PE X e (tC v)) (hd : ∀ F, Dr X.K F v d) : PE X e (tI X.K C (cK d)) :=
  PE.imp h fun σ H Q ⟨F, ρ, dv, e, r, h, q⟩ => by cases h; exact q v H F (Fr.rfl' e) (hd F)
theorem i_int {i j} : PE X (.Constant (.int i) j pos) (tI X.K C (cK (.int i))) := i_k pe_int fun _ => .int i
theorem i_bl {i j} : PE X (.Constant (.bool i) j pos) (tI X.K C (cK (.bool i))) := i_k pe_bl fun _ => .bl i
theorem i_non {j} : PE X (.Constant .none j pos) (tI X.K C (cK .none)) := i_k pe_non fun _ => .non
theorem i_str {x j} : PE X (.Constant (.str x) j pos) (tI X.K C (cK (.str x))) := i_k pe_str fun _ => .str x
theorem i_glob {x : Str} {v : V} {u : Value} {d : PyData} (hg : Gl X x) (hm : X.mg x = some u) (r : RelV v u) (hd : ∀ F, Dr X.K F v d) (hdb : (x == ("__debug__" : Str)) = false := by decide) : PE X (.Name x pos) (tI X.K C (cK d)) := i_k (pe_glob hg hm r hdb) hd
/-- two-place operations: what the rule r does is g on the data -/
def GO (K : PySem.W.Frag) (C : Cs K) (r : R2) (g : Dv → Dv → Option Dv) : Prop := ∀ x y F H d1 d2 d, Ex F H → Rd1 K C F x d1 → Rd1 K C F y d2 → g d1 d2 = some d → ∀ Q : VK, (∀ v H' F', Fr F H F' H' → Rd1 K C F' v d → Q v H') → r x y H Q
def GU (K : PySem.W.Frag) (C : Cs K) (r : V → Hp → VK → Prop) (g : Dv → Option Dv) : Prop := ∀ x F H d1 d, Ex F H → Rd1 K C F x d1 → g d1 = some d → ∀ Q : VK, (∀ v H' F', Fr F H F' H' → Rd1 K C F' v d → Q v H') → r x H Q
def GL (K : PySem.W.Frag) (C : Cs K) (r : List V → Hp → VK → Prop) (g : List Dv → Option Dv) : Prop := ∀ xs F H ds d, Ex F H → RdA K C F xs ds → g ds = some d → ∀ Q : VK, (∀ v H' F', Fr F H F' H' → Rd1 K C F' v d → Q v H') → r xs H Q
theorem bin_go {r : R2} {g : Dv → Dv → Option Dv} (hr : GO X.K C r g) {σ : St} {H : Hp} {Q : VK} (h : tI X.K C (cBin g c1 c2) σ H Q) : tOp r (tI X.K C c1) (tI X.K C c2) σ H Q := by
  obtain ⟨F, ρ, dv, e, rp, h, q⟩ := h
  unfold cBin at h
  cases h1 : c1 ρ with
  | none => rw [h1] at h; cases h
  | some d1 =>
    cases h2 : c2 ρ with
    | none => rw [h1, h2] at h; cases h
    | some d2 =>
      rw [h1, h2] at h
      refine ⟨F, ρ, d1, e, rp, h1, fun x H1 F1 f1 r1 => ⟨F1, ρ, d2, f1.b, rp.mono f1, h2, fun y H2 F2 f2 r2 => ?_⟩⟩
      exact hr x y F2 H2 d1 d2 dv f2.b (r1.mono f2.a) r2 h Q fun v H3 F3 f3 r3 => q v H3 F3 ((f1.tr f2).tr f3) r3
theorem un_go {r : V → Hp → VK → Prop} {g : Dv → Option Dv} (hr : GU X.K C r g) {σ : St} {H : Hp} {Q : VK} (h : tI X.K C (cUn g c1) σ H Q) : tI X.K C c1 σ H fun x H1 => r x H1 Q := by
  obtain ⟨F, ρ, dv, e, rp, h, q⟩ := h
  unfold cUn at h
  cases h1 : c1 ρ with
  | none => rw [h1] at h; cases h
  | some d1 =>
    rw [h1] at h
    exact ⟨F, ρ, d1, e, rp, h1, fun x H1 F1 f1 r1 => hr x F1 H1 d1 dv f1.b r1 h Q fun v H3 F3 f3 r3 => q v H3 F3 (f1.tr f3) r3⟩
theorem i_op {op : Operator} {r : R2} {g : Dv → Dv → Option Dv} (ho : OpR X (binaryOp op) r) (hr : GO X.K C r g) (ha : PE X a (tI X.K C c1)) (hb : PE X b (tI X.K C c2)) : PE X (.BinOp a op b pos) (tI X.K C (cBin g c1 c2)) :=
  PE.imp (pe_op ho ha hb) fun σ H Q h => bin_go hr h
theorem i_cmp {op : CmpOp} {r : R2} {g : Dv → Dv → Option Dv} (ho : OpR X (compareOp op) r) (hr : GO X.K C r g) (ha : PE X a (tI X.K C c1)) (hb : PE X b (tI X.K C c2)) (hm : behindInMarks op b = false) : PE X (.Compare a [op] [b] pos) (tI X.K C (cBin g c1 c2)) :=
  PE.imp (pe_cmpR ho ha hb hm) fun σ H Q h => bin_go hr h
/-- a value as a test: a bool -/
def cT (c : Sm) : SmB := fun ρ => match c ρ with
  | some (.d (.bool k)) => some k
  | _ => none
theorem cT_some {c : Sm} {ρ : En} {k : Bool} (h : cT c ρ = some k) : c ρ = some (.d (.bool k)) := by
  unfold cT at h
  split at h
  · rename_i e; cases h; exact e
  · cases h
theorem test_go {σ : St} {H : Hp} {Q : Bool → Hp → Prop} (h : tT X.K C (cT c1) σ H Q) : tI X.K C c1 σ H fun x H1 => ∃ k, x = .bl k ∧ Q k H1 := by
  obtain ⟨F, ρ, k, e, rp, h, q⟩ := h
  refine ⟨F, ρ, _, e, rp, cT_some h, fun v H1 F1 f1 r1 => ?_⟩
  cases (show Dr X.K F1 v (.bool k) from r1)
  exact ⟨k, rfl, q H1 F1 f1⟩
theorem it_cmp {op : CmpOp} {r : R2} {g : Dv → Dv → Option Dv} (ho : OpR X (compareOp op) r) (hr : GO X.K C r g) (ha : PE X a (tI X.K C c1)) (hb : PE X b (tI X.K C c2)) (hm : behindInMarks op b = false) : PT X (.Compare a [op] [b] pos) (tT X.K C (cT (cBin g c1 c2))) :=
  PT.imp (pt_cmpR ho ha hb hm) fun σ H Q h => bin_go hr (test_go h)
/-- a name, a call, a subscript as a test -/
theorem it_val {e : Expr} (h : PE X e (tI X.K C c1)) (he : ∀ whole, isTrue e X.env whole = (do let v ← whole; standAt e.pos; holding [v] (truthy v)) := by intro _; rfl) : PT X e (tT X.K C (cT c1)) :=
  PT.imp (pt_truth h he) fun σ H Q h => by
    obtain ⟨F, ρ, dv, e, rp, h, q⟩ := test_go h
    exact ⟨F, ρ, dv, e, rp, h, fun v H1 F1 f1 r1 => let ⟨k, z, q1⟩ := q v H1 F1 f1 r1; ⟨k, by rw [z]; exact rfl, q1⟩⟩
def cNot (c : SmB) : SmB := fun ρ => match c ρ with
  | some k => some (!k)
  | none => none
def cAnd (a b : SmB) : SmB := fun ρ => match a ρ with
  | some true => b ρ
  | some false => some false
  | none => none
def cOr (a b : SmB) : SmB := fun ρ => match a ρ with
  | some true => some true
  | some false => b ρ
  | none => none
/-- a test's outcome as a value -/
def cV (c : SmB) : Sm := fun ρ => match c ρ with
  | some k => some (.d (.bool k))
  | none => none
theorem it_not {t : SmB} (h : PT X a (tT X.K C t)) : PT X (.UnaryOp .Not a pos) (tT X.K C (cNot t)) :=
  PT.imp (pt_not h) fun σ H Q ⟨F, ρ, k, e, rp, h, q⟩ => by
    unfold cNot at h
    cases h1 : t ρ with
    | none => rw [h1] at h; cases h
    | some k1 => rw [h1] at h; cases h; exact ⟨F, ρ, k1, e, rp, h1, fun H1 F1 f1 => q H1 F1 f1⟩
variable {rest : List Expr} {t u : SmB}
theorem iw_and1 (h : PT X a (tT X.K C t)) : PW X (.BoolOp .And [a] pos) (tT X.K C t) := pw_and1 h
theorem iw_or1 (h : PT X a (tT X.K C t)) : PW X (.BoolOp .Or [a] pos) (tT X.K C t) := pw_or1 h
theorem and_go {σ : St} {H : Hp} {Q : Bool → Hp → Prop} (h : tT X.K C (cAnd t u) σ H Q) : tAnd (tT X.K C t) (tT X.K C u) σ H Q := by
  obtain ⟨F, ρ, k, e, rp, h, q⟩ := h
  unfold cAnd at h
  cases h1 : t ρ with
  | none => rw [h1] at h; cases h
  | some k1 =>
    rw [h1] at h
    refine ⟨F, ρ, k1, e, rp, h1, fun H1 F1 f1 => ?_⟩
    cases k1 with
    | true => exact ⟨F1, ρ, k, f1.b, rp.mono f1, h, fun H2 F2 f2 => q H2 F2 (f1.tr f2)⟩
    | false => cases h; exact q H1 F1 f1
theorem or_go {σ : St} {H : Hp} {Q : Bool → Hp → Prop} (h : tT X.K C (cOr t u) σ H Q) : tOr (tT X.K C t) (tT X.K C u) σ H Q := by
  obtain ⟨F, ρ, k, e, rp, h, q⟩ := h
  unfold cOr at h
  cases h1 : t ρ with
  | none => rw [h1] at h; cases h
  | some k1 =>
    rw [h1] at h
    refine ⟨F, ρ, k1, e, rp, h1, fun H1 F1 f1 => ?_⟩
    cases k1 with
    | false => exact ⟨F1, ρ, k, f1.b, rp.mono f1, h, fun H2 F2 f2 => q H2 F2 (f1.tr f2)⟩
    | true => cases h; exact q H1 F1 f1
theorem iw_and (h1 : PT X a (tT X.K C t)) (h2 : PW X (.BoolOp .And (b :: rest) pos) (tT X.K C u)) : PW X (.BoolOp .And (a :: b :: rest) pos) (tT X.K C (cAnd t u)) := PW.imp (pw_and h1 h2) fun _ _ _ h => and_go h
theorem iw_or (h1 : PT X a (tT X.K C t)) (h2 : PW X (.BoolOp .Or (b :: rest) pos) (tT X.K C u)) : PW X (.BoolOp .Or (a :: b :: rest) pos) (tT X.K C (cOr t u)) := PW.imp (pw_or h1 h2) fun _ _ _ h => or_go h
theorem cV_some {c : SmB} {ρ : En} {dv : Dv} (h : cV c ρ = some dv) : ∃ k, c ρ = some k ∧ dv = .d (.bool k) := by
  unfold cV at h
  cases h1 : c ρ with
  | none => rw [h1] at h; cases h
  | some k => rw [h1] at h; cases h; exact ⟨k, rfl, rfl⟩
theorem cT_of {c : Sm} {ρ : En} {k : Bool} (h : c ρ = some (.d (.bool k))) : cT c ρ = some k := by unfold cT; rw [h]
theorem iv_one {op} {c : Sm} (h : PE X a (tI X.K C c)) : PE X (.BoolOp op [a] pos) (tI X.K C c) := pe_one h
/-- and, or of bools, as a value -/
theorem iv_and (h1 : PE X a (tI X.K C c1)) (h2 : PE X (.BoolOp .And (b :: rest) pos) (tI X.K C c2)) : PE X (.BoolOp .And (a :: b :: rest) pos) (tI X.K C (cV (cAnd (cT c1) (cT c2)))) :=
  PE.imp (pe_and h1 h2) fun σ H Q ⟨F, ρ, dv, e, rp, h, q⟩ => by
    obtain ⟨k, hk, rfl⟩ := cV_some h
    clear h
    refine test_go (Q := fun c H1 => if c = true then tI X.K C c2 σ H1 Q else Q (.bl false) H1) ?_
    unfold cAnd at hk
    cases h3 : cT c1 ρ with
    | none => rw [h3] at hk; cases hk
    | some k1 =>
      rw [h3] at hk
      refine ⟨F, ρ, k1, e, rp, h3, fun H1 F1 f1 => ?_⟩
      cases k1 with
      | true => exact ⟨F1, ρ, _, f1.b, rp.mono f1, cT_some hk, fun v H2 F2 f2 r2 => q v H2 F2 (f1.tr f2) r2⟩
      | false => cases hk; exact q _ H1 F1 f1 (Dr.bl false)
theorem iv_or (h1 : PE X a (tI X.K C c1)) (h2 : PE X (.BoolOp .Or (b :: rest) pos) (tI X.K C c2)) : PE X (.BoolOp .Or (a :: b :: rest) pos) (tI X.K C (cV (cOr (cT c1) (cT c2)))) :=
  PE.imp (pe_or h1 h2) fun σ H Q ⟨F, ρ, dv, e, rp, h, q⟩ => by
    obtain ⟨k, hk, rfl⟩ := cV_some h
    clear h
    refine test_go (Q := fun c H1 => if c = true then Q (.bl true) H1 else tI X.K C c2 σ H1 Q) ?_
    unfold cOr at hk
    cases h3 : cT c1 ρ with
    | none => rw [h3] at hk; cases hk
    | some k1 =>
      rw [h3] at hk
      refine ⟨F, ρ, k1, e, rp, h3, fun H1 F1 f1 => ?_⟩
      cases k1 with
      | false => exact ⟨F1, ρ, _, f1.b, rp.mono f1, cT_some hk, fun v H2 F2 f2 r2 => q v H2 F2 (f1.tr f2) r2⟩
      | true => cases hk; exact q _ H1 F1 f1 (Dr.bl true)
theorem iv_not (h1 : PE X a (tI X.K C c1)) : PE X (.UnaryOp .Not a pos) (tI X.K C (cV (cNot (cT c1)))) :=
  PE.imp (pe_not h1) fun σ H Q ⟨F, ρ, dv, e, rp, h, q⟩ => by
    obtain ⟨k, hk, rfl⟩ := cV_some h
    clear h
    refine test_go (Q := fun c H1 => Q (.bl (!c)) H1) ?_
    unfold cNot at hk
    cases h3 : cT c1 ρ with
    | none => rw [h3] at hk; cases hk
    | some k1 => rw [h3] at hk; cases hk; exact ⟨F, ρ, k1, e, rp, h3, fun H1 F1 f1 => q _ H1 F1 f1 (Dr.bl (!k1))⟩
def cIf (t : SmB) (a b : Sm) : Sm := fun ρ => match t ρ with
  | some true => a ρ
  | some false => b ρ
  | none => none
theorem i_if {c : Expr} (hc : PT X c (tT X.K C t)) (ha : PE X a (tI X.K C c1)) (hb : PE X b (tI X.K C c2)) : PE X (.IfExp c a b pos) (tI X.K C (cIf t c1 c2)) :=
  PE.imp (pe_ifExp hc ha hb) fun σ H Q ⟨F, ρ, dv, e, rp, h, q⟩ => by
    unfold cIf at h
    cases h3 : t ρ with
    | none => rw [h3] at h; cases h
    | some k1 =>
      rw [h3] at h
      refine ⟨F, ρ, k1, e, rp, h3, fun H1 F1 f1 => ?_⟩
      cases k1 with
      | true => exact ⟨F1, ρ, dv, f1.b, rp.mono f1, h, fun v H2 F2 f2 r2 => q v H2 F2 (f1.tr f2) r2⟩
      | false => exact ⟨F1, ρ, dv, f1.b, rp.mono f1, h, fun v H2 F2 f2 r2 => q v H2 F2 (f1.tr f2) r2⟩
end
end LNi
set_option maxHeartbeats 4000000
/-! Readings over plain data: operations, displays, calls. -/
namespace LNi
open PySem PySem.Spec PyProof.Rows L2 HotX L2H LNa LNb
open Evl (Ex Ex.refl Ex.trans Ex.new ex_t ex_l ex_rd fresh_back)
def gAdd : Dv → Dv → Option Dv
  | .d (.int i), .d (.int j) => some (.d (.int (i + j)))
  | .d (.list a), .d (.list b) => if a.length + b.length ≤ 100000 then some (.d (.list (a ++ b))) else none
  | .d (.tuple a), .d (.tuple b) => if a.length + b.length ≤ 100000 ∧ a.isEmpty = false ∧ b.isEmpty = false then some (.d (.tuple (a ++ b))) else none
  | _, _ => none
def gSub : Dv → Dv → Option Dv
  | .d (.int i), .d (.int j) => some (.d (.int (i - j)))
  | _, _ => none
def gMul : Dv → Dv → Option Dv
  | .d (.int i), .d (.int j) => if -(2 ^ 64) < i ∧ i < 2 ^ 64 then some (.d (.int (i * j))) else none
  | _, _ => none
def gMod : Dv → Dv → Option Dv
  | .d (.int i), .d (.int j) => if 0 < j then some (.d (.int (i % j))) else none
  | _, _ => none
def gDiv : Dv → Dv → Option Dv
  | .d (.int i), .d (.int j) => if 0 < j ∧ j < 1073741824 then some (.d (.int (i / j))) else none
  | _, _ => none
def gLt : Dv → Dv → Option Dv
  | .d (.int i), .d (.int j) => some (.d (.bool (decide (i < j))))
  | _, _ => none
def gLe : Dv → Dv → Option Dv
  | .d (.int i), .d (.int j) => some (.d (.bool (decide (i ≤ j))))
  | _, _ => none
def gGe : Dv → Dv → Option Dv
  | .d (.int i), .d (.int j) => some (.d (.bool (decide (j ≤ i))))
  | _, _ => none
def gGt : Dv → Dv → Option Dv
  | .d (.int i), .d (.int j) => some (.d (.bool (decide (j < i))))
  | _, _ => none
def gEq : Dv → Dv → Option Dv
  | .d x, .d y => if SeqAt.shaped x = true ∧ SeqAt.shaped y = true then some (.d (.bool (PyData.eqv x y))) else none
  | _, _ => none
def gNe : Dv → Dv → Option Dv
  | .d x, .d y => if SeqAt.shaped x = true ∧ SeqAt.shaped y = true then some (.d (.bool (!PyData.eqv x y))) else none
  | _, _ => none
def isNon : PyData → Bool
  | .none => true
  | _ => false
def gIs : Dv → Dv → Option Dv
  | .d x, .d .none => some (.d (.bool (isNon x)))
  | _, _ => none
def gIsNot : Dv → Dv → Option Dv
  | .d x, .d .none => some (.d (.bool (!isNon x)))
  | _, _ => none
def flatD : PyData → Bool
  | .none => true
  | .bool _ => true
  | .int _ => true
  | .str _ => true
  | _ => false
def gIn : Dv → Dv → Option Dv
  | .d x, .d (.list ds) => if SeqAt.shaped x = true ∧ SeqAt.shaped (.list ds) = true then some (.d (.bool (ds.any fun z => PyData.eqv z x))) else none
  | .d x, .d (.tuple ds) => if flatD x = true ∧ ds.all flatD = true then some (.d (.bool (ds.any fun z => PyData.eqv z x))) else none
  | _, _ => none
def gNotIn : Dv → Dv → Option Dv
  | .d x, .d (.tuple ds) => if flatD x = true ∧ ds.all flatD = true then some (.d (.bool (!ds.any fun z => PyData.eqv z x))) else none
  | _, _ => none
def gIx : Dv → Dv → Option Dv
  | .d (.list ds), .d (.int i) => (atI ds i).map Dv.d
  | .d (.tuple ds), .d (.int i) => (atI ds i).map Dv.d
  | _, _ => none
def gTail : Dv → Option Dv
  | .d (.tuple (_ :: ds)) => some (.d (.tuple ds))
  | _ => none
section
variable {X : Cx} {C : Cs X.K}
theorem line100 {n : Nat} (h : n ≤ 100000) : n ≤ sizeLine := by rw [sizeLine_eq]; omega
theorem new_lst {K : PySem.W.Frag} {C : Cs K} {F H : Hp} {p : Addr} {xs : List V} {ds : List PyData} {Q : VK} (e : Ex F H) (hp : H p = none) (t : DrAll K F xs ds) (q : ∀ v H' F', Fr F H F' H' → Rd1 K C F' v (.d (.list ds)) → Q v H') : Q (.ref p) (upd H p (.lst xs)) :=
  q _ _ _ (Fr.new _ e hp) (Dr.lst upd_same (t.mono (Ex.new (fresh_back e hp))))
theorem new_tup {K : PySem.W.Frag} {C : Cs K} {F H : Hp} {p : Addr} {xs : List V} {ds : List PyData} {Q : VK} (e : Ex F H) (hp : H p = none) (t : DrAll K F xs ds) (q : ∀ v H' F', Fr F H F' H' → Rd1 K C F' v (.d (.tuple ds)) → Q v H') : Q (.ref p) (upd H p (.tup xs)) :=
  q _ _ _ (Fr.new _ e hp) (Dr.tup (SqT.of upd_same) (t.mono (Ex.new (fresh_back e hp))))
theorem go_int {r : R2} {g : Dv → Dv → Option Dv} (f : Int → Int → Option V) (h1 : ∀ x y d, g x y = some d → ∃ i j z, x = .d (.int i) ∧ y = .d (.int j) ∧ f i j = some z ∧ ∀ F, Rd1 X.K C F z d) (h2 : ∀ i j z H (Q : VK), f i j = some z → Q z H → r (.int i) (.int j) H Q) : GO X.K C r g := by
  intro x y F H d1 d2 d e r1 r2 h Q q
  obtain ⟨i, j, z, rfl, rfl, hz, k⟩ := h1 _ _ _ h
  cases (show Dr X.K F x (.int i) from r1)
  cases (show Dr X.K F y (.int j) from r2)
  exact h2 i j z H Q hz (q z H F (Fr.rfl' e) (k F))
theorem go_sub : GO X.K C (rI0 fun i j => .int (i - j)) gSub := go_int (fun i j => some (.int (i - j))) (fun x y d h => by
  unfold gSub at h
  split at h
  · rename_i i j; cases h; exact ⟨i, j, _, rfl, rfl, rfl, fun _ => Dr.int _⟩
  · cases h) fun i j z H Q hz q => by cases hz; exact ⟨i, j, rfl, rfl, q⟩
theorem go_mul : GO X.K C (rI CMul fun i j => .int (i * j)) gMul := go_int (fun i j => if -(2 ^ 64) < i ∧ i < 2 ^ 64 then some (.int (i * j)) else none) (fun x y d h => by
  unfold gMul at h
  split at h
  · rename_i i j
    split at h
    · rename_i hc; cases h; exact ⟨i, j, _, rfl, rfl, if_pos hc, fun _ => Dr.int _⟩
    · cases h
  · cases h) fun i j z H Q hz q => by
    split at hz
    · rename_i hc; cases hz; exact ⟨i, j, rfl, rfl, .inl hc, q⟩
    · cases hz
theorem go_mod : GO X.K C (rI (fun _ j => 0 < j) fun i j => .int (i % j)) gMod := go_int (fun i j => if 0 < j then some (.int (i % j)) else none) (fun x y d h => by
  unfold gMod at h
  split at h
  · rename_i i j
    split at h
    · rename_i hc; cases h; exact ⟨i, j, _, rfl, rfl, if_pos hc, fun _ => Dr.int _⟩
    · cases h
  · cases h) fun i j z H Q hz q => by
    split at hz
    · rename_i hc; cases hz; exact ⟨i, j, rfl, rfl, hc, q⟩
    · cases hz
theorem go_div : GO X.K C (rI CDiv fun i j => .int (i / j)) gDiv := go_int (fun i j => if 0 < j ∧ j < 1073741824 then some (.int (i / j)) else none) (fun x y d h => by
  unfold gDiv at h
  split at h
  · rename_i i j
    split at h
    · rename_i hc; cases h; exact ⟨i, j, _, rfl, rfl, if_pos hc, fun _ => Dr.int _⟩
    · cases h
  · cases h) fun i j z H Q hz q => by
    split at hz
    · rename_i hc; cases hz; exact ⟨i, j, rfl, rfl, hc, q⟩
    · cases hz
theorem go_lt : GO X.K C (rI0 fun i j => .bl (decide (i < j))) gLt := go_int (fun i j => some (.bl (decide (i < j)))) (fun x y d h => by
  unfold gLt at h
  split at h
  · rename_i i j; cases h; exact ⟨i, j, _, rfl, rfl, rfl, fun _ => Dr.bl _⟩
  · cases h) fun i j z H Q hz q => by cases hz; exact ⟨i, j, rfl, rfl, q⟩
theorem go_le : GO X.K C (rI0 fun i j => .bl (decide (i ≤ j))) gLe := go_int (fun i j => some (.bl (decide (i ≤ j)))) (fun x y d h => by
  unfold gLe at h
  split at h
  · rename_i i j; cases h; exact ⟨i, j, _, rfl, rfl, rfl, fun _ => Dr.bl _⟩
  · cases h) fun i j z H Q hz q => by cases hz; exact ⟨i, j, rfl, rfl, q⟩
theorem go_ge : GO X.K C (rI0 fun i j => .bl (decide (j ≤ i))) gGe := go_int (fun i j => some (.bl (decide (j ≤ i)))) (fun x y d h => by
  unfold gGe at h
  split at h
  · rename_i i j; cases h; exact ⟨i, j, _, rfl, rfl, rfl, fun _ => Dr.bl _⟩
  · cases h) fun i j z H Q hz q => by cases hz; exact ⟨i, j, rfl, rfl, q⟩
theorem go_gt : GO X.K C (rI0 fun i j => .bl (decide (j < i))) gGt := go_int (fun i j => some (.bl (decide (j < i)))) (fun x y d h => by
  unfold gGt at h
  split at h
  · rename_i i j; cases h; exact ⟨i, j, _, rfl, rfl, rfl, fun _ => Dr.bl _⟩
  · cases h) fun i j z H Q hz q => by cases hz; exact ⟨i, j, rfl, rfl, q⟩
def rAddA (K : PySem.W.Frag) : R2 := fun x y H Q => rI0 (fun i j => .int (i + j)) x y H Q ∨ (rCat x y H Q ∨ rCatT K x y H Q)
theorem op_addA : OpR X (binaryOp .Add) (rAddA X.K) := OpR.or op_add (OpR.or op_cat op_catT)
theorem go_add : GO X.K C (rAddA X.K) gAdd := by
  intro x y F H d1 d2 d e r1 r2 h Q q
  unfold gAdd at h
  split at h
  · rename_i i j
    cases h
    cases (show Dr X.K F x (.int i) from r1)
    cases (show Dr X.K F y (.int j) from r2)
    exact .inl ⟨i, j, rfl, rfl, q _ H F (Fr.rfl' e) (Dr.int _)⟩
  · rename_i as bs
    split at h
    · rename_i hl
      cases h
      cases (show Dr X.K F x (.list as) from r1) with
      | lst h1 t1 =>
        cases (show Dr X.K F y (.list bs) from r2) with
        | lst h2 t2 =>
          exact .inr (.inl ⟨_, _, _, _, rfl, rfl, e _ _ h1, e _ _ h2, line100 (by rw [t1.length, t2.length]; exact hl), fun p hp => new_lst e hp (t1.app t2) q⟩)
    · cases h
  · rename_i as bs
    split at h
    · rename_i hl
      cases h
      obtain ⟨hz, na, nb⟩ := hl
      cases (show Dr X.K F x (.tuple as) from r1) with
      | tup h1 t1 =>
        cases (show Dr X.K F y (.tuple bs) from r2) with
        | tup h2 t2 =>
          have l1 := t1.length
          have l2 := t2.length
          refine .inr (.inr ⟨_, _, _, _, rfl, rfl, ex_t e h1, ex_t e h2, fun z => ?_, line100 (by rw [l1, l2]; exact hz), fun z => ?_, fun _ p hp => new_tup e hp (t1.app t2) q⟩)
          · rw [z] at l1; cases as with
            | nil => cases na
            | cons _ _ => cases l1
          · rw [z] at l2; cases bs with
            | nil => cases nb
            | cons _ _ => cases l2
    · cases h
  · cases h
theorem dec_non {F : Hp} {v : V} {d : PyData} (h : Dr X.K F v d) : decide (v = .non) = isNon d := by
  cases h <;> simp [isNon]
theorem go_is : GO X.K C (fun x y H Q => y = .non ∧ Q (.bl (decide (x = .non))) H) gIs := by
  intro x y F H d1 d2 d e r1 r2 h Q q
  unfold gIs at h
  split at h
  · rename_i a
    cases h
    cases (show Dr X.K F y .none from r2)
    exact ⟨rfl, by rw [dec_non (show Dr X.K F x a from r1)]; exact q _ H F (Fr.rfl' e) (Dr.bl _)⟩
  · cases h
theorem go_isNot : GO X.K C (fun x y H Q => y = .non ∧ Q (.bl (!decide (x = .non))) H) gIsNot := by
  intro x y F H d1 d2 d e r1 r2 h Q q
  unfold gIsNot at h
  split at h
  · rename_i a
    cases h
    cases (show Dr X.K F y .none from r2)
    exact ⟨rfl, by rw [dec_non (show Dr X.K F x a from r1)]; exact q _ H F (Fr.rfl' e) (Dr.bl _)⟩
  · cases h
theorem Dr.dpx {F H : Hp} {v : V} {d : PyData} (e : Ex F H) (h : Dr X.K F v d) : Dp X.K H v d := (h.mono e).dp
theorem go_eq : GO X.K C (rEqD X.K) gEq := by
  intro x y F H d1 d2 d e r1 r2 h Q q
  unfold gEq at h
  split at h
  · rename_i a b
    split at h
    · rename_i hs
      cases h
      exact ⟨a, b, Dr.dpx e r1, Dr.dpx e r2, hs.1, hs.2, q _ H F (Fr.rfl' e) (Dr.bl _)⟩
    · cases h
  · cases h
theorem go_ne : GO X.K C (rNeD X.K) gNe := by
  intro x y F H d1 d2 d e r1 r2 h Q q
  unfold gNe at h
  split at h
  · rename_i a b
    split at h
    · rename_i hs
      cases h
      exact ⟨a, b, Dr.dpx e r1, Dr.dpx e r2, hs.1, hs.2, q _ H F (Fr.rfl' e) (Dr.bl _)⟩
    · cases h
  · cases h
theorem flat_of {F : Hp} {v : V} {d : PyData} (h : Dr X.K F v d) (f : flatD d = true) : flatV v = true := by
  cases h <;> first | rfl | cases f
theorem eqV_of {F : Hp} {v w : V} {d e : PyData} (h : Dr X.K F v d) (g : Dr X.K F w e) (f : flatD d = true) (f2 : flatD e = true) : eqV v w = PyData.eqv d e := by
  cases h <;> cases g <;> first | (cases f; done) | (cases f2; done) | simp [eqV, PyData.eqv]
theorem allFlat {F : Hp} : ∀ {vs : List V} {ds : List PyData}, DrAll X.K F vs ds → ds.all flatD = true → vs.all flatV = true
  | _, _, .nil, _ => rfl
  | _, _, .cons h t, f => by
    rw [List.all_cons, Bool.and_eq_true] at f ⊢
    exact ⟨flat_of h f.1, allFlat t f.2⟩
theorem inV_of {F : Hp} {v : V} {d : PyData} (h : Dr X.K F v d) (f : flatD d = true) : ∀ {vs : List V} {ds : List PyData}, DrAll X.K F vs ds → ds.all flatD = true → inV v vs = ds.any fun z => PyData.eqv z d
  | _, _, .nil, _ => rfl
  | _, _, .cons g t, f2 => by
    rw [List.all_cons, Bool.and_eq_true] at f2
    have ih := inV_of h f t f2.2
    unfold inV at ih ⊢
    rw [List.any_cons, List.any_cons, ih, eqV_of g h f2.1 f]
def rInA (K : PySem.W.Frag) : R2 := fun x y H Q => rInD K x y H Q ∨ rIn K false x y H Q
theorem op_inA (hu : X.A.units + 65 < cLine) : OpR X (compareOp .In) (rInA X.K) := OpR.or (op_inD hu) op_in_seq
theorem go_in : GO X.K C (rInA X.K) gIn := by
  intro x y F H d1 d2 d e r1 r2 h Q q
  unfold gIn at h
  split at h
  · rename_i a ds
    split at h
    · rename_i hs
      cases h
      exact .inl ⟨a, ds, Dr.dpx e r1, Dr.dpx e r2, hs.1, hs.2, q _ H F (Fr.rfl' e) (Dr.bl _)⟩
    · cases h
  · rename_i a ds
    split at h
    · rename_i hs
      cases h
      cases (show Dr X.K F y (.tuple ds) from r2) with
      | tup h1 t1 =>
        refine .inr ⟨_, _, rfl, .inr (ex_t e h1), flat_of r1 hs.1, allFlat t1 hs.2, ?_⟩
        rw [if_neg (by decide), inV_of (show Dr X.K F x a from r1) hs.1 t1 hs.2]
        exact q _ H F (Fr.rfl' e) (Dr.bl _)
    · cases h
  · cases h
theorem go_notIn : GO X.K C (rIn X.K true) gNotIn := by
  intro x y F H d1 d2 d e r1 r2 h Q q
  unfold gNotIn at h
  split at h
  · rename_i a ds
    split at h
    · rename_i hs
      cases h
      cases (show Dr X.K F y (.tuple ds) from r2) with
      | tup h1 t1 =>
        refine ⟨_, _, rfl, .inr (ex_t e h1), flat_of r1 hs.1, allFlat t1 hs.2, ?_⟩
        rw [if_pos rfl, inV_of (show Dr X.K F x a from r1) hs.1 t1 hs.2]
        exact q _ H F (Fr.rfl' e) (Dr.bl _)
    · cases h
  · cases h
theorem DrAll.atI {F : Hp} {vs : List V} {ds : List PyData} {i : Int} {d : PyData} (t : DrAll X.K F vs ds) (h : L2.atI ds i = some d) : ∃ v, L2.atI vs i = some v ∧ Dr X.K F v d := by
  unfold L2.atI at h ⊢
  rw [t.length]
  cases hx : ixN ds.length i with
  | none => rw [hx] at h; cases h
  | some j => rw [hx] at h; exact t.get h
theorem map_some {α β : Type} {f : α → β} {o : Option α} {y : β} (h : o.map f = some y) : ∃ x, o = some x ∧ f x = y := Option.map_eq_some_iff.mp h
def rIxA (K : PySem.W.Frag) : R2 := fun x y H Q => rIxL K x y H Q ∨ rIxT K x y H Q
theorem ix_A : IxR X (rIxA X.K) := ix_list.or ix_tup
theorem go_ix : GO X.K C (rIxA X.K) gIx := by
  intro x y F H d1 d2 d e r1 r2 h Q q
  unfold gIx at h
  split at h
  · rename_i ds i
    obtain ⟨z, hz, rfl⟩ := map_some h
    cases (show Dr X.K F y (.int i) from r2)
    cases (show Dr X.K F x (.list ds) from r1) with
    | lst h1 t1 =>
      obtain ⟨v, hv, rv⟩ := t1.atI hz
      exact .inl ⟨_, _, i, v, rfl, rfl, SqL.of (e _ _ h1), hv, q v H F (Fr.rfl' e) rv⟩
  · rename_i ds i
    obtain ⟨z, hz, rfl⟩ := map_some h
    cases (show Dr X.K F y (.int i) from r2)
    cases (show Dr X.K F x (.tuple ds) from r1) with
    | tup h1 t1 =>
      obtain ⟨v, hv, rv⟩ := t1.atI hz
      exact .inr ⟨_, _, i, v, rfl, rfl, ex_t e h1, hv, q v H F (Fr.rfl' e) rv⟩
  · cases h
theorem i_ix {a b : Expr} {c1 c2 : Sm} {pos : Pos} (ha : PE X a (tI X.K C c1)) (hb : PE X b (tI X.K C c2)) (hs : PlainIx b := by intro _ _; rfl) : PE X (.Subscript a b pos) (tI X.K C (cBin gIx c1 c2)) :=
  PE.imp (pe_ix ix_A ha hb hs) fun σ H Q h => bin_go go_ix h
/-- t[1:] -/
theorem i_tail {a : Expr} {c1 : Sm} {pos p2 : Pos} {j : Nat} {p3 : Pos} (ha : PE X a (tI X.K C c1)) : PE X (.Subscript a (.Slice (some (.Constant (.int 1) j p3)) none none p2) pos) (tI X.K C (cUn gTail c1)) :=
  PE.imp (pe_slice sl_tup ha (po_some pe_int) po_none) fun σ H Q h => by
    have hr : GU X.K C (fun x H Q => rSlT X.K x (some 1) none H Q) gTail := by
      intro x F H d1 d e r1 h Q q
      unfold gTail at h
      split at h
      · rename_i d0 ds
        cases h
        cases (show Dr X.K F x (.tuple (d0 :: ds)) from r1) with
        | tup h1 t1 =>
          cases t1 with
          | cons h0 t0 =>
            rename_i a v vs
            have e1 : cutV (v :: vs) (some 1) none = vs := by
              have z1 : HT.sIx (v :: vs).length 0 (some ((1 : Nat) : Int)) = 1 := by rw [HT.sIx_nat]; simp
              have z2 : HT.sIx (v :: vs).length (v :: vs).length none = (v :: vs).length := HT.sIx_none _ _
              unfold cutV
              rw [show (some (1 : Int)) = some ((1 : Nat) : Int) from rfl, z1, z2]
              simp
            refine ⟨_, _, rfl, ex_t e h1, fun z => ?_, fun p hp => ?_⟩
            · have z1 : HT.sIx (v :: vs).length 0 (some ((1 : Nat) : Int)) = 1 := by rw [HT.sIx_nat]; simp
              have := z.1
              rw [show (some (1 : Int)) = some ((1 : Nat) : Int) from rfl, z1] at this
              cases this
            · rw [e1]
              exact new_tup e hp t0 q
      · cases h
    have k := un_go hr h
    obtain ⟨F, ρ, dv, e, rp, hc, q⟩ := k
    exact ⟨F, ρ, dv, e, rp, hc, fun v H1 F1 f1 r1 => ⟨1, rfl, q v H1 F1 f1 r1⟩⟩
end
end LNi
set_option maxHeartbeats 4000000
/-! Readings over plain data: argument lists, displays, built-ins, attributes, own defs, statements. -/
namespace LNi
open PySem PySem.Spec PyProof.Rows L2 HotX L2H LNa LNb
open Evl (Ex Ex.refl Ex.trans Ex.new ex_t ex_l ex_rd fresh_back)
/-! ### argument lists -/
def cNil : SmA := fun _ => some []
def cCons (a : Sm) (r : SmA) : SmA := fun ρ => match a ρ with
  | some x => (match r ρ with | some xs => some (x :: xs) | none => none)
  | none => none
def cApp (g : List Dv → Option Dv) (a : SmA) : Sm := fun ρ => match a ρ with
  | some xs => g xs
  | none => none
section
variable {X : Cx} {C : Cs X.K} {e : Expr} {es : List Expr} {c : Sm} {cs : SmA} {pos : Pos}
theorem RdA.mono {K : PySem.W.Frag} {C : Cs K} {F F' : Hp} (e : Ex F F') : ∀ {vs : List V} {ds : List Dv}, RdA K C F vs ds → RdA K C F' vs ds
  | _, _, .nil => .nil
  | _, _, .cons h t => .cons (h.mono e) (RdA.mono e t)
theorem RdA.len {K : PySem.W.Frag} {C : Cs K} {F : Hp} : ∀ {vs : List V} {ds : List Dv}, RdA K C F vs ds → vs.length = ds.length
  | _, _, .nil => rfl
  | _, _, .cons h t => by rw [List.length_cons, List.length_cons, RdA.len t]
theorem ia_nil : PA X [] (tA X.K C cNil) := PA.imp pa_nil fun σ H Q ⟨F, ρ, ds, e, rp, h, q⟩ => by cases h; exact q [] H F (Fr.rfl' e) .nil
theorem ia_cons (ha : PE X e (tI X.K C c)) (hr : PA X es (tA X.K C cs)) (hs : starEach (e :: es) X.env = (false, eval e X.env) :: starEach es X.env := by rfl) : PA X (e :: es) (tA X.K C (cCons c cs)) :=
  PA.imp (pa_cons ha hr hs) fun σ H Q ⟨F, ρ, ds, ex, rp, h, q⟩ => by
    unfold cCons at h
    cases h1 : c ρ with
    | none => rw [h1] at h; cases h
    | some x =>
      cases h2 : cs ρ with
      | none => rw [h1, h2] at h; cases h
      | some xs =>
        rw [h1, h2] at h
        cases h
        exact ⟨F, ρ, x, ex, rp, h1, fun v H1 F1 f1 r1 => ⟨F1, ρ, xs, f1.b, rp.mono f1, h2, fun vs H2 F2 f2 r2 => q (v :: vs) H2 F2 (f1.tr f2) (.cons (r1.mono f2.a) r2)⟩⟩
theorem app_go {r : List V → Hp → VK → Prop} {g : List Dv → Option Dv} (hr : GL X.K C r g) {σ : St} {H : Hp} {Q : VK} (h : tI X.K C (cApp g cs) σ H Q) : tA X.K C cs σ H fun xs H1 => r xs H1 Q := by
  obtain ⟨F, ρ, dv, ex, rp, h, q⟩ := h
  unfold cApp at h
  cases h1 : cs ρ with
  | none => rw [h1] at h; cases h
  | some ds =>
    rw [h1] at h
    exact ⟨F, ρ, ds, ex, rp, h1, fun vs H1 F1 f1 r1 => hr vs F1 H1 ds dv f1.b r1 h Q fun v H2 F2 f2 r2 => q v H2 F2 (f1.tr f2) r2⟩
/-- all are data -/
def allD : List Dv → Option (List PyData)
  | [] => some []
  | .d x :: r => (match allD r with | some ys => some (x :: ys) | none => none)
  | _ => none
theorem allD_dr {K : PySem.W.Frag} {C : Cs K} {F : Hp} : ∀ {vs : List V} {ds : List Dv} {ys : List PyData}, RdA K C F vs ds → allD ds = some ys → DrAll K F vs ys
  | _, _, _, .nil, h => by cases h; exact .nil
  | _, .d x :: r, ys, .cons h t, hy => by
    unfold allD at hy
    cases h2 : allD r with
    | none => rw [h2] at hy; cases hy
    | some zs => rw [h2] at hy; cases hy; exact .cons h (allD_dr t h2)
  | _, .whl _ :: _, _, _, h => nomatch h
  | _, .tbl _ _ :: _, _, _, h => nomatch h
  | _, .own _ :: _, _, _, h => nomatch h
  | _, .odc _ :: _, _, _, h => nomatch h
def gTup (ds : List Dv) : Option Dv := match allD ds with
  | some ys => if ys.length ≤ 100000 then some (.d (.tuple ys)) else none
  | none => none
def gLst (ds : List Dv) : Option Dv := match allD ds with
  | some ys => if ys.length ≤ 100000 then some (.d (.list ys)) else none
  | none => none
theorem i_tup {k} (h : PA X es (tA X.K C cs)) : PE X (.Tuple es k pos) (tI X.K C (cApp gTup cs)) :=
  PE.imp (pe_tup h) fun σ H Q h => app_go (r := fun xs H1 Q => xs.length ≤ sizeLine ∧ ∀ p, H1 p = none → Q (.ref p) (upd H1 p (.tup xs))) (fun vs F H ds d e r h Q q => by
    unfold gTup at h
    split at h
    · rename_i ys hy
      split at h
      · rename_i hl
        cases h
        have t := allD_dr r hy
        exact ⟨line100 (by rw [t.length]; exact hl), fun p hp => new_tup e hp t q⟩
      · cases h
    · cases h) h
theorem i_lst (h : PA X es (tA X.K C cs)) : PE X (.List es pos) (tI X.K C (cApp gLst cs)) :=
  PE.imp (pe_lst h) fun σ H Q h => app_go (r := fun xs H1 Q => xs.length ≤ sizeLine ∧ ∀ p, H1 p = none → Q (.ref p) (upd H1 p (.lst xs))) (fun vs F H ds d e r h Q q => by
    unfold gLst at h
    split at h
    · rename_i ys hy
      split at h
      · rename_i hl
        cases h
        have t := allD_dr r hy
        exact ⟨line100 (by rw [t.length]; exact hl), fun p hp => new_lst e hp t q⟩
      · cases h
    · cases h) h
/-! ### built-ins -/
theorem i_callB {id : String} {x : Str} {p : Pos} {r : List V → Hp → VK → Prop} {g : List Dv → Option Dv} (hc : CallR X (.builtin id) r) (hr : GL X.K C r g) (hg : Gl X x) (hm : X.mg x = none) (hv : bootBuiltins x = some (.builtin id)) (ha : PA X (e :: es) (tA X.K C cs)) (hn : x ≠ "__name__" := by decide) (hdb : (x == ("__debug__" : Str)) = false := by decide)
    (he : starEach (e :: es) X.env = (false, eval e X.env) :: starEach es X.env := by rfl) (hpl : (backTo pos (starEach es X.env)).any (·.1) = false := by rfl) : PE X (.Call (.Name x p) (e :: es) [] pos) (tI X.K C (cApp g cs)) :=
  PE.imp (pe_callB hc hg hm hv ha hn hdb he hpl) fun σ H Q h => app_go hr h
theorem i_callTy {T : String} {x : Str} {p : Pos} {r : List V → Hp → VK → Prop} {g : List Dv → Option Dv} (hc : CallR X (.type T) r) (hr : GL X.K C r g) (hg : Gl X x) (hm : X.mg x = none) (hv : bootBuiltins x = some (.type T)) (ha : PA X (e :: es) (tA X.K C cs)) (hn : x ≠ "__name__" := by decide) (hdb : (x == ("__debug__" : Str)) = false := by decide)
    (he : starEach (e :: es) X.env = (false, eval e X.env) :: starEach es X.env := by rfl) (hpl : (backTo pos (starEach es X.env)).any (·.1) = false := by rfl) : PE X (.Call (.Name x p) (e :: es) [] pos) (tI X.K C (cApp g cs)) :=
  PE.imp (pe_callTy hc hg hm hv ha hn hdb he hpl) fun σ H Q h => app_go hr h
def gMax : List Dv → Option Dv
  | [.d (.int i), .d (.int j)] => some (.d (.int (if j > i then j else i)))
  | _ => none
def gMin : List Dv → Option Dv
  | [.d (.int i), .d (.int j)] => some (.d (.int (if j < i then j else i)))
  | _ => none
def gLen : List Dv → Option Dv
  | [.d (.list ds)] => some (.d (.int ds.length))
  | [.d (.tuple ds)] => some (.d (.int ds.length))
  | _ => none
def gList : List Dv → Option Dv
  | [.d (.list ds)] => some (.d (.list ds))
  | [.d (.tuple ds)] => some (.d (.list ds))
  | _ => none
def gTupOf : List Dv → Option Dv
  | [.d (.list ds)] => some (.d (.tuple ds))
  | [.d (.tuple ds)] => some (.d (.tuple ds))
  | _ => none
def blsOf : List PyData → Option (List Bool)
  | [] => some []
  | .bool b :: r => (match blsOf r with | some bs => some (b :: bs) | none => none)
  | _ => none
def gAll : List Dv → Option Dv
  | [.d (.list ds)] => (match blsOf ds with | some bs => some (.d (.bool (bs.all id))) | none => none)
  | _ => none
theorem rda1 {K : PySem.W.Frag} {C : Cs K} {F : Hp} {vs : List V} {a : Dv} (h : RdA K C F vs [a]) : ∃ v, vs = [v] ∧ Rd1 K C F v a := by
  cases h with
  | cons h t => cases t; exact ⟨_, rfl, h⟩
theorem rda2 {K : PySem.W.Frag} {C : Cs K} {F : Hp} {vs : List V} {a b : Dv} (h : RdA K C F vs [a, b]) : ∃ v w, vs = [v, w] ∧ Rd1 K C F v a ∧ Rd1 K C F w b := by
  cases h with
  | cons h t =>
    obtain ⟨w, rfl, k⟩ := rda1 t
    exact ⟨_, w, rfl, h, k⟩
theorem gl_max : GL X.K C (fun xs H Q => ∃ i j, xs = [.int i, .int j] ∧ Q (.int (if j > i then j else i)) H) gMax := fun vs F H ds d e r h Q q => by
  unfold gMax at h
  split at h
  · rename_i i j
    cases h
    obtain ⟨v, w, rfl, a, b⟩ := rda2 r
    cases (show Dr X.K F v (.int i) from a)
    cases (show Dr X.K F w (.int j) from b)
    exact ⟨i, j, rfl, q _ H F (Fr.rfl' e) (Dr.int _)⟩
  · cases h
theorem gl_min : GL X.K C (fun xs H Q => ∃ i j, xs = [.int i, .int j] ∧ Q (.int (if j < i then j else i)) H) gMin := fun vs F H ds d e r h Q q => by
  unfold gMin at h
  split at h
  · rename_i i j
    cases h
    obtain ⟨v, w, rfl, a, b⟩ := rda2 r
    cases (show Dr X.K F v (.int i) from a)
    cases (show Dr X.K F w (.int j) from b)
    exact ⟨i, j, rfl, q _ H F (Fr.rfl' e) (Dr.int _)⟩
  · cases h
theorem gl_len : GL X.K C (fun xs H Q => ∃ p ys, xs = [.ref p] ∧ (SqL X.K H p ys ∨ SqT X.K H p ys) ∧ Q (.int ys.length) H) gLen := fun vs F H ds d e r h Q q => by
  unfold gLen at h
  split at h
  · rename_i ys
    cases h
    obtain ⟨v, rfl, a⟩ := rda1 r
    cases (show Dr X.K F v (.list ys) from a) with
    | lst h1 t1 => exact ⟨_, _, rfl, .inl (SqL.of (e _ _ h1)), by rw [t1.length]; exact q _ H F (Fr.rfl' e) (Dr.int _)⟩
  · rename_i ys
    cases h
    obtain ⟨v, rfl, a⟩ := rda1 r
    cases (show Dr X.K F v (.tuple ys) from a) with
    | tup h1 t1 => exact ⟨_, _, rfl, .inr (ex_t e h1), by rw [t1.length]; exact q _ H F (Fr.rfl' e) (Dr.int _)⟩
  · cases h
theorem gl_list : GL X.K C (fun xs H Q => ∃ p ys, xs = [.ref p] ∧ (SqL X.K H p ys ∨ SqT X.K H p ys) ∧ ∀ l, H l = none → Q (.ref l) (upd H l (.lst ys))) gList := fun vs F H ds d e r h Q q => by
  unfold gList at h
  split at h
  · rename_i ys
    cases h
    obtain ⟨v, rfl, a⟩ := rda1 r
    cases (show Dr X.K F v (.list ys) from a) with
    | lst h1 t1 => exact ⟨_, _, rfl, .inl (SqL.of (e _ _ h1)), fun l hl => new_lst e hl t1 q⟩
  · rename_i ys
    cases h
    obtain ⟨v, rfl, a⟩ := rda1 r
    cases (show Dr X.K F v (.tuple ys) from a) with
    | tup h1 t1 => exact ⟨_, _, rfl, .inr (ex_t e h1), fun l hl => new_lst e hl t1 q⟩
  · cases h
theorem gl_tup : GL X.K C (fun xs H Q => ∃ p ys, xs = [.ref p] ∧ ((SqL X.K H p ys ∧ ∀ l, H l = none → Q (.ref l) (upd H l (.tup ys))) ∨ (SqT X.K H p ys ∧ Q (.ref p) H))) gTupOf := fun vs F H ds d e r h Q q => by
  unfold gTupOf at h
  split at h
  · rename_i ys
    cases h
    obtain ⟨v, rfl, a⟩ := rda1 r
    cases (show Dr X.K F v (.list ys) from a) with
    | lst h1 t1 => exact ⟨_, _, rfl, .inl ⟨SqL.of (e _ _ h1), fun l hl => new_tup e hl t1 q⟩⟩
  · rename_i ys
    cases h
    obtain ⟨v, rfl, a⟩ := rda1 r
    cases (show Dr X.K F v (.tuple ys) from a) with
    | tup h1 t1 => exact ⟨_, _, rfl, .inr ⟨ex_t e h1, q _ H F (Fr.rfl' e) (Dr.tup h1 t1)⟩⟩
  · cases h
theorem blsOf_v {F : Hp} : ∀ {vs : List V} {ds : List PyData} {bs : List Bool}, DrAll X.K F vs ds → blsOf ds = some bs → vs = bs.map V.bl
  | _, _, _, .nil, h => by cases h; rfl
  | _, .bool b :: r, bs, .cons h t, hb => by
    unfold blsOf at hb
    cases h2 : blsOf r with
    | none => rw [h2] at hb; cases hb
    | some zs => rw [h2] at hb; cases hb; cases h; rw [blsOf_v t h2]; rfl
  | _, .none :: _, _, _, h => nomatch h
  | _, .int _ :: _, _, _, h => nomatch h
  | _, .str _ :: _, _, _, h => nomatch h
  | _, .list _ :: _, _, _, h => nomatch h
  | _, .tuple _ :: _, _, _, h => nomatch h
  | _, .dict _ :: _, _, _, h => nomatch h
theorem gl_all : GL X.K C (rAll X.K) gAll := fun vs F H ds d e r h Q q => by
  unfold gAll at h
  split at h
  · rename_i ys
    split at h
    · rename_i bs hb
      cases h
      obtain ⟨v, rfl, a⟩ := rda1 r
      cases (show Dr X.K F v (.list ys) from a) with
      | lst h1 t1 =>
        obtain rfl := blsOf_v t1 hb
        exact ⟨_, bs, rfl, SqL.of (e _ _ h1), q _ H F (Fr.rfl' e) (Dr.bl _)⟩
    · cases h
  · cases h
/-- isinstance(x, T), T a built-in type -/
def tyD : PyData → Option String
  | .none => some "NoneType"
  | .bool _ => some "bool"
  | .int _ => some "int"
  | .str _ => some "str"
  | .list _ => some "list"
  | .tuple _ => some "tuple"
  | _ => none
def gIsi (T : String) : Dv → Option Dv
  | .d x => (match tyD x with | some t => (match kitB t T with | some b => some (.d (.bool b)) | none => none) | none => none)
  | _ => none
theorem tyx_of {F H : Hp} (e : Ex F H) {v : V} {d : PyData} {t : String} (h : Dr X.K F v d) (ht : tyD d = some t) : TyX X.K H v (.type t) := by
  cases h with
  | non => cases ht; exact .base .non
  | bl b => cases ht; exact .base (.bl b)
  | int i => cases ht; exact .base (.int i)
  | str x => cases ht; exact .base (.str x)
  | lst h1 t1 => cases ht; exact .base (.lst (e _ _ h1))
  | tup h1 t1 =>
    cases ht
    rcases h1 with (h1 | ⟨o, h1⟩) | ⟨o, its, n, hk, hc, _⟩
    · exact .base (.tup (e _ _ h1))
    · exact .fTuple (e _ _ h1)
    · exact .kTuple hk hc
theorem i_isi {T x : Str} {Ts : String} {p p2 : Pos} (ha : PE X e (tI X.K C c)) (hg : Gl X x) (hm : X.mg x = none) (hx : bootBuiltins x = some (.builtin "isinstance")) (hgT : Gl X T) (hmT : X.mg T = none) (hT : bootBuiltins T = some (.type Ts)) (hn : x ≠ "__name__" := by decide) (hdb : (x == ("__debug__" : Str)) = false := by decide)
    (hnT : T ≠ "__name__" := by decide) (hdT : (T == ("__debug__" : Str)) = false := by decide) (s1 : starEach [e, .Name T p2] X.env = (false, eval e X.env) :: starEach [.Name T p2] X.env := by rfl) (s2 : starEach [.Name T p2] X.env = (false, eval (.Name T p2) X.env) :: starEach [] X.env := by rfl) (hpl : (backTo pos (starEach [.Name T p2] X.env)).any (·.1) = false := by rfl) :
    PE X (.Call (.Name x p) [e, .Name T p2] [] pos) (tI X.K C (cUn (gIsi Ts) c)) :=
  PE.imp (pe_callB call_isi hg hm hx (pa_cons ha (pa_cons (pe_bltn hgT hmT hT (show RelV (.ty Ts) (.type Ts) from rfl) hnT hdT) pa_nil s2) s1) hn hdb s1 hpl) fun σ H Q h => by
    have hr : GU X.K C (fun x H Q => rIsi X.K [x, .ty Ts] H Q) (gIsi Ts) := by
      intro x F H d1 d e r1 h Q q
      unfold gIsi at h
      split at h
      · rename_i a
        split at h
        · rename_i t ht
          split at h
          · rename_i b hb
            cases h
            exact ⟨x, .ty Ts, .type t, .type Ts, b, rfl, .ty Ts, tyx_of e (show Dr X.K F x a from r1) ht, kit_ty hb, q _ H F (Fr.rfl' e) (Dr.bl _)⟩
          · cases h
        · cases h
      · cases h
    exact un_go hr h
/-- list(range(n)) -/
def rgD (n : Int) : List PyData := (List.range n.toNat).map fun (i : Nat) => PyData.int (i : Int)
def gRg : Dv → Option Dv
  | .d (.int n) => if 0 ≤ n ∧ n ≤ 100000 then some (.d (.list (rgD n))) else none
  | _ => none
theorem dr_rg {F : Hp} (n : Int) : DrAll X.K F (rgV 0 n) (rgD n) := by
  unfold rgV rgD
  rw [show (n - 0).toNat = n.toNat by rw [Int.sub_zero]]
  generalize n.toNat = m
  have : ∀ (l : List Nat), DrAll X.K F (l.map fun (i : Nat) => V.int (0 + (i : Int))) (l.map fun (i : Nat) => PyData.int (i : Int)) := fun l => by
    induction l with
    | nil => exact .nil
    | cons a l ih => exact .cons (by show Dr X.K F (.int (0 + (a : Int))) (.int (a : Int)); rw [Int.zero_add]; exact .int _) ih
  exact this _
theorem i_listRg {p p2 pos2 : Pos} (hw : Wm X) (hg : Gl X "list") (hm : X.mg "list" = none) (hg2 : Gl X "range") (hm2 : X.mg "range" = none) (ha : PE X e (tI X.K C c)) (n1 : starEach [e] X.env = (false, eval e X.env) :: starEach [] X.env := by rfl)
    (n2 : starEach [.Call (.Name "range" p2) [e] [] pos2] X.env = (false, eval (.Call (.Name "range" p2) [e] [] pos2) X.env) :: starEach [] X.env := by rfl) :
    PE X (.Call (.Name "list" p) [.Call (.Name "range" p2) [e] [] pos2] [] pos) (tI X.K C (cUn gRg c)) :=
  PE.imp (pe_listRgW hw hg hm (prg_1 hg2 hm2 ha n1) n2) fun σ H Q h => by
    have hr : GU X.K C (fun x H Q => ∃ n, x = .int n ∧ RgOk 0 n ∧ ∀ q, H q = none → Q (.ref q) (upd H q (.lst (rgV 0 n)))) gRg := by
      intro x F H d1 d e r1 h Q q
      unfold gRg at h
      split at h
      · rename_i n
        split at h
        · rename_i hn
          cases h
          cases (show Dr X.K F x (.int n) from r1)
          exact ⟨n, rfl, RgOk.of_le (by omega) (by omega) (by omega) (by omega), fun p hp => new_lst e hp (dr_rg n) q⟩
        · cases h
      · cases h
    exact un_go hr h
/-! ### attributes -/
def gFld (f : Str) : Dv → Option Dv
  | .whl w => (w.at f).map Dv.d
  | _ => none
def gBase : Dv → Option Dv
  | .tbl w _ => some (.whl w)
  | _ => none
def gKept : Dv → Option Dv
  | .tbl _ k => some (.d k)
  | _ => none
theorem i_fld {f : Str} (hc : Cls X.K C.cw) (hn : NoAttr X.K C.cw f) (ha : PE X e (tI X.K C c)) (hb : attributeBase e f X.env (eval e X.env) = eval e X.env := by rfl) : PE X (.Attribute e f pos) (tI X.K C (cUn (gFld f) c)) :=
  PE.imp (pe_fld ha hb) fun σ H Q h => un_go (r := fun x H1 Q => ∃ a C1 dx fs v, x = .ref a ∧ H1 a = some (.ins C1 dx fs) ∧ Cls X.K C1 ∧ NoAttr X.K C1 f ∧ fs.lookup f = some v ∧ Q v H1) (fun x F H d1 d e r1 h Q q => by
    unfold gFld at h
    split at h
    · rename_i w
      obtain ⟨z, hz, rfl⟩ := map_some h
      obtain ⟨a, dx, gs, rfl, h1, k⟩ := (show Rw X.K C F x w from r1)
      obtain ⟨u, l, m⟩ := k f z hz
      exact ⟨a, _, dx, gs, u, rfl, e _ _ h1, hc, hn, l, q u H F (Fr.rfl' e) m⟩
    · cases h) h
theorem i_base (hc : Cls X.K C.ct) (hn : NoAttr X.K C.ct "base") (ha : PE X e (tI X.K C c)) (hb : attributeBase e "base" X.env (eval e X.env) = eval e X.env := by rfl) : PE X (.Attribute e "base" pos) (tI X.K C (cUn gBase c)) :=
  PE.imp (pe_fld ha hb) fun σ H Q h => un_go (r := fun x H1 Q => ∃ a C1 dx fs v, x = .ref a ∧ H1 a = some (.ins C1 dx fs) ∧ Cls X.K C1 ∧ NoAttr X.K C1 "base" ∧ fs.lookup ("base" : Str) = some v ∧ Q v H1) (fun x F H d1 d e r1 h Q q => by
    unfold gBase at h
    split at h
    · rename_i w k
      cases h
      obtain ⟨a, dx, b, kk, rfl, h1, rw', rk⟩ := (show Rt X.K C F x w k from r1)
      exact ⟨a, _, dx, _, b, rfl, e _ _ h1, hc, hn, rfl, q b H F (Fr.rfl' e) rw'⟩
    · cases h) h
theorem i_kept (hc : Cls X.K C.ct) (hn : NoAttr X.K C.ct "kept") (ha : PE X e (tI X.K C c)) (hb : attributeBase e "kept" X.env (eval e X.env) = eval e X.env := by rfl) : PE X (.Attribute e "kept" pos) (tI X.K C (cUn gKept c)) :=
  PE.imp (pe_fld ha hb) fun σ H Q h => un_go (r := fun x H1 Q => ∃ a C1 dx fs v, x = .ref a ∧ H1 a = some (.ins C1 dx fs) ∧ Cls X.K C1 ∧ NoAttr X.K C1 "kept" ∧ fs.lookup ("kept" : Str) = some v ∧ Q v H1) (fun x F H d1 d e r1 h Q q => by
    unfold gKept at h
    split at h
    · rename_i w k
      cases h
      obtain ⟨a, dx, b, kk, rfl, h1, rw', rk⟩ := (show Rt X.K C F x w k from r1)
      exact ⟨a, _, dx, _, kk, rfl, e _ _ h1, hc, hn, rfl, q kk H F (Fr.rfl' e) rk⟩
    · cases h) h
/-! ### own defs -/
def spD (K : PySem.W.Frag) (C : Cs K) (f : List Dv → Option Dv) : Sp := fun vs H Q _ => ∃ F ds d, Ex F H ∧ RdA K C F vs ds ∧ f ds = some d ∧ ∀ v H' F', Fr F H F' H' → Rd1 K C F' v d → Q v H'
theorem gl_sp {f : List Dv → Option Dv} {E : XK} : GL X.K C (fun vs H Q => spD X.K C f vs H Q E) f := fun vs F H ds d e r h Q q => ⟨F, ds, d, e, r, h, q⟩
/-- the def called x of the module, at level k -/
structure Dfn (P : Program) (w : World) (K : PySem.W.Frag) (mg : Str → Option Value) (base : Heap) (C : Cs K) (x : Str) (k : Nat) (f : List Dv → Option Dv) : Prop where
  ex : ∃ fa fd ps, mg x = some (.ref fa) ∧ PySem.W.keepIn K (.ref fa) = true ∧ Binds K fd ps [] ∧ FnW P w K mg base C8.CX0 k fa fd ps (spD K C f)
theorem i_call {x : Str} {k j : Nat} {f : List Dv → Option Dv} {p : Pos} (D : Dfn X.prog X.w X.K X.mg X.base C x k f) (hr : RoomH j X.A) (hw : Wm X) (hg : Gl X x) (ha : PA X (e :: es) (tA X.K C cs)) (hk : k ≤ j := by decide) (hdb : (x == ("__debug__" : Str)) = false := by decide)
    (he : starEach (e :: es) X.env = (false, eval e X.env) :: starEach es X.env := by rfl) (hpl : (backTo pos (starEach es X.env)).any (·.1) = false := by rfl) : PE X (.Call (.Name x p) (e :: es) [] pos) (tI X.K C (cApp f cs)) := by
  obtain ⟨fa, fd, ps, h1, h2, h3, F⟩ := D.ex
  exact PE.imp (pe_callW F (hr.mono hk) hw hg h1 h2 h3 (C8.pass0 (E := fun _ _ _ => False)) ha hdb he hpl) fun σ H Q h => app_go gl_sp h
/-- a method of the table's class, of no argument -/
structure Dmt (P : Program) (w : World) (K : PySem.W.Frag) (mg : Str → Option Value) (base : Heap) (C : Cs K) (x : Str) (k : Nat) (f : List Dv → Option Dv) : Prop where
  cl : Cls K C.ct
  nf : x ≠ "base" ∧ x ≠ "kept"
  ex : ∃ fa fd ps, Meth K C.ct x fa ∧ Binds K fd ps [] ∧ FnW P w K mg base C8.CX0 k fa fd ps (spD K C f)
theorem look2 {x : Str} {b k : V} (h : x ≠ "base" ∧ x ≠ "kept") : List.lookup x [("base", b), ("kept", k)] = none := by
  have h1 : (x == ("base" : Str)) = false := beq_eq_false_iff_ne.mpr h.1
  have h2 : (x == ("kept" : Str)) = false := beq_eq_false_iff_ne.mpr h.2
  simp only [List.lookup, h1, h2]
def gSelf (f : List Dv → Option Dv) : Dv → Option Dv
  | .tbl w k => f [.tbl w k]
  | _ => none
theorem i_meth0 {x : Str} {k j : Nat} {f : List Dv → Option Dv} {apos : Pos} {pl : Sem Bool} (D : Dmt X.prog X.w X.K X.mg X.base C x k f) (hr : RoomH j X.A) (hw : Wm X) (ha : PE X e (tI X.K C c)) (hk : k ≤ j := by decide)
    (ht : eval (.Call (.Attribute e x apos) [] [] pos) X.env = (do
      let ov ← eval e X.env; standAt apos.atName; let (f, first) ← holding [ov] (getMethod ov x pl); callWith pos f first (backTo pos (starEach [] X.env)) (backToKw pos (keywordEach [] X.env))) := by rfl) :
    PE X (.Call (.Attribute e x apos) [] [] pos) (tI X.K C (cUn (gSelf f) c)) := by
  obtain ⟨fa, fd, ps, h1, h3, F⟩ := D.ex
  exact PE.imp (pe_meth0W ha D.cl h1 F (hr.mono hk) hw h3 (C8.pass0 (E := fun _ _ _ => False)) ht) fun σ H Q h => un_go (r := fun x1 H1 Q => ∃ a dx fs, x1 = .ref a ∧ H1 a = some (.ins C.ct dx fs) ∧ fs.lookup x = none ∧ spD X.K C f [x1] H1 Q fun _ _ _ => False) (fun x1 F H d1 d e r1 h Q q => by
    unfold gSelf at h
    split at h
    · rename_i w kk
      obtain ⟨a, dx, b, k2, rfl, g1, _⟩ := id (show Rt X.K C F x1 w kk from r1)
      exact ⟨a, dx, _, rfl, e _ _ g1, look2 D.nf, F, [.tbl w kk], d, e, .cons r1 .nil, h, q⟩
    · cases h) h
/-- a property of the table's class -/
structure Dpr (P : Program) (w : World) (K : PySem.W.Frag) (mg : Str → Option Value) (base : Heap) (C : Cs K) (x : Str) (k : Nat) (f : List Dv → Option Dv) : Prop where
  cl : Cls K C.ct
  ex : ∃ p fa fd ps, PropOf K C.ct x p fa ∧ Binds K fd ps [] ∧ FnW P w K mg base C8.CX0 k fa fd ps (spD K C f)
theorem i_prop {x : Str} {k j : Nat} {f : List Dv → Option Dv} (D : Dpr X.prog X.w X.K X.mg X.base C x k f) (hr : RoomH j X.A) (hw : Wm X) (ha : PE X e (tI X.K C c)) (hk : k + 1 ≤ j := by decide) (hb : attributeBase e x X.env (eval e X.env) = eval e X.env := by rfl) : PE X (.Attribute e x pos) (tI X.K C (cUn (gSelf f) c)) := by
  obtain ⟨p, fa, fd, ps, h1, h3, F⟩ := D.ex
  exact PE.imp (pe_propW ha D.cl h1 F (hr.mono hk) hw h3 (C8.pass0 (E := fun _ _ _ => False)) hb) fun σ H Q h => un_go (r := fun x1 H1 Q => ∃ a dx fs, x1 = .ref a ∧ H1 a = some (.ins C.ct dx fs) ∧ spD X.K C f [.ref a] H1 Q fun _ _ _ => False) (fun x1 F H d1 d e r1 h Q q => by
    unfold gSelf at h
    split at h
    · rename_i w kk
      obtain ⟨a, dx, b, k2, rfl, g1, _⟩ := id (show Rt X.K C F x1 w kk from r1)
      exact ⟨a, dx, _, rfl, e _ _ g1, F, [.tbl w kk], d, e, .cons r1 .nil, h, q⟩
    · cases h) h
end
end LNi
set_option maxHeartbeats 4000000
/-! Readings over plain data: statements, loops, comprehensions, whole defs. -/
namespace LNi
open PySem PySem.Spec PyProof.Rows L2 HotX L2H LNa LNb
open Evl (Ex Ex.refl Ex.trans Ex.new ex_t ex_l ex_rd fresh_back)
def isOwn : Dv → Bool
  | .own _ => true
  | .odc _ => true
  | _ => false
/-- the state of a body: F0, H0 at its entry -/
structure Rq (K : PySem.W.Frag) (C : Cs K) (F0 H0 F H : Hp) (ρ : En) (σ : St) : Prop where
  fr : Fr F0 H0 F H
  rp : Rp K C F H ρ σ
  own : ∀ (i : Nat) (dv : Dv) (p : Addr), ρ[i]? = some (some dv) → isOwn dv = true → σ[i]? = some (some (.ref p)) → H0 p = none
  one : ∀ (i j : Nat) (a b : Dv), ρ[i]? = some (some a) → isOwn a = true → ρ[j]? = some (some b) → isOwn b = true → i = j
section
variable {K : PySem.W.Frag} {C : Cs K} {F0 H0 F H F1 H1 : Hp} {ρ : En} {σ : St} {dv : Dv} {v : V}
theorem Rd1.notOwn (h : Rd1 K C F v dv) : isOwn dv = false := by cases dv <;> first | rfl | exact h.elim
theorem Rq.step (r : Rq K C F0 H0 F H ρ σ) (f : Fr F H F1 H1) : Rq K C F0 H0 F1 H1 ρ σ := ⟨r.fr.tr f, r.rp.mono f, r.own, r.one⟩
theorem Rq.set {i : Nat} (r : Rq K C F0 H0 F H ρ σ) (h : Rd1 K C F v dv) : Rq K C F0 H0 F H (ρ.set i (some dv)) (σ.set i (some v)) := by
  have hn := h.notOwn
  have low : ∀ {j : Nat} {a : Dv}, (ρ.set i (some dv))[j]? = some (some a) → isOwn a = true → j ≠ i ∧ ρ[j]? = some (some a) := fun {j a} z o => by
    rcases get_set z with ⟨rfl, e⟩ | e
    · cases e; rw [hn] at o; cases o
    · exact e
  refine ⟨r.fr, r.rp.set h.rv, fun j a p z o s => ?_, fun j k a b z o z2 o2 => r.one j k a b (low z o).2 o (low z2 o2).2 o2⟩
  obtain ⟨ne, z'⟩ := low z o
  rw [List.getElem?_set_ne (Ne.symm ne)] at s
  exact r.own j a p z' o s
def setAll {α : Type} : List (Option α) → List Nat → List α → List (Option α)
  | l, j :: js, v :: vs => setAll (l.set j (some v)) js vs
  | l, _, _ => l
theorem Rq.setAll : ∀ {js : List Nat} {ρ : En} {σ : St} {vs : List V} {ds : List PyData}, Rq K C F0 H0 F H ρ σ → DrAll K F vs ds → Rq K C F0 H0 F H (LNi.setAll ρ js (ds.map Dv.d)) (LNi.setAll σ js vs)
  | [], _, _, _, _, r, _ => r
  | _ :: _, _, _, _, _, r, .nil => r
  | _ :: js, _, _, _, _, r, .cons h t => Rq.setAll (js := js) (r.set (dv := .d _) h) t
theorem Rp.setAll : ∀ {js : List Nat} {ρ : En} {σ : St} {vs : List V} {ds : List PyData}, Rp K C F H ρ σ → DrAll K F vs ds → Rp K C F H (LNi.setAll ρ js (ds.map Dv.d)) (LNi.setAll σ js vs)
  | [], _, _, _, _, r, _ => r
  | _ :: _, _, _, _, _, r, .nil => r
  | _ :: js, _, _, _, _, r, .cons h t => Rp.setAll (js := js) (r.set (dv := .d _) h) t
end
/-- what a return has to answer -/
abbrev RT := Hp → Hp → Dv → VK → Prop
def RetD (K : PySem.W.Frag) (C : Cs K) : RT := fun F0 H0 dv rt => ∀ v H' F', Fr F0 H0 F' H' → Rd1 K C F' v dv → rt v H'
/-- a list that is new, outside the immutable part -/
def RetL (K : PySem.W.Frag) (C : Cs K) : RT := fun F0 H0 dv rt => ∃ ds, dv = .d (.list ds) ∧ ∀ p xs H' F', Fr F0 H0 F' H' → F' p = none → H0 p = none → H' p = some (.lst xs) → DrAll K F' xs ds → rt (.ref p) H'
abbrev SmS := En → Option (En ⊕ Dv)
def Kp (K : PySem.W.Frag) (C : Cs K) (R : RT) (F0 H0 F : Hp) (D : Ends) : En ⊕ Dv → Prop
  | .inl ρ' => ∀ σ' H' F', Rq K C F0 H0 F' H' ρ' σ' → Ex F F' → D.nx σ' H'
  | .inr dv => R F0 H0 dv D.rt
def tIs (K : PySem.W.Frag) (C : Cs K) (R : RT) (c : SmS) : TS := fun D σ H => ∃ F0 H0 F ρ r, Rq K C F0 H0 F H ρ σ ∧ c ρ = some r ∧ Kp K C R F0 H0 F D r
def sNil : SmS := fun ρ => some (.inl ρ)
def sNever : SmS := fun _ => none
def sSeq (a b : SmS) : SmS := fun ρ => match a ρ with
  | some (.inl ρ') => b ρ'
  | some (.inr d) => some (.inr d)
  | none => none
def sSet (i : Nat) (c : Sm) : SmS := fun ρ => match c ρ with
  | some dv => some (.inl (ρ.set i (some dv)))
  | none => none
def sRet (c : Sm) : SmS := fun ρ => match c ρ with
  | some dv => some (.inr dv)
  | none => none
def sIf (t : SmB) (a b : SmS) : SmS := fun ρ => match t ρ with
  | some true => a ρ
  | some false => b ρ
  | none => none
section
variable {X : Cx} {C : Cs X.K} {R : RT} {st : Stmt} {rest : List Stmt} {c1 c2 : SmS} {c : Sm} {t : SmB} {e : Expr} {pos : Pos}
theorem is_nil : PSs X [] (tIs X.K C R sNil) := PSs.imp pss_nil fun D σ H ⟨F0, H0, F, ρ, r, rq, h, k⟩ => by
  cases h; exact k σ H F rq (Ex.refl F)
theorem more {F0 H0 F F1 : Hp} {D : Ends} {r : En ⊕ Dv} (e : Ex F F1) (k : Kp X.K C R F0 H0 F D r) : Kp X.K C R F0 H0 F1 D r := by
  cases r with
  | inl ρ1 => exact fun σ1 H1 F2 rq e1 => k σ1 H1 F2 rq (e.trans e1)
  | inr dv => exact k
theorem seq_go {D : Ends} {σ : St} {H : Hp} (h : tIs X.K C R (sSeq c1 c2) D σ H) : tSeq (tIs X.K C R c1) (tIs X.K C R c2) D σ H := by
  obtain ⟨F0, H0, F, ρ, r, rq, h, k⟩ := h
  unfold sSeq at h
  cases h1 : c1 ρ with
  | none => rw [h1] at h; cases h
  | some r1 =>
    cases r1 with
    | inl ρ1 =>
      rw [h1] at h
      exact ⟨F0, H0, F, ρ, .inl ρ1, rq, h1, fun σ' H' F' rq' e1 => ⟨F0, H0, F', ρ1, r, rq', h, more e1 k⟩⟩
    | inr d =>
      rw [h1] at h
      cases h
      exact ⟨F0, H0, F, ρ, .inr d, rq, h1, k⟩
theorem is_cons (h1 : PS X st (tIs X.K C R c1)) (h2 : PSs X rest (tIs X.K C R c2)) : PSs X (st :: rest) (tIs X.K C R (sSeq c1 c2)) := PSs.imp (pss_cons h1 h2) fun _ _ _ h => seq_go h
theorem is_one (h1 : PS X st (tIs X.K C R c1)) : PSs X [st] (tIs X.K C R c1) := pss_one h1
theorem is_never : PSs X rest (tIs X.K C R sNever) := PSs.imp pss_never fun D σ H ⟨F0, H0, F, ρ, r, rq, h, k⟩ => by cases h
theorem is_never1 : PS X st (tIs X.K C R sNever) := PS.imp ps_never fun D σ H ⟨F0, H0, F, ρ, r, rq, h, k⟩ => by cases h
theorem is_set {i : Nat} {x : Str} {pos' : Pos} (hN : X.N.Nodup) (hi : X.N[i]? = some x) (hx : Loc X.env.scope x) (he : PE X e (tI X.K C c)) (hs : swapsWith e (some (.Name x pos')) pos.line X.env = pure false := by rfl) (hf : X.fn x = true ∨ X.env.scope.names.lookup x = some .local := by first | exact .inl rfl | exact .inr rfl | assumption) :
    PS X (.Assign [.Name x pos'] e pos) (tIs X.K C R (sSet i c)) := PS.imp (ps_set hN hi hx he hs hf) fun D σ H ⟨F0, H0, F, ρ, r, rq, h, k⟩ => by
  unfold sSet at h
  cases h1 : c ρ with
  | none => rw [h1] at h; cases h
  | some dv =>
    rw [h1] at h
    cases h
    exact ⟨F, ρ, dv, rq.fr.b, rq.rp, h1, fun v H1 F1 f1 r1 => k _ H1 F1 ((rq.step f1).set r1) f1.a⟩
theorem set_any {i : Nat} (h : PS X st (tAsg (tI X.K C c) (gName i))) : PS X st (tIs X.K C R (sSet i c)) := PS.imp h fun D σ H ⟨F0, H0, F, ρ, r, rq, h, k⟩ => by
  unfold sSet at h
  cases h1 : c ρ with
  | none => rw [h1] at h; cases h
  | some dv =>
    rw [h1] at h
    cases h
    exact ⟨F, ρ, dv, rq.fr.b, rq.rp, h1, fun v H1 F1 f1 r1 => k _ H1 F1 ((rq.step f1).set r1) f1.a⟩
theorem is_ret (he : PE X e (tI X.K C c)) : PS X (.Return (some e) pos) (tIs X.K C (RetD X.K C) (sRet c)) := PS.imp (ps_ret he) fun D σ H ⟨F0, H0, F, ρ, r, rq, h, k⟩ => by
  unfold sRet at h
  cases h1 : c ρ with
  | none => rw [h1] at h; cases h
  | some dv =>
    rw [h1] at h
    cases h
    exact ⟨F, ρ, dv, rq.fr.b, rq.rp, h1, fun v H1 F1 f1 r1 => k v H1 F1 (rq.fr.tr f1) r1⟩
theorem is_if {q : Expr} {a b : List Stmt} (hc : PT X q (tT X.K C t)) (ha : PSs X a (tIs X.K C R c1)) (hb : PSs X b (tIs X.K C R c2)) : PS X (.If q a b pos) (tIs X.K C R (sIf t c1 c2)) := PS.imp (ps_if hc ha hb) fun D σ H ⟨F0, H0, F, ρ, r, rq, h, k⟩ => by
  unfold sIf at h
  cases h1 : t ρ with
  | none => rw [h1] at h; cases h
  | some kk =>
    rw [h1] at h
    refine ⟨F, ρ, kk, rq.fr.b, rq.rp, h1, fun H1 F1 f1 => ?_⟩
    cases kk with
    | true => exact ⟨F0, H0, F1, ρ, r, rq.step f1, h, more f1.a k⟩
    | false => exact ⟨F0, H0, F1, ρ, r, rq.step f1, h, more f1.a k⟩
/-! ### targets -/
def tG (K : PySem.W.Frag) (js : List Nat) (spl : PyData → Option (List PyData)) : TG := fun v σ H Q => ∃ F d es, Ex F H ∧ Dr K F v d ∧ spl d = some es ∧ es.length = js.length ∧ ∀ vs, DrAll K F vs es → Q (setAll σ js vs) H
def spl1 : PyData → Option (List PyData) := fun d => some [d]
def splT : PyData → Option (List PyData)
  | .tuple ds => some ds
  | _ => none
def splL : PyData → Option (List PyData)
  | .list ds => some ds
  | _ => none
theorem ig_name {i : Nat} {x : Str} (hN : X.N.Nodup) (hi : X.N[i]? = some x) (hx : Loc X.env.scope x) (hf : X.fn x = true ∨ X.env.scope.names.lookup x = some .local := by first | exact .inl rfl | exact .inr rfl | assumption) : PG X (.Name x pos) (tG X.K [i] spl1) :=
  PG.imp (pg_name hN hi hx hf) fun v σ H Q ⟨F, d, es, e, r, h, hl, k⟩ => by cases h; exact k [v] (.cons r .nil)
/-- several names: the slots js -/
def gAllN : List Nat → TGs := fun js vs σ H Q => vs.length = js.length ∧ Q (setAll σ js vs) H
theorem igs_nil : PGs X [] (gAllN []) := by
  refine ⟨fun pp s σ H vs us Q J r h => pgs_nil.run pp s σ H vs us Q J r ?_⟩
  obtain ⟨hl, q⟩ := h
  cases vs with
  | nil => exact ⟨rfl, q⟩
  | cons _ _ => cases hl
theorem igs_cons {i : Nat} {x : Str} {es : List Expr} {js : List Nat} (hN : X.N.Nodup) (hi : X.N[i]? = some x) (hx : Loc X.env.scope x) (h2 : PGs X es (gAllN js)) (hf : X.fn x = true ∨ X.env.scope.names.lookup x = some .local := by first | exact .inl rfl | exact .inr rfl | assumption)
    (hs : (assignEach (.Name x pos :: es) X.env).map (·.2) = assign (.Name x pos) X.env :: (assignEach es X.env).map (·.2) := by rfl) : PGs X (.Name x pos :: es) (gAllN (i :: js)) := by
  refine ⟨fun pp s σ H vs us Q J r h => (pgs_cons (pg_name hN hi hx hf) h2 hs).run pp s σ H vs us Q J r ?_⟩
  obtain ⟨hl, q⟩ := h
  cases vs with
  | nil => cases hl
  | cons v vs => exact ⟨v, vs, rfl, by simpa using hl, q⟩
theorem ig_tup {es : List Expr} {k : Nat} {js : List Nat} {n : Nat} (hw : Wm X) (h : PGs X es (gAllN js)) (hj : js.length = n := by rfl)
    (hn : (assignEach es X.env).length = n := by rfl) (hst : (assignEach es X.env).findIdx? (·.1) = none := by rfl) : PG X (.Tuple es k pos) (tG X.K js splT) :=
  PG.imp (pg_sqW false hw h hn hst) fun v σ H Q ⟨F, d, es, e, r, h, hl, k⟩ => by
    cases r with
    | tup h1 t1 => cases h; exact ⟨_, _, rfl, ex_t e h1, by rw [t1.length, hl, hj], by rw [t1.length, hl], k _ t1⟩
    | _ => cases h
theorem ig_lst {es : List Expr} {k : Nat} {js : List Nat} {n : Nat} (hw : Wm X) (h : PGs X es (gAllN js)) (hj : js.length = n := by rfl)
    (hn : (assignEach es X.env).length = n := by rfl) (hst : (assignEach es X.env).findIdx? (·.1) = none := by rfl) : PG X (.Tuple es k pos) (tG X.K js splL) :=
  PG.imp (pg_sqW true hw h hn hst) fun v σ H Q ⟨F, d, es, e, r, h, hl, k⟩ => by
    cases r with
    | lst h1 t1 => cases h; exact ⟨_, _, rfl, SqL.of (e _ _ h1), by rw [t1.length, hl, hj], by rw [t1.length, hl], k _ t1⟩
    | _ => cases h
def sUnp (js : List Nat) (spl : PyData → Option (List PyData)) (c : Sm) : SmS := fun ρ => match c ρ with
  | some (.d x) => (match spl x with | some es => if es.length = js.length then some (.inl (setAll ρ js (es.map Dv.d))) else none | none => none)
  | _ => none
theorem is_unp {tg : Expr} {js : List Nat} {spl : PyData → Option (List PyData)} (hg : PG X tg (tG X.K js spl)) (he : PE X e (tI X.K C c)) (hs : swapsWithSole [tg] e pos.line X.env = pure false := by rfl) (hw : swappedStores [tg] e X.env = pure none := by rfl)
    (h1 : (assignEach [tg] X.env).map (·.2) = [assign tg X.env] := by rfl) : PS X (.Assign [tg] e pos) (tIs X.K C R (sUnp js spl c)) := PS.imp (ps_asg he hg hs hw h1) fun D σ H ⟨F0, H0, F, ρ, r, rq, h, k⟩ => by
  unfold sUnp at h
  split at h
  · rename_i x hx
    split at h
    · rename_i es hes
      split at h
      · rename_i hl
        cases h
        exact ⟨F, ρ, .d x, rq.fr.b, rq.rp, hx, fun v H1 F1 f1 r1 => ⟨F1, x, es, f1.b, r1, hes, hl, fun vs t => k _ H1 F1 ((rq.step f1).setAll t) f1.a⟩⟩
      · cases h
    · cases h
  · cases h
/-- a, b = x, y -/
def sPar (i j : Nat) (cs : SmA) : SmS := fun ρ => match cs ρ with
  | some [a, b] => some (.inl ((ρ.set i (some a)).set j (some b)))
  | _ => none
theorem is_par {i j : Nat} {x y : Str} {a b : Expr} {cs : SmA} {px py pt : Pos} {kt k2 pt2} (hw : Wm X) (hN : X.N.Nodup) (hi : X.N[i]? = some x) (hj : X.N[j]? = some y) (hx : X.env.scope.names.lookup x = some .local) (hy : X.env.scope.names.lookup y = some .local) (ha : PA X [a, b] (tA X.K C cs))
    (hij : i ≠ j := by decide) (hsw : swappedStores [.Tuple [.Name x px, .Name y py] kt pt] (.Tuple [a, b] k2 pt2) X.env = pure (some [x, y]) := by with_unfolding_all rfl)
    (hs : swapsWithSole [.Tuple [.Name x px, .Name y py] kt pt] (.Tuple [a, b] k2 pt2) pos.line X.env = pure false := by rfl) :
    PS X (.Assign [.Tuple [.Name x px, .Name y py] kt pt] (.Tuple [a, b] k2 pt2) pos) (tIs X.K C R (sPar i j cs)) := PS.imp (ps_parW hw hN hi hj hij hx hy ha hsw hs) fun D σ H ⟨F0, H0, F, ρ, r, rq, h, k⟩ => by
  unfold sPar at h
  split at h
  · rename_i d1 d2 hd
    cases h
    refine ⟨F, ρ, [d1, d2], rq.fr.b, rq.rp, hd, fun vs H1 F1 f1 r1 => ?_⟩
    obtain ⟨v, w, rfl, a, b⟩ := rda2 r1
    exact ⟨v, w, rfl, k _ H1 F1 (((rq.step f1).set a).set b) f1.a⟩
  · cases h
end
/-! ### iterations -/
structure ItR (K : PySem.W.Frag) (Fj : Hp) (J : It) (ds : List PyData) : Prop where
  go : ∀ (i : Nat) (d : PyData) (F H : Hp), ds[i]? = some d → Ex Fj F → Ex F H → J.go i H ∧ ∀ x H', J.yld i H x H' → ∃ F', Fr F H F' H' ∧ Dr K F' x d
  stop : ∀ (F H : Hp), Ex Fj F → Ex F H → J.stop ds.length H
def tJ (K : PySem.W.Frag) (C : Cs K) (c : En → Option (List PyData)) : TI := fun σ H R => ∃ F ρ ds, Ex F H ∧ Rp K C F H ρ σ ∧ c ρ = some ds ∧ ∀ J H' F', Fr F H F' H' → ItR K F' J ds → R J H'
def jList (c : Sm) : En → Option (List PyData) := fun ρ => match c ρ with
  | some (.d (.list ds)) => some ds
  | _ => none
def jTup (c : Sm) : En → Option (List PyData) := fun ρ => match c ρ with
  | some (.d (.tuple ds)) => some ds
  | _ => none
def enumD (ds : List PyData) : Nat → List PyData → List PyData := fun n l => match l with
  | [] => []
  | d :: r => .tuple [.int (n : Int), d] :: enumD ds (n + 1) r
def enD (n : Nat) : List PyData → List PyData
  | [] => []
  | d :: r => .tuple [.int (n : Int), d] :: enD (n + 1) r
theorem enD_get : ∀ {ds : List PyData} {n i : Nat} {e : PyData}, (enD n ds)[i]? = some e → ∃ d, ds[i]? = some d ∧ e = .tuple [.int ((n + i : Nat) : Int), d]
  | [], _, _, _, h => by simp [enD] at h
  | d :: r, n, 0, e, h => by simp [enD] at h; exact ⟨d, rfl, by simp [← h]⟩
  | d :: r, n, i + 1, e, h => by
    obtain ⟨d1, a, b⟩ := enD_get (ds := r) (n := n + 1) (i := i) (e := e) (by simpa [enD] using h)
    exact ⟨d1, by simpa using a, by rw [b, show n + 1 + i = n + (i + 1) by omega]⟩
theorem enD_len : ∀ {ds : List PyData} {n : Nat}, (enD n ds).length = ds.length
  | [], _ => rfl
  | _ :: r, n => by rw [enD, List.length_cons, List.length_cons, enD_len]
def jEn (b : Bool) (c : Sm) : En → Option (List PyData) := fun ρ => match c ρ with
  | some (.d (.list ds)) => if b = true then some (enD 0 ds) else none
  | some (.d (.tuple ds)) => if b = false then some (enD 0 ds) else none
  | _ => none
section
variable {X : Cx} {C : Cs X.K} {tg e : Expr} {c : Sm} {pos : Pos}
theorem ij_list (h : PE X e (tI X.K C c)) : PIW X tg e (tJ X.K C (jList c)) := PIW.imp (pi_listW h) fun σ H R ⟨F, ρ, ds, ex, rp, h, q⟩ => by
  unfold jList at h
  split at h
  · rename_i ys hy
    cases h
    refine ⟨F, ρ, _, ex, rp, hy, fun v H1 F1 f1 r1 => ?_⟩
    cases (show Dr X.K F1 v (.list ds) from r1) with
    | lst h1 t1 =>
      rename_i a xs
      refine ⟨a, rfl, ⟨xs, SqL.of (f1.b _ _ h1)⟩, q _ H1 F1 f1 ⟨fun i d F2 H2 hd e1 e2 => ?_, fun F2 H2 e1 e2 => ⟨xs, SqL.of (e2 _ _ (e1 _ _ h1)), Nat.le_of_eq t1.length⟩⟩⟩
      obtain ⟨v, hv, rv⟩ := t1.get hd
      have g := SqL.of (K := X.K) (e2 _ _ (e1 _ _ h1))
      refine ⟨⟨xs, v, g, hv⟩, fun x H3 y => ?_⟩
      obtain ⟨rfl, y⟩ := y
      have z := y xs g
      rw [hv] at z; cases z
      exact ⟨F2, Fr.rfl' e2, rv.mono e1⟩
  · cases h
theorem ij_tup (h : PE X e (tI X.K C c)) : PIW X tg e (tJ X.K C (jTup c)) := PIW.imp (pi_tupW h) fun σ H R ⟨F, ρ, ds, ex, rp, h, q⟩ => by
  unfold jTup at h
  split at h
  · rename_i ys hy
    cases h
    refine ⟨F, ρ, _, ex, rp, hy, fun v H1 F1 f1 r1 => ?_⟩
    cases (show Dr X.K F1 v (.tuple ds) from r1) with
    | tup h1 t1 =>
      rename_i a xs
      refine ⟨a, rfl, ⟨xs, ex_t f1.b h1⟩, q _ H1 F1 f1 ⟨fun i d F2 H2 hd e1 e2 => ?_, fun F2 H2 e1 e2 => ⟨xs, ex_t e2 (ex_t e1 h1), Nat.le_of_eq t1.length⟩⟩⟩
      obtain ⟨v, hv, rv⟩ := t1.get hd
      have g := ex_t e2 (ex_t e1 h1)
      refine ⟨⟨xs, v, g, hv⟩, fun x H3 y => ?_⟩
      obtain ⟨rfl, y⟩ := y
      have z := y xs g
      rw [hv] at z; cases z
      exact ⟨F2, Fr.rfl' e2, rv.mono e1⟩
  · cases h
theorem en_R {F1 : Hp} {b : Bool} {a : Addr} {xs : List V} {ds : List PyData} (hs : ∀ H, Ex F1 H → Sq X.K b H a xs) (t1 : DrAll X.K F1 xs ds) : ItR X.K F1 (ItE X.K b a) (enD 0 ds) := by
  refine ⟨fun i d F2 H2 hd e1 e2 => ?_, fun F2 H2 e1 e2 => ⟨xs, hs H2 (e1.trans e2), by rw [t1.length, enD_len]⟩⟩
  obtain ⟨d1, hd1, rfl⟩ := enD_get hd
  obtain ⟨v, hv, rv⟩ := t1.get hd1
  have g := hs H2 (e1.trans e2)
  refine ⟨⟨xs, v, g, hv⟩, fun x H3 y => ?_⟩
  obtain ⟨T, u, rfl, hT, rfl, y⟩ := y
  have z := y xs g
  rw [hv] at z; cases z
  rw [Nat.zero_add]
  refine ⟨upd F2 T (.tup [.int (i : Nat), v]), Fr.new _ e2 hT, .tup (SqT.of upd_same) (.cons (.int _) (.cons ((rv.mono e1).mono (Ex.new (fresh_back e2 hT))) .nil))⟩
theorem ij_en {elts : List Expr} {kk : Nat} {p tpos : Pos} (b : Bool) (hg : Gl X "enumerate") (hm : X.mg "enumerate" = none) (h : PE X e (tI X.K C c)) (hs : starEach [e] X.env = (false, eval e X.env) :: starEach [] X.env := by rfl) :
    PIW X (.Tuple elts kk tpos) (.Call (.Name "enumerate" p) [e] [] pos) (tJ X.K C (jEn b c)) := PIW.imp (pi_enumW b hg hm (pa_cons h pa_nil hs) hs) fun σ H R ⟨F, ρ, ds, ex, rp, h, q⟩ => by
  unfold jEn at h
  split at h
  · rename_i ys hy
    split at h
    · rename_i hb
      subst hb
      cases h
      refine ⟨F, ρ, _, ex, rp, hy, fun v H1 F1 f1 r1 => ?_⟩
      cases (show Dr X.K F1 v (.list ys) from r1) with
      | lst h1 t1 => exact ⟨_, _, rfl, SqL.of (f1.b _ _ h1), q _ H1 F1 f1 (en_R (fun H e => SqL.of (e _ _ h1)) t1)⟩
    · cases h
  · rename_i ys hy
    split at h
    · rename_i hb
      subst hb
      cases h
      refine ⟨F, ρ, _, ex, rp, hy, fun v H1 F1 f1 r1 => ?_⟩
      cases (show Dr X.K F1 v (.tuple ys) from r1) with
      | tup h1 t1 => exact ⟨_, _, rfl, ex_t f1.b h1, q _ H1 F1 f1 (en_R (fun H e => ex_t e h1) t1)⟩
    · cases h
  · cases h
end
/-! ### for -/
def sGo (js : List Nat) (spl : PyData → Option (List PyData)) (cb : SmS) : List PyData → En → Option En
  | [], ρ => some ρ
  | d :: ds, ρ => match spl d with
    | some es => if es.length = js.length then (match cb (setAll ρ js (es.map Dv.d)) with | some (.inl ρ') => sGo js spl cb ds ρ' | _ => none) else none
    | none => none
def sFor (c : En → Option (List PyData)) (js : List Nat) (spl : PyData → Option (List PyData)) (cb : SmS) : SmS := fun ρ => match c ρ with
  | some ds => (match sGo js spl cb ds ρ with | some ρ' => some (.inl ρ') | none => none)
  | none => none
theorem drop_get {α : Type} {l : List α} {i : Nat} {d : α} (h : l[i]? = some d) : l.drop i = d :: l.drop (i + 1) := by
  obtain ⟨hi, e⟩ := List.getElem?_eq_some_iff.mp h
  rw [List.drop_eq_getElem_cons hi, e]
section
variable {X : Cx} {C : Cs X.K} {R : RT} {tg iter : Expr} {pos : Pos}
theorem is_for {body : List Stmt} {c : En → Option (List PyData)} {js : List Nat} {spl : PyData → Option (List PyData)} {cb : SmS} (hp : PassesOwn (model X.prog X.w) X.A X.env X.xe) (hw : Wm X) (hi : PIW X tg iter (tJ X.K C c)) (hg : PG X tg (tG X.K js spl)) (hb : PSs X body (tIs X.K C R cb))
    (hs : ∀ x, foldedSetIterable iter X.env x = pure x := by intro _; rfl) : PS X (.For tg iter body [] pos) (tIs X.K C R (sFor c js spl cb)) := PS.imp (ps_forW hp hw hi hg hb hs) fun D σ H ⟨F0, H0, F, ρ, r, rq, h, k⟩ => by
  unfold sFor at h
  cases h1 : c ρ with
  | none => rw [h1] at h; cases h
  | some ds =>
    rw [h1] at h
    cases h2 : sGo js spl cb ds ρ with
    | none => simp only [h2] at h; cases h
    | some ρ' =>
      simp only [h2] at h
      cases h
      refine ⟨F, ρ, ds, rq.fr.b, rq.rp, h1, fun J H1 F1 f1 R1 => ?_⟩
      refine ⟨fun i m σ2 H2 => ∃ F2 ρ2, Rq X.K C F0 H0 F2 H2 ρ2 σ2 ∧ Ex F1 F2 ∧ sGo js spl cb (ds.drop i) ρ2 = some ρ' ∧ i ≤ ds.length ∧ m = ds.length - i, ⟨_, F1, ρ, rq.step f1, Ex.refl F1, h2, Nat.zero_le _, rfl⟩, ?_⟩
      rintro i m σ2 H2 ⟨F2, ρ2, rq2, e2, hgo, hle, rfl⟩
      by_cases hlt : i < ds.length
      · have hd : ds[i]? = some ds[i] := by simp [hlt]
        obtain ⟨g1, g2⟩ := R1.go i _ F2 H2 hd e2 rq2.fr.b
        rw [drop_get hd, sGo] at hgo
        refine .inr ⟨g1, fun σ3 H3 => ∃ F3 ρ3, Rq X.K C F0 H0 F3 H3 ρ3 σ3 ∧ Ex F1 F3 ∧ sGo js spl cb (ds.drop (i + 1)) ρ3 = some ρ', fun σ3 H3 ⟨F3, ρ3, a, b, c⟩ => ⟨ds.length - (i + 1), by omega, F3, ρ3, a, b, c, hlt, rfl⟩, fun x H3 y => ?_⟩
        obtain ⟨F3, f3, rx⟩ := g2 x H3 y
        split at hgo
        · rename_i es hes
          split at hgo
          · rename_i hl
            split at hgo
            · rename_i ρ3 hcb
              exact ⟨F3, _, es, f3.b, rx, hes, hl, fun vs t => ⟨F0, H0, F3, _, .inl ρ3, (rq2.step f3).setAll t, hcb, fun σ4 H4 F4 rq4 e4 => ⟨F4, ρ3, rq4, (e2.trans f3.a).trans e4, hgo⟩⟩⟩
            · cases hgo
          · cases hgo
        · cases hgo
      · have e : i = ds.length := by omega
        subst e
        rw [List.drop_length, sGo] at hgo
        cases hgo
        exact .inl ⟨R1.stop F2 H2 e2 rq2.fr.b, k σ2 H2 F2 rq2 (f1.a.trans e2)⟩
end
end LNi
set_option maxHeartbeats 4000000
/-! Readings over plain data: comprehensions, lists of the body's own, whole defs. -/
namespace LNi
open PySem PySem.Spec PyProof.Rows L2 HotX L2H LNa LNb
open Evl (Ex Ex.refl Ex.trans Ex.new ex_t ex_l ex_rd fresh_back)
theorem line100' {n : Nat} (h : n < 100000) : n < sizeLine := by rw [sizeLine_eq]; omega
/-! ### comprehensions -/
def wipeD (ρ : En) : List Nat → En
  | [] => ρ
  | v :: vs => (wipeD ρ vs).set v none
theorem wipe_get : ∀ {vs : List Nat} {σ : St} {i : Nat}, (wipe σ vs)[i]? = if i ∈ vs then (σ[i]?).map (fun _ => none) else σ[i]?
  | [], σ, i => by simp [wipe]
  | v :: vs, σ, i => by
    unfold wipe
    by_cases hv : v = i
    · subst hv
      rw [if_pos (List.mem_cons_self ..)]
      by_cases hl : v < σ.length
      · rw [List.getElem?_set_self (by rw [wipe_length]; exact hl), List.getElem?_eq_getElem hl]; rfl
      · rw [List.getElem?_eq_none (by rw [List.length_set, wipe_length]; omega), List.getElem?_eq_none (by omega)]; rfl
    · rw [List.getElem?_set_ne hv, wipe_get]
      by_cases h : i ∈ vs
      · rw [if_pos h, if_pos (List.mem_cons_of_mem _ h)]
      · rw [if_neg h, if_neg (fun z => (List.mem_cons.mp z).elim (fun z => hv z.symm) h)]
theorem setAll_len {α : Type} : ∀ {js : List Nat} {l : List (Option α)} {vs : List α}, (setAll l js vs).length = l.length
  | [], l, _ => by cases l <;> rfl
  | _ :: _, l, [] => by cases l <;> rfl
  | j :: js, l, v :: vs => by rw [setAll, setAll_len, List.length_set]
theorem setAll_get {α : Type} : ∀ {js : List Nat} {l : List (Option α)} {vs : List α} {i : Nat}, i ∉ js → (setAll l js vs)[i]? = l[i]?
  | [], l, _, _, _ => by cases l <;> rfl
  | _ :: _, l, [], _, _ => by cases l <;> rfl
  | j :: js, l, v :: vs, i, h => by
    rw [setAll, setAll_get (fun z => h (List.mem_cons_of_mem _ z)), List.getElem?_set_ne (by rintro rfl; exact h (List.mem_cons_self ..))]
theorem wipe_setAll {js vs : List Nat} {σ : St} {ws : List V} (h : ∀ j ∈ js, j ∈ vs) : wipe (setAll (wipe σ vs) js ws) vs = wipe σ vs := by
  apply List.ext_getElem?
  intro i
  rw [wipe_get, wipe_get]
  by_cases hi : i ∈ vs
  · rw [if_pos hi, if_pos hi]
    by_cases hl : i < σ.length
    · rw [List.getElem?_eq_getElem (by rw [setAll_len, wipe_length]; exact hl), List.getElem?_eq_getElem hl]; rfl
    · rw [List.getElem?_eq_none (by rw [setAll_len, wipe_length]; omega), List.getElem?_eq_none (by omega)]
  · rw [if_neg hi, if_neg hi, setAll_get (fun z => hi (h i z)), wipe_get, if_neg hi]
theorem Rp.wipe {K : PySem.W.Frag} {C : Cs K} {F H : Hp} {ρ : En} {σ : St} (r : Rp K C F H ρ σ) : ∀ vs : List Nat, Rp K C F H (wipeD ρ vs) (L2.wipe σ vs)
  | [] => r
  | v :: vs => by
    have ih := Rp.wipe r vs
    refine ⟨by unfold wipeD L2.wipe; rw [List.length_set, List.length_set, ih.len], fun i dv h => ?_⟩
    unfold wipeD at h
    rcases get_set h with ⟨_, e⟩ | ⟨ne, e⟩
    · cases e
    · obtain ⟨u, a, b⟩ := ih.at_ i dv e
      exact ⟨u, by unfold L2.wipe; rw [List.getElem?_set_ne (Ne.symm ne)]; exact a, b⟩
def lcGo (js : List Nat) (spl : PyData → Option (List PyData)) (b : SmB) (e : Sm) (ρ : En) : List PyData → Option (List PyData)
  | [] => some []
  | d :: ds => match spl d with
    | some es => if es.length = js.length then (match b (setAll ρ js (es.map Dv.d)) with
        | some true => (match e (setAll ρ js (es.map Dv.d)) with
          | some (.d y) => (match lcGo js spl b e ρ ds with | some r => some (y :: r) | none => none)
          | _ => none)
        | some false => lcGo js spl b e ρ ds
        | none => none) else none
    | none => none
def cLc (c : En → Option (List PyData)) (js : List Nat) (spl : PyData → Option (List PyData)) (vs : List Nat) (b : SmB) (e : Sm) : Sm := fun ρ => match c ρ with
  | some ds => if ds.length ≤ 100000 then (match lcGo js spl b e (wipeD ρ vs) ds with | some ys => some (.d (.list ys)) | none => none) else none
  | none => none
theorem cLc_some {c : En → Option (List PyData)} {js : List Nat} {spl : PyData → Option (List PyData)} {vs : List Nat} {b : SmB} {e : Sm} {ρ : En} {dv : Dv} (h : cLc c js spl vs b e ρ = some dv) : ∃ ds ys, c ρ = some ds ∧ ds.length ≤ 100000 ∧ lcGo js spl b e (wipeD ρ vs) ds = some ys ∧ dv = .d (.list ys) := by
  unfold cLc at h
  split at h
  · rename_i ds hd
    split at h
    · rename_i hl
      split at h
      · rename_i ys hy
        cases h
        exact ⟨ds, ys, hd, hl, hy, rfl⟩
      · cases h
    · cases h
  · cases h
section
variable {X : Cx} {C : Cs X.K} {tg iter : Expr} {pos : Pos}
/-- a new list, outside the immutable part -/
def tIL (K : PySem.W.Frag) (C : Cs K) (c : Sm) : TE := fun σ H Q => ∃ F ρ ds, Ex F H ∧ Rp K C F H ρ σ ∧ c ρ = some (.d (.list ds)) ∧ ∀ p xs H' F', Fr F H F' H' → F' p = none → H p = none → H' p = some (.lst xs) → DrAll K F' xs ds → Q (.ref p) H'
/-- .. is a list -/
theorem freeze {K : PySem.W.Frag} {C : Cs K} {F H F' H' : Hp} {p : Addr} {xs : List V} {ds : List PyData} (f : Fr F H F' H') (h1 : F' p = none) (h2 : H p = none) (h3 : H' p = some (.lst xs)) (t : DrAll K F' xs ds) : Fr F H (upd F' p (.lst xs)) H' ∧ Dr K (upd F' p (.lst xs)) (.ref p) (.list ds) := by
  refine ⟨⟨f.a.trans (Ex.new h1), fun q o z => ?_, fun q o z z2 => ?_⟩, .lst upd_same (t.mono (Ex.new h1))⟩
  · by_cases w : q = p
    · subst w; rw [upd_same] at z; cases z; exact h3
    · rw [upd_ne w] at z; exact f.b q o z
  · obtain ⟨a, b⟩ := f.c q o z z2
    have w : q ≠ p := fun w => by rw [w, h2] at z2; cases z2
    exact ⟨by rw [upd_ne w]; exact a, b⟩
theorem i_ofL {e : Expr} {c : Sm} (hL : ∀ ρ dv, c ρ = some dv → ∃ ds, dv = .d (.list ds)) (h : PE X e (tIL X.K C c)) : PE X e (tI X.K C c) := PE.imp h fun σ H Q ⟨F, ρ, dv, ex, rp, h, q⟩ => by
  obtain ⟨ds, rfl⟩ := hL _ _ h
  refine ⟨F, ρ, ds, ex, rp, h, fun p xs H1 F1 f1 h1 h2 h3 t => ?_⟩
  obtain ⟨a, b⟩ := freeze (C := C) f1 h1 h2 h3 t
  exact q _ H1 _ a b
theorem lc_go {c : En → Option (List PyData)} {js vs : List Nat} {spl : PyData → Option (List PyData)} {b : SmB} {e : Sm} (hjs : ∀ j ∈ js, j ∈ vs) {σ : St} {H : Hp} {Q : VK} (h : tIL X.K C (cLc c js spl vs b e) σ H Q) : tLc (tJ X.K C c) (tG X.K js spl) (tT X.K C b) (tI X.K C e) vs σ H Q := by
  obtain ⟨F, ρ, ys, ex, rp, h, q⟩ := h
  obtain ⟨ds, ys2, hc, hl, hgo, e2⟩ := cLc_some h
  cases e2
  refine ⟨F, ρ, ds, ex, rp, hc, fun J H1 F1 f1 R1 D hD => ?_⟩
  have hD0 : H D = none := fresh_back (f1.ex ex) hD
  have rp1 := (rp.mono f1).wipe vs
  refine ⟨fun i m H2 => ∃ F2 dn rest acc, Fr F1 H1 F2 H2 ∧ F2 D = none ∧ H2 D = some (.lst acc) ∧ DrAll X.K F2 acc dn ∧ lcGo js spl b e (wipeD ρ vs) (ds.drop i) = some rest ∧ dn ++ rest = ys ∧ acc.length ≤ i ∧ i ≤ ds.length ∧ m = ds.length - i,
    ⟨_, F1, [], ys, [], Fr.out _ f1.b hD, fresh_back f1.b hD, upd_same, .nil, hgo, rfl, Nat.le_refl _, Nat.zero_le _, rfl⟩, ?_⟩
  rintro i m H2 ⟨F2, dn, rest, acc, f2, g1, g2, t2, hg, hy, hal, hle, rfl⟩
  by_cases hlt : i < ds.length
  · have hd : ds[i]? = some ds[i] := by simp [hlt]
    obtain ⟨w1, w2⟩ := R1.go i _ F2 H2 hd f2.a f2.b
    rw [drop_get hd, lcGo] at hg
    refine .inr ⟨w1, fun H3 => ∃ F3 dn rest acc, Fr F1 H1 F3 H3 ∧ F3 D = none ∧ H3 D = some (.lst acc) ∧ DrAll X.K F3 acc dn ∧ lcGo js spl b e (wipeD ρ vs) (ds.drop (i + 1)) = some rest ∧ dn ++ rest = ys ∧ acc.length ≤ i + 1,
      fun H3 ⟨F3, a1, a2, a3, a4, a5, a6, a7, a8, a9, a10⟩ => ⟨ds.length - (i + 1), by omega, F3, a1, a2, a3, a4, a5, a6, a7, a8, a9, a10, hlt, rfl⟩, fun x H3 y => ?_⟩
    obtain ⟨F3, f3, rx⟩ := w2 x H3 y
    obtain ⟨g3, g4⟩ := f3.c _ _ g1 g2
    have f13 := f2.tr f3
    split at hg
    · rename_i es hes
      split at hg
      · rename_i hel
        refine ⟨F3, _, es, f3.b, rx, hes, hel, fun ws tw => ⟨wipe_setAll hjs, ?_⟩⟩
        have rp3 : Rp X.K C F3 H3 (setAll (wipeD ρ vs) js (es.map Dv.d)) (setAll (wipe σ vs) js ws) := (rp1.mono f13).setAll tw
        split at hg
        · rename_i hb
          split at hg
          · rename_i y0 hy0
            split at hg
            · rename_i r1 hr1
              cases hg
              refine ⟨F3, _, true, f3.b, rp3, hb, fun H4 F4 f4 => ⟨F4, _, .d y0, f4.b, rp3.mono f4, hy0, fun v H5 F5 f5 r5 => ?_⟩⟩
              have f35 := f4.tr f5
              obtain ⟨g5, g6⟩ := f35.c _ _ g3 g4
              have f15 := f13.tr f35
              refine ⟨acc, g6, line100' (by omega), F5, dn ++ [y0], r1, acc ++ [v], ⟨f15.a, fun q o z => ?_, fun q o z z2 => ?_⟩, g5, upd_same, ((t2.mono f3.a).mono f35.a).app (.cons r5 .nil), hr1, by rw [List.append_assoc]; exact hy, by simp; omega⟩
              · rw [upd_ne (ne_of_none z g5)]; exact f15.b q o z
              · obtain ⟨a, b⟩ := f15.c q o z z2
                have w : q ≠ D := fun w => by rw [w, hD] at z2; cases z2
                exact ⟨a, by rw [upd_ne w]; exact b⟩
            · cases hg
          · cases hg
        · rename_i hb
          refine ⟨F3, _, false, f3.b, rp3, hb, fun H4 F4 f4 => ?_⟩
          obtain ⟨g5, g6⟩ := f4.c _ _ g3 g4
          exact ⟨F4, dn, rest, acc, f13.tr f4, g5, g6, (t2.mono f3.a).mono f4.a, hg, hy, by omega⟩
        · cases hg
      · cases hg
    · cases hg
  · have e : i = ds.length := by omega
    subst e
    rw [List.drop_length, lcGo] at hg
    cases hg
    rw [List.append_nil] at hy
    subst hy
    exact .inl ⟨R1.stop F2 H2 f2.a f2.b, q D acc H2 F2 (f1.tr f2) g1 hD0 g2 t2⟩
/-- [e for tg in iter if b], a list -/
theorem i_lcL {elt : Expr} {ifs : List Expr} {scope : Scope} {own : List (Str × Nat)} {c : En → Option (List PyData)} {js : List Nat} {spl : PyData → Option (List PyData)} {b : SmB} {e : Sm} (hw : Wm X) (hN : X.N.Nodup) (hi : PIW X tg iter (tJ X.K C c)) (ok : BlkOk X.N X.env.scope scope own)
    (hg : ∀ (pn : List (Addr × Obj)) (s : Shared) (H : Hp) (A : Addr) (cl : List (Str × Addr)) (fp : List Addr), Wm (blkW X pn s H scope (compEnvC scope cl A X.env) fp) → PG (blkW X pn s H scope (compEnvC scope cl A X.env) fp) tg (tG X.K js spl))
    (ht : ∀ (pn : List (Addr × Obj)) (s : Shared) (H : Hp) (A : Addr) (cl : List (Str × Addr)) (fp : List Addr), Wm (blkW X pn s H scope (compEnvC scope cl A X.env) fp) → PTs (blkW X pn s H scope (compEnvC scope cl A X.env) fp) ifs (tT X.K C b))
    (he : ∀ (pn : List (Addr × Obj)) (s : Shared) (H : Hp) (A : Addr) (cl : List (Str × Addr)) (fp : List Addr), Wm (blkW X pn s H scope (compEnvC scope cl A X.env) fp) → PE (blkW X pn s H scope (compEnvC scope cl A X.env) fp) elt (tI X.K C e))
    (hjs : ∀ j ∈ js, j ∈ own.map (·.2) := by decide) (hs : ∀ x, foldedSetIterable iter X.env x = pure x := by intro _; rfl) : PE X (.ListComp elt [⟨tg, iter, ifs, 0⟩] scope pos) (tIL X.K C (cLc c js spl (own.map (·.2)) b e)) := by
  exact PE.imp (pe_lcW hw hN hi ok hg ht he hs) fun σ H Q h => lc_go hjs h
theorem it_yes : PTs X [] (tT X.K C fun _ => some true) := ⟨fun pp s σ H Q J ⟨F, ρ, k, e, rp, h, q⟩ => pts_nil.run pp s σ H Q J (by cases h; exact q H F (Fr.rfl' e))⟩
theorem it_one {c : Expr} {b : SmB} (h : PT X c (tT X.K C b)) : PTs X [c] (tT X.K C b) := pts_one h
theorem cLc_list {c : En → Option (List PyData)} {js : List Nat} {spl : PyData → Option (List PyData)} {vs : List Nat} {b : SmB} {e : Sm} : ∀ ρ dv, cLc c js spl vs b e ρ = some dv → ∃ ds, dv = .d (.list ds) := fun ρ dv h => by
  obtain ⟨_, ys, _, _, _, e⟩ := cLc_some h
  exact ⟨ys, e⟩
/-! ### new lists -/
def cCatL (a b : Sm) : Sm := cBin gAdd a b
theorem gAdd_list {a b d : Dv} (h : gAdd a b = some d) : ∀ ds, d = .d (.list ds) → ∃ xs ys, a = .d (.list xs) ∧ b = .d (.list ys) ∧ ds = xs ++ ys ∧ xs.length + ys.length ≤ 100000 := fun ds e => by
  subst e
  unfold gAdd at h
  split at h
  · cases h
  · split at h
    · rename_i hl; cases h; exact ⟨_, _, rfl, rfl, rfl, hl⟩
    · cases h
  · split at h <;> cases h
  · cases h
theorem i_catL {a b : Expr} {c1 c2 : Sm} (ha : PE X a (tI X.K C c1)) (hb : PE X b (tI X.K C c2)) : PE X (.BinOp a .Add b pos) (tIL X.K C (cBin gAdd c1 c2)) :=
  PE.imp (pe_op op_cat ha hb) fun σ H Q ⟨F, ρ, ds, e, rp, h, q⟩ => by
    unfold cBin at h
    cases h1 : c1 ρ with
    | none => rw [h1] at h; cases h
    | some d1 =>
      cases h2 : c2 ρ with
      | none => rw [h1, h2] at h; cases h
      | some d2 =>
        rw [h1, h2] at h
        obtain ⟨xs, ys, rfl, rfl, rfl, hl⟩ := gAdd_list h _ rfl
        refine ⟨F, ρ, _, e, rp, h1, fun x H1 F1 f1 r1 => ⟨F1, ρ, _, f1.b, rp.mono f1, h2, fun y H2 F2 f2 r2 => ?_⟩⟩
        cases (show Dr X.K F1 x (.list xs) from r1) with
        | lst g1 t1 =>
          cases (show Dr X.K F2 y (.list ys) from r2) with
          | lst g2 t2 =>
            refine ⟨_, _, _, _, rfl, rfl, f2.b _ _ (f2.a _ _ g1), f2.b _ _ g2, line100 (by rw [t1.length, t2.length]; exact hl), fun p hp => ?_⟩
            exact q p _ _ F2 ((f1.tr f2).tr (Fr.out _ f2.b hp)) (fresh_back f2.b hp) (fresh_back ((f1.tr f2).ex e) hp) upd_same ((t1.mono f2.a).app t2)
theorem gList_some {es : List Dv} {ds : List PyData} (h : gList es = some (.d (.list ds))) : es = [.d (.list ds)] ∨ es = [.d (.tuple ds)] := by
  unfold gList at h
  split at h
  · cases h; exact .inl rfl
  · cases h; exact .inr rfl
  · cases h
theorem i_listOfL {e : Expr} {cs : SmA} {p : Pos} (hg : Gl X "list") (hm : X.mg "list" = none) (hv : bootBuiltins "list" = some (.type "list")) (ha : PA X [e] (tA X.K C cs))
    (he : starEach [e] X.env = (false, eval e X.env) :: starEach [] X.env := by rfl) (hpl : (backTo pos (starEach [] X.env)).any (·.1) = false := by rfl) : PE X (.Call (.Name "list" p) [e] [] pos) (tIL X.K C (cApp gList cs)) :=
  PE.imp (pe_callTy call_list_of hg hm hv ha (by decide) (by decide) he hpl) fun σ H Q ⟨F, ρ, ds, ex, rp, h, q⟩ => by
    unfold cApp at h
    cases h1 : cs ρ with
    | none => rw [h1] at h; cases h
    | some es =>
      rw [h1] at h
      refine ⟨F, ρ, es, ex, rp, h1, fun vs H1 F1 f1 r1 => ?_⟩
      have fin : ∀ {xs ys}, DrAll X.K F1 xs ys → ys = ds → ∀ l, H1 l = none → Q (.ref l) (upd H1 l (.lst xs)) := fun {xs ys} t z l hl => by
        subst z
        exact q l _ _ F1 (f1.tr (Fr.out _ f1.b hl)) (fresh_back f1.b hl) (fresh_back (f1.ex ex) hl) upd_same t
      rcases gList_some h with rfl | rfl
      · obtain ⟨v, rfl, a⟩ := rda1 r1
        cases (show Dr X.K F1 v (.list ds) from a) with
        | lst g1 t1 => exact ⟨_, _, rfl, .inl (SqL.of (f1.b _ _ g1)), fin t1 rfl⟩
      · obtain ⟨v, rfl, a⟩ := rda1 r1
        cases (show Dr X.K F1 v (.tuple ds) from a) with
        | tup g1 t1 => exact ⟨_, _, rfl, .inr (ex_t f1.b g1), fin t1 rfl⟩
theorem is_retL {e : Expr} {c : Sm} (he : PE X e (tIL X.K C c)) : PS X (.Return (some e) pos) (tIs X.K C (RetL X.K C) (sRet c)) := PS.imp (ps_ret he) fun D σ H ⟨F0, H0, F, ρ, r, rq, h, k⟩ => by
  unfold sRet at h
  cases h1 : c ρ with
  | none => rw [h1] at h; cases h
  | some dv =>
    rw [h1] at h
    cases h
    obtain ⟨ds, k1, k⟩ := k
    subst k1
    refine ⟨F, ρ, ds, rq.fr.b, rq.rp, h1, fun p xs H1 F1 f1 g1 g2 g3 t => k p xs H1 F1 (rq.fr.tr f1) g1 ?_ g3 t⟩
    cases z : H0 p with
    | none => rfl
    | some o =>
      exfalso
      cases zf : F0 p with
      | none => have w := (rq.fr.c p o zf z).2; rw [g2] at w; cases w
      | some u => have w := rq.fr.b p u (rq.fr.a p u zf); rw [g2] at w; cases w
/-- a new list of the body's own -/
def sOwn (i : Nat) (cs : SmA) : SmS := fun ρ => match cs ρ with
  | some ds => (match allD ds with | some ys => if ys.length ≤ 100000 ∧ (ρ.all fun o => match o with | some d => !isOwn d | none => true) = true then some (.inl (ρ.set i (some (.own ys)))) else none | none => none)
  | none => none
theorem noOwn {ρ : En} (h : (ρ.all fun o => match o with | some d => !isOwn d | none => true) = true) {j : Nat} {a : Dv} (z : ρ[j]? = some (some a)) : isOwn a = false := by
  have w := List.all_eq_true.mp h _ (List.mem_of_getElem? z)
  simpa using w
theorem Rq.setOwn {K : PySem.W.Frag} {C : Cs K} {F0 H0 F H : Hp} {ρ : En} {σ : St} {i : Nat} {p : Addr} {xs : List V} {ys : List PyData} (r : Rq K C F0 H0 F H ρ σ) (hn : (ρ.all fun o => match o with | some d => !isOwn d | none => true) = true) (h1 : F p = none) (h2 : H p = some (.lst xs)) (h0 : H0 p = none) (t : DrAll K F xs ys) :
    Rq K C F0 H0 F H (ρ.set i (some (.own ys))) (σ.set i (some (.ref p))) := by
  have at_i : ∀ {j : Nat} {a : Dv}, (ρ.set i (some (.own ys)))[j]? = some (some a) → isOwn a = true → j = i := fun {j a} z o => by
    rcases get_set z with ⟨e, _⟩ | ⟨_, e⟩
    · exact e
    · rw [noOwn hn e] at o; cases o
  refine ⟨r.fr, r.rp.set (dv := .own ys) ⟨p, xs, rfl, h1, h2, t⟩, fun j a q z o s => ?_, fun j k a b z o z2 o2 => (at_i z o).trans (at_i z2 o2).symm⟩
  have e := at_i z o
  subst e
  have hl : j < σ.length := by
    have w := (List.getElem?_eq_some_iff.mp z).1
    rw [List.length_set, r.rp.len] at w; exact w
  rw [List.getElem?_set_self hl] at s
  cases s
  exact h0
theorem is_own {R : RT} {i : Nat} {x : Str} {pos' p2 : Pos} {es : List Expr} {cs : SmA} (hN : X.N.Nodup) (hi : X.N[i]? = some x) (hx : Loc X.env.scope x) (he : PA X es (tA X.K C cs)) (hs : swapsWith (.List es p2) (some (.Name x pos')) pos.line X.env = pure false := by rfl) (hf : X.fn x = true ∨ X.env.scope.names.lookup x = some .local := by first | exact .inl rfl | exact .inr rfl | assumption) :
    PS X (.Assign [.Name x pos'] (.List es p2) pos) (tIs X.K C R (sOwn i cs)) := PS.imp (ps_set hN hi hx (pe_lst he) hs hf) fun D σ H ⟨F0, H0, F, ρ, r, rq, h, k⟩ => by
  unfold sOwn at h
  split at h
  · rename_i ds hd
    split at h
    · rename_i ys hy
      split at h
      · rename_i hl
        cases h
        refine ⟨F, ρ, ds, rq.fr.b, rq.rp, hd, fun vs H1 F1 f1 r1 => ?_⟩
        have t := allD_dr r1 hy
        refine ⟨line100 (by rw [t.length]; exact hl.1), fun p hp => k _ _ F1 ?_ f1.a⟩
        have r2 := (rq.step f1).step (Fr.out (.lst vs) f1.b hp)
        have h0 : H0 p = none := by
          cases z : H0 p with
          | none => rfl
          | some o =>
            exfalso
            have f2 := rq.fr.tr f1
            cases zf : F0 p with
            | none => have w := (f2.c p o zf z).2; rw [hp] at w; cases w
            | some u => have w := f2.b p u (f2.a p u zf); rw [hp] at w; cases w
        exact r2.setOwn hl.2 (fresh_back f1.b hp) upd_same h0 t
      · cases h
    · cases h
  · cases h
/-- x, y = [], e: the first the body's own list -/
def sParOwn (i j : Nat) (c : Sm) : SmS := fun ρ => match c ρ with
  | some d => if (ρ.all fun o => match o with | some d => !isOwn d | none => true) = true ∧ isOwn d = false ∧ i ≠ j then some (.inl ((ρ.set i (some (.own []))).set j (some d))) else none
  | none => none
theorem is_parOwn {R : RT} {i j : Nat} {x y : Str} {b : Expr} {c : Sm} {px py pt p2 : Pos} {kt k2 pt2} (hw : Wm X) (hN : X.N.Nodup) (hi : X.N[i]? = some x) (hj : X.N[j]? = some y) (hx : X.env.scope.names.lookup x = some .local) (hy : X.env.scope.names.lookup y = some .local) (hb : PE X b (tI X.K C c))
    (hij : i ≠ j := by decide) (hsw : swappedStores [.Tuple [.Name x px, .Name y py] kt pt] (.Tuple [.List [] p2, b] k2 pt2) X.env = pure (some [x, y]) := by with_unfolding_all rfl)
    (hs : swapsWithSole [.Tuple [.Name x px, .Name y py] kt pt] (.Tuple [.List [] p2, b] k2 pt2) pos.line X.env = pure false := by rfl) (n1 : starEach [.List [] p2, b] X.env = (false, eval (.List [] p2) X.env) :: starEach [b] X.env := by rfl) (n2 : starEach [b] X.env = (false, eval b X.env) :: starEach [] X.env := by rfl) :
    PS X (.Assign [.Tuple [.Name x px, .Name y py] kt pt] (.Tuple [.List [] p2, b] k2 pt2) pos) (tIs X.K C R (sParOwn i j c)) := PS.imp (ps_parW hw hN hi hj hij hx hy (pa_cons (pe_lst pa_nil) (pa_cons hb pa_nil n2) n1) hsw hs) fun D σ H ⟨F0, H0, F, ρ, r, rq, h, k⟩ => by
  unfold sParOwn at h
  split at h
  · rename_i d hd
    split at h
    · rename_i hl
      cases h
      refine ⟨Nat.zero_le _, fun p hp => ?_⟩
      have f1 : Fr F H F (upd H p (.lst [])) := Fr.out _ rq.fr.b hp
      have r1 := rq.step f1
      have h0 : H0 p = none := by
        cases z : H0 p with
        | none => rfl
        | some o =>
          exfalso
          cases zf : F0 p with
          | none => have w := (rq.fr.c p o zf z).2; rw [hp] at w; cases w
          | some u => have w := rq.fr.b p u (rq.fr.a p u zf); rw [hp] at w; cases w
      refine ⟨F, ρ, d, r1.fr.b, r1.rp, hd, fun v H2 F2 f2 r2 => ⟨.ref p, v, rfl, k _ H2 F2 ?_ f2.a⟩⟩
      obtain ⟨g1, g2⟩ := f2.c p _ (fresh_back rq.fr.b hp) upd_same
      exact ((r1.step f2).setOwn hl.1 g1 g2 h0 .nil).set r2
    · cases h
  · cases h
/-- x.append(e) of the body's own list x -/
def sApp (i : Nat) (c : Sm) : SmS := fun ρ => match ρ[i]? with
  | some (some (.own ds)) => (match c ρ with | some (.d x) => if ds.length < 100000 then some (.inl (ρ.set i (some (.own (ds ++ [x]))))) else none | _ => none)
  | _ => none
theorem is_app {R : RT} {i : Nat} {x : Str} {e : Expr} {c : Sm} {px apos cpos : Pos} (hN : X.N[i]? = some x) (hv : Vis X.env.scope x) (he : PE X e (tI X.K C c)) (hd : (x == ("__debug__" : Str)) = false := by decide) (hcd : (x == ("__classdict__" : Str)) = false := by decide)
    (hbase : attributeBase (.Name x px) "append" X.env (eval (.Name x px) X.env) = eval (.Name x px) X.env := by rfl)
    (hfew : ((backTo cpos (starEach [e] X.env)).all (fun x => !x.1) && (backToKw cpos (keywordEach [] X.env)).all (fun x => x.1.isSome) && decide ([e].length + ([] : List Keyword).length + (if ([] : List Keyword).isEmpty then 0 else 1) < 30)) = true := by rfl)
    (hline : (apos.endLine == cpos.line) = true := by rfl) (hs : starEach [e] X.env = (false, eval e X.env) :: starEach [] X.env := by rfl) (hpl : (backTo cpos (starEach [] X.env)).any (·.1) = false := by rfl)
    (hsw : swapsWith (.Call (.Attribute (.Name x px) "append" apos) [e] [] cpos) none pos.line X.env = pure false := by rfl) :
    PS X (.Expr (.Call (.Attribute (.Name x px) "append" apos) [e] [] cpos) pos) (tIs X.K C R (sApp i c)) :=
  PS.imp (ps_expr (pe_bm PySem.F.plainAttrs_list PySem.F.slot_list_append PySem.F.type_list_append mt_append (pe_var hN hv hd hcd) (pa_cons he pa_nil hs) hbase hfew hline hs hpl) hsw) fun D σ H ⟨F0, H0, F, ρ, r, rq, h, k⟩ => by
    unfold sApp at h
    split at h
    · rename_i ds hi
      split at h
      · rename_i x0 hx0
        split at h
        · rename_i hl
          cases h
          obtain ⟨v, hv1, p, xs, rfl, g1, g2, t⟩ := rq.rp.at_ i _ hi
          have h0 := rq.own i _ p hi rfl hv1
          refine ⟨.ref p, hv1, .inl ⟨rfl, xs, SqL.of g2⟩, F, ρ, _, rq.fr.b, rq.rp, hx0, fun v H1 F1 f1 r1 => ?_⟩
          obtain ⟨g3, g4⟩ := f1.c p _ g1 g2
          refine ⟨p, xs, v, rfl, rfl, g4, line100' (by rw [t.length]; exact hl), k _ _ F1 ?_ f1.a⟩
          have r1' := rq.step f1
          refine ⟨⟨r1'.fr.a, fun q o z => by rw [upd_ne (ne_of_none z g3)]; exact r1'.fr.b q o z, fun q o z z2 => ?_⟩, ⟨by rw [List.length_set]; exact r1'.rp.len, fun j dv z => ?_⟩, fun j dv q z o s => ?_, fun j l a b z o z2 o2 => ?_⟩
          · obtain ⟨a, b⟩ := r1'.fr.c q o z z2
            have w : q ≠ p := fun w => by rw [w, h0] at z2; cases z2
            exact ⟨a, by rw [upd_ne w]; exact b⟩
          · rcases get_set z with ⟨rfl, e⟩ | ⟨ne, e⟩
            · cases e
              exact ⟨.ref p, hv1, p, xs ++ [v], rfl, g3, upd_same, (t.mono f1.a).app (.cons r1 .nil)⟩
            · obtain ⟨u, a, b⟩ := r1'.rp.at_ j dv e
              refine ⟨u, a, ?_⟩
              cases dv with
              | d y => exact b
              | whl y => exact b
              | tbl y y2 => exact b
              | own y => exact absurd (rq.one j i _ _ e rfl hi rfl) ne
              | odc y => exact absurd (rq.one j i _ _ e rfl hi rfl) ne
          · rcases get_set z with ⟨rfl, e⟩ | ⟨ne, e⟩
            · rw [hv1] at s; cases s; exact h0
            · exact rq.own j dv q e o s
          · have f : ∀ {j : Nat} {a : Dv}, (ρ.set i (some (.own (ds ++ [x0]))))[j]? = some (some a) → isOwn a = true → ∃ a', ρ[j]? = some (some a') ∧ isOwn a' = true := fun {j a} z o => by
              rcases get_set z with ⟨rfl, e⟩ | ⟨ne, e⟩
              · exact ⟨_, hi, rfl⟩
              · exact ⟨a, e, o⟩
            obtain ⟨a', za, oa⟩ := f z o
            obtain ⟨b', zb, ob⟩ := f z2 o2
            exact rq.one j l a' b' za oa zb ob
        · cases h
      · cases h
    · cases h
/-- the body's own list becomes a value -/
def sFrz (i : Nat) (c : SmS) : SmS := fun ρ => match ρ[i]? with
  | some (some (.own ds)) => c (ρ.set i (some (.d (.list ds))))
  | _ => none
theorem frz_go {R : RT} {i : Nat} {c : SmS} {D : Ends} {σ : St} {H : Hp} (h : tIs X.K C R (sFrz i c) D σ H) : tIs X.K C R c D σ H := by
  obtain ⟨F0, H0, F, ρ, r, rq, h, k⟩ := h
  unfold sFrz at h
  split at h
  · rename_i ds hi
    obtain ⟨v, hv1, p, xs, rfl, g1, g2, t⟩ := rq.rp.at_ i _ hi
    have h0 := rq.own i _ p hi rfl hv1
    have e1 : Ex F (upd F p (.lst xs)) := Ex.new g1
    have no : ∀ {j : Nat} {a : Dv}, (ρ.set i (some (.d (.list ds))))[j]? = some (some a) → isOwn a = false := fun {j a} z => by
      rcases get_set z with ⟨rfl, e⟩ | ⟨ne, e⟩
      · cases e; rfl
      · cases o : isOwn a with
        | false => rfl
        | true => exact absurd (rq.one j i _ _ e o hi rfl) ne
    refine ⟨F0, H0, upd F p (.lst xs), _, r, ⟨⟨rq.fr.a.trans e1, fun q o z => ?_, fun q o z z2 => ?_⟩, ⟨by rw [List.length_set]; exact rq.rp.len, fun j dv z => ?_⟩, fun j dv q z o s => (by rw [no z] at o; cases o), fun j l a b z o => (by rw [no z] at o; cases o)⟩, h, more e1 k⟩
    · by_cases w : q = p
      · subst w; rw [upd_same] at z; cases z; exact g2
      · rw [upd_ne w] at z; exact rq.fr.b q o z
    · obtain ⟨a, b⟩ := rq.fr.c q o z z2
      have w : q ≠ p := fun w => by rw [w, h0] at z2; cases z2
      exact ⟨by rw [upd_ne w]; exact a, b⟩
    · have na := no z
      rcases get_set z with ⟨rfl, e⟩ | ⟨ne, e⟩
      · cases e; exact ⟨.ref p, hv1, Dr.lst upd_same (t.mono e1)⟩
      · obtain ⟨u, a, b⟩ := rq.rp.at_ j dv e
        refine ⟨u, a, ?_⟩
        cases dv with
        | d y => exact Dr.mono e1 b
        | whl y => exact Rw.mono e1 b
        | tbl y y2 => exact Rt.mono e1 b
        | own y => cases na
        | odc y => cases na
  · cases h
theorem is_frz {R : RT} {i : Nat} {c : SmS} {st : Stmt} (h : PS X st (tIs X.K C R c)) : PS X st (tIs X.K C R (sFrz i c)) := PS.imp h fun _ _ _ h => frz_go h
theorem iss_frz {R : RT} {i : Nat} {c : SmS} {st : List Stmt} (h : PSs X st (tIs X.K C R c)) : PSs X st (tIs X.K C R (sFrz i c)) := PSs.imp h fun _ _ _ h => frz_go h
end
/-! ### whole defs -/
def runS (c : SmS) (n : Nat) (ds : List Dv) : Option Dv := match c (ds.map some ++ List.replicate (n - ds.length) none) with
  | some (.inr d) => some d
  | some (.inl _) => some (.d .none)
  | none => none
def runF (c : SmS) (a n : Nat) : List Dv → Option Dv := fun ds => if ds.length = a then runS c n ds else none
theorem rda_get {K : PySem.W.Frag} {C : Cs K} {F : Hp} : ∀ {vs : List V} {ds : List Dv} {i : Nat} {dv : Dv}, RdA K C F vs ds → ds[i]? = some dv → ∃ v, vs[i]? = some v ∧ Rd1 K C F v dv
  | _, _, _, _, .nil, h => by simp at h
  | _, _, 0, _, .cons a t, h => by simp at h; subst h; exact ⟨_, rfl, a⟩
  | _, _, i + 1, dv, .cons a t, h => by
    obtain ⟨v, x, y⟩ := rda_get (i := i) (dv := dv) t (by simpa using h)
    exact ⟨v, by simpa using x, y⟩
theorem start_rq {K : PySem.W.Frag} {C : Cs K} {F H : Hp} {N : List Str} {vs : List V} {ds : List Dv} (e : Ex F H) (r : RdA K C F vs ds) : Rq K C F H F H (ds.map some ++ List.replicate (N.length - ds.length) none) (L2.start N vs) := by
  have get : ∀ (i : Nat) (dv : Dv), (ds.map some ++ List.replicate (N.length - ds.length) none)[i]? = some (some dv) → ds[i]? = some dv := fun i dv h => by
    by_cases hi : i < ds.length
    · rw [List.getElem?_append_left (by simpa using hi), List.getElem?_map] at h
      cases z : ds[i]? with
      | none => rw [z] at h; cases h
      | some a => rw [z] at h; cases h; rfl
    · rw [List.getElem?_append_right (by simpa using hi), List.getElem?_replicate] at h
      split at h <;> cases h
  have no : ∀ (i : Nat) (dv : Dv), ds[i]? = some dv → ∃ v, vs[i]? = some v ∧ Rd1 K C F v dv := fun i dv h => rda_get r h
  refine ⟨Fr.rfl' e, ⟨?_, fun i dv h => ?_⟩, fun i dv p h o => ?_, fun i j a b h o => ?_⟩
  · unfold L2.start
    simp only [List.length_append, List.length_map, List.length_replicate]
    rw [r.len]
  · obtain ⟨v, x, y⟩ := no i dv (get i dv h)
    refine ⟨v, ?_, y.rv⟩
    unfold L2.start
    rw [List.getElem?_append_left (by rw [List.length_map]; exact (List.getElem?_eq_some_iff.mp x).1), List.getElem?_map, x]; rfl
  · obtain ⟨v, x, y⟩ := no i dv (get i dv h)
    rw [y.notOwn] at o; cases o
  · obtain ⟨v, x, y⟩ := no i a (get i a h)
    rw [y.notOwn] at o; cases o
theorem fn_I {P : Program} {w : World} {K : PySem.W.Frag} {mg : Str → Option Value} {base : Heap} {C : Cs K} {k : Nat} {f : Addr} {name qual : Str} {params : Arguments} {body : List Stmt} {scope : Scope} {dV kV doc pm cdv ct oc : Value} {an od : Option Addr}
    {osl : Array (Option Value)} {N ps : List Str} {c : SmS} (lk : K.lookup f = some ⟨oc, od, .func (PySem.W.fnOf name qual params body scope dV kV doc pm an cdv ct), osl⟩) (hcd : PySem.W.codeIn K cdv qual = true) (S : FnScope N ps scope)
    (hb : ∀ (cm : Bool) (pn : List (Addr × Obj)) (A : Around) (outer : List Env) (s : Shared) (H : Hp) (E : XK), Wm (cxG cm pn C8.CX0 P w K mg base N qual scope f cdv A outer s H E).nox → RoomH k (A.deeper (envOfC qual scope s.heap.objs.size f cdv)) →
      PSs (cxG cm pn C8.CX0 P w K mg base N qual scope f cdv A outer s H E).nox body (tIs K C (RetD K C) c)) :
    FnW P w K mg base C8.CX0 (k + 1) f (PySem.W.fnOf name qual params body scope dV kV doc pm an cdv ct) ps (spD K C (runF c ps.length N.length)) := by
  refine fn_ofW lk hcd S (fun vs H Q E ⟨F, ds, d, e, r, h, q⟩ => ?_) fun cm pn A outer s H vs Q E hw hr ⟨F, ds, d, e, r, h, q⟩ => ⟨_, PSs.nox (hb cm pn A outer s H E hw hr), ?_⟩
  · unfold runF at h
    split at h
    · rename_i hl; rw [r.len, hl]
    · cases h
  · unfold runF at h
    split at h
    · unfold runS at h
      split at h
      · rename_i d1 hd
        cases h
        exact ⟨F, H, F, _, .inr d, start_rq e r, hd, fun v H1 F1 f1 r1 => q v H1 F1 f1 r1⟩
      · rename_i ρ1 hd
        cases h
        exact ⟨F, H, F, _, .inl ρ1, start_rq e r, hd, fun σ1 H1 F1 rq _ => q .non H1 F1 rq.fr Dr.non⟩
      · cases h
    · cases h
/-- a def that gives a new list -/
def spL (K : PySem.W.Frag) (C : Cs K) (f : List Dv → Option Dv) : Sp := fun vs H Q _ => ∃ F ds ys, Ex F H ∧ RdA K C F vs ds ∧ f ds = some (.d (.list ys)) ∧ ∀ p xs H' F', Fr F H F' H' → F' p = none → H p = none → H' p = some (.lst xs) → DrAll K F' xs ys → Q (.ref p) H'
theorem spL_D {K : PySem.W.Frag} {C : Cs K} {f : List Dv → Option Dv} (hL : ∀ ds d, f ds = some d → ∃ ys, d = .d (.list ys)) {vs : List V} {H : Hp} {Q : VK} {E : XK} (h : spD K C f vs H Q E) : spL K C f vs H Q E := by
  obtain ⟨F, ds, d, e, r, h, q⟩ := h
  obtain ⟨ys, rfl⟩ := hL _ _ h
  exact ⟨F, ds, ys, e, r, h, fun p xs H1 F1 f1 g1 g2 g3 t => let ⟨a, b⟩ := freeze (C := C) f1 g1 g2 g3 t; q _ H1 _ a b⟩
theorem fn_IL {P : Program} {w : World} {K : PySem.W.Frag} {mg : Str → Option Value} {base : Heap} {C : Cs K} {k : Nat} {f : Addr} {name qual : Str} {params : Arguments} {body : List Stmt} {scope : Scope} {dV kV doc pm cdv ct oc : Value} {an od : Option Addr}
    {osl : Array (Option Value)} {N ps : List Str} {c : SmS} (lk : K.lookup f = some ⟨oc, od, .func (PySem.W.fnOf name qual params body scope dV kV doc pm an cdv ct), osl⟩) (hcd : PySem.W.codeIn K cdv qual = true) (S : FnScope N ps scope)
    (hin : ∀ ρ ρ', c ρ ≠ some (.inl ρ'))
    (hb : ∀ (cm : Bool) (pn : List (Addr × Obj)) (A : Around) (outer : List Env) (s : Shared) (H : Hp) (E : XK), Wm (cxG cm pn C8.CX0 P w K mg base N qual scope f cdv A outer s H E).nox → RoomH k (A.deeper (envOfC qual scope s.heap.objs.size f cdv)) →
      PSs (cxG cm pn C8.CX0 P w K mg base N qual scope f cdv A outer s H E).nox body (tIs K C (RetL K C) c)) :
    FnW P w K mg base C8.CX0 (k + 1) f (PySem.W.fnOf name qual params body scope dV kV doc pm an cdv ct) ps (spL K C (runF c ps.length N.length)) := by
  refine fn_ofW lk hcd S (fun vs H Q E ⟨F, ds, d, e, r, h, q⟩ => ?_) fun cm pn A outer s H vs Q E hw hr ⟨F, ds, d, e, r, h, q⟩ => ⟨_, PSs.nox (hb cm pn A outer s H E hw hr), ?_⟩
  · unfold runF at h
    split at h
    · rename_i hl; rw [r.len, hl]
    · cases h
  · unfold runF at h
    split at h
    · unfold runS at h
      split at h
      · rename_i d1 hd
        cases h
        exact ⟨F, H, F, _, .inr _, start_rq e r, hd, d, rfl, fun p xs H1 F1 f1 g1 g2 g3 t => q p xs H1 F1 f1 g1 g2 g3 t⟩
      · rename_i ρ1 hd
        exact absurd hd (hin _ _)
      · cases h
    · cases h
end LNi
set_option maxHeartbeats 4000000
/-! Readings over plain data: dicts of the body's own, chains, comprehensions stored, lists thrown away. -/
namespace LNi
open PySem PySem.Spec PyProof.Rows L2 HotX L2H LNa LNb
open Evl (Ex Ex.refl Ex.trans Ex.new ex_t ex_l ex_rd fresh_back)
section
variable {X : Cx} {C : Cs X.K} {pos : Pos}
/-! ### a <= b <= c -/
def cChain (g1 g2 : Dv → Dv → Option Dv) (a b c : Sm) : Sm := fun ρ => match a ρ with
  | some x => (match b ρ with
    | some y => (match g1 x y with
      | some (.d (.bool true)) => (match c ρ with | some z => g2 y z | none => none)
      | some (.d (.bool false)) => some (.d (.bool false))
      | _ => none)
    | none => none)
  | none => none
theorem i_chain {op op' : CmpOp} {r r' : R2} {g g' : Dv → Dv → Option Dv} {a b c : Expr} {c1 c2 c3 : Sm} (ho : OpR X (compareOp op) r) (ho' : OpR X (compareOp op') r') (hr : GO X.K C r g) (hr' : GO X.K C r' g') (ha : PE X a (tI X.K C c1)) (hb : PE X b (tI X.K C c2)) (hc : PE X c (tI X.K C c3))
    (hm : lastMarks [op, op'] [b, c] = false := by with_unfolding_all rfl) : PE X (.Compare a [op, op'] [b, c] pos) (tI X.K C (cChain g g' c1 c2 c3)) :=
  PE.imp (pe_chain ho ho' ha hb hc hm) fun σ H Q ⟨F, ρ, dv, e, rp, h, q⟩ => by
    unfold cChain at h
    cases h1 : c1 ρ with
    | none => rw [h1] at h; cases h
    | some x =>
      cases h2 : c2 ρ with
      | none => rw [h1, h2] at h; cases h
      | some y =>
        rw [h1, h2] at h
        refine ⟨F, ρ, x, e, rp, h1, fun v H1 F1 f1 r1 => ⟨F1, ρ, y, f1.b, rp.mono f1, h2, fun u H2 F2 f2 r2 => ?_⟩⟩
        cases hg : g x y with
        | none => simp only [hg] at h; cases h
        | some d =>
          refine hr v u F2 H2 x y d f2.b (r1.mono f2.a) r2 hg _ fun z H3 F3 f3 r3 => ?_
          have f13 := (f1.tr f2).tr f3
          simp only [hg] at h
          split at h
          · rename_i hd
            cases hd
            cases (show Dr X.K F3 z (.bool true) from r3)
            refine ⟨true, rfl, ?_⟩
            rw [if_pos rfl]
            cases h3 : c3 ρ with
            | none => rw [h3] at h; cases h
            | some zz =>
              rw [h3] at h
              exact ⟨F3, ρ, zz, f3.b, rp.mono f13, h3, fun w' H4 F4 f4 r4 => hr' u w' F4 H4 y zz dv f4.b (r2.mono (f3.a.trans f4.a)) r4 h Q fun v5 H5 F5 f5 r5 => q v5 H5 F5 ((f13.tr f4).tr f5) r5⟩
          · rename_i hd
            cases hd
            cases (show Dr X.K F3 z (.bool false) from r3)
            cases h
            refine ⟨false, rfl, ?_⟩
            rw [if_neg (by decide)]
            exact q _ H3 F3 f13 (Dr.bl false)
          · cases h
/-! ### name = [..] -/
theorem is_setLc {R : RT} {i : Nat} {y : Str} {py : Pos} {elt tg iter : Expr} {ifs : List Expr} {scope : Scope} {own : List (Str × Nat)} {spos : Pos} {c : En → Option (List PyData)} {js : List Nat} {spl : PyData → Option (List PyData)} {b : SmB} {e : Sm} (hw : Wm X) (hN : X.N.Nodup) (hy : X.N[i]? = some y) (hyl : X.env.scope.names.lookup y = some .local)
    (hsw : swapsWith (.ListComp elt [⟨tg, iter, ifs, 0⟩] scope pos) (some (.Name y py)) spos.line X.env = pure true) (hi : PIW X tg iter (tJ X.K C c)) (ok : BlkOk X.N X.env.scope scope own)
    (hg : ∀ (pn : List (Addr × Obj)) (s : Shared) (H : Hp) (A : Addr) (cl : List (Str × Addr)) (fp : List Addr), Wm (blkW X pn s H scope (compEnvC scope cl A X.env) fp) → PG (blkW X pn s H scope (compEnvC scope cl A X.env) fp) tg (tG X.K js spl))
    (ht : ∀ (pn : List (Addr × Obj)) (s : Shared) (H : Hp) (A : Addr) (cl : List (Str × Addr)) (fp : List Addr), Wm (blkW X pn s H scope (compEnvC scope cl A X.env) fp) → PTs (blkW X pn s H scope (compEnvC scope cl A X.env) fp) ifs (tT X.K C b))
    (he : ∀ (pn : List (Addr × Obj)) (s : Shared) (H : Hp) (A : Addr) (cl : List (Str × Addr)) (fp : List Addr), Wm (blkW X pn s H scope (compEnvC scope cl A X.env) fp) → PE (blkW X pn s H scope (compEnvC scope cl A X.env) fp) elt (tI X.K C e))
    (hjs : ∀ j ∈ js, j ∈ own.map (·.2) := by decide) (hs : ∀ x, foldedSetIterable iter X.env x = pure x := by intro _; rfl) : PS X (.Assign [.Name y py] (.ListComp elt [⟨tg, iter, ifs, 0⟩] scope pos) spos) (tIs X.K C R (sSet i (cLc c js spl (own.map (·.2)) b e))) := by
  refine set_any (PS.imp (ps_setLcW hw hN hy hyl hsw hi ok hg ht he hs) fun D σ H h => ?_)
  have h : tI X.K C (cLc c js spl (own.map (·.2)) b e) σ H (fun x H1 => gName i x σ H1 D.nx) := h
  show tLc _ _ _ _ _ σ H (fun x H1 => gName i x σ H1 D.nx)
  refine lc_go (C := C) hjs ?_
  obtain ⟨F, ρ, dv, ex, rp, hc, q⟩ := h
  obtain ⟨ds, rfl⟩ := cLc_list _ _ hc
  exact ⟨F, ρ, ds, ex, rp, hc, fun p xs H1 F1 f1 h1 h2 h3 t => let ⟨a, b⟩ := freeze (C := C) f1 h1 h2 h3 t; q _ H1 _ a b⟩
/-! ### a new list thrown away: e.clear(), e.append('..') -/
def sThrow (c : Sm) : SmS := fun ρ => match c ρ with
  | some (.d (.list ds)) => if ds.length < 100000 then some (.inl ρ) else none
  | _ => none
theorem throw_fr {K : PySem.W.Frag} {F H F' H' : Hp} {p : Addr} {o : HO} (f : Fr F H F' H') (h1 : F' p = none) (h2 : H p = none) : Fr F H F' (upd H' p o) := by
  refine ⟨f.a, fun q u z => by rw [upd_ne (ne_of_none z h1)]; exact f.b q u z, fun q u z z2 => ?_⟩
  obtain ⟨a, b⟩ := f.c q u z z2
  have w : q ≠ p := fun w => by rw [w, h2] at z2; cases z2
  exact ⟨a, by rw [upd_ne w]; exact b⟩
theorem is_clear {R : RT} {o : Expr} {c : Sm} {apos cpos : Pos} (ho : PE X o (tIL X.K C c)) (hbase : attributeBase o "clear" X.env (eval o X.env) = eval o X.env := by rfl) (hline : (apos.endLine == cpos.line) = true := by rfl)
    (hsw : swapsWith (.Call (.Attribute o "clear" apos) [] [] cpos) none pos.line X.env = pure false := by rfl) : PS X (.Expr (.Call (.Attribute o "clear" apos) [] [] cpos) pos) (tIs X.K C R (sThrow c)) :=
  PS.imp (ps_expr (pe_bm0 PySem.F.plainAttrs_list PySem.F.slot_list_clear PySem.F.type_list_clear mt_clear ho hbase hline) hsw) fun D σ H ⟨F0, H0, F, ρ, r, rq, h, k⟩ => by
    unfold sThrow at h
    split at h
    · rename_i ds hd
      split at h
      · cases h
        refine ⟨F, ρ, ds, rq.fr.b, rq.rp, hd, fun p xs H1 F1 f1 g1 g2 g3 t => ⟨.inl ⟨rfl, xs, SqL.of g3⟩, p, xs, rfl, rfl, g3, ?_⟩⟩
        exact k _ _ F1 (rq.step (throw_fr (K := X.K) f1 g1 g2)) f1.a
      · cases h
    · cases h
theorem is_toss {R : RT} {o : Expr} {c : Sm} {x : Str} {j : Nat} {p2 apos cpos : Pos} (ho : PE X o (tIL X.K C c)) (hbase : attributeBase o "append" X.env (eval o X.env) = eval o X.env := by rfl)
    (hfew : ((backTo cpos (starEach [.Constant (.str x) j p2] X.env)).all (fun x => !x.1) && (backToKw cpos (keywordEach [] X.env)).all (fun x => x.1.isSome) && decide ([Expr.Constant (.str x) j p2].length + ([] : List Keyword).length + (if ([] : List Keyword).isEmpty then 0 else 1) < 30)) = true := by rfl)
    (hline : (apos.endLine == cpos.line) = true := by rfl) (hs : starEach [.Constant (.str x) j p2] X.env = (false, eval (.Constant (.str x) j p2) X.env) :: starEach [] X.env := by rfl) (hpl : (backTo cpos (starEach [] X.env)).any (·.1) = false := by rfl)
    (hsw : swapsWith (.Call (.Attribute o "append" apos) [.Constant (.str x) j p2] [] cpos) none pos.line X.env = pure false := by rfl) : PS X (.Expr (.Call (.Attribute o "append" apos) [.Constant (.str x) j p2] [] cpos) pos) (tIs X.K C R (sThrow c)) :=
  PS.imp (ps_expr (pe_bm PySem.F.plainAttrs_list PySem.F.slot_list_append PySem.F.type_list_append mt_append ho (pa_cons pe_str pa_nil hs) hbase hfew hline hs hpl) hsw) fun D σ H ⟨F0, H0, F, ρ, r, rq, h, k⟩ => by
    unfold sThrow at h
    split at h
    · rename_i ds hd
      split at h
      · rename_i hl
        cases h
        refine ⟨F, ρ, ds, rq.fr.b, rq.rp, hd, fun p xs H1 F1 f1 g1 g2 g3 t => ⟨.inl ⟨rfl, xs, SqL.of g3⟩, p, xs, .str x, rfl, rfl, g3, line100' (by rw [t.length]; exact hl), ?_⟩⟩
        exact k _ _ F1 (rq.step (throw_fr (K := X.K) f1 g1 g2)) f1.a
      · cases h
    · cases h
/-- a method, a property of the table that gives a new list -/
structure DmL (P : Program) (w : World) (K : PySem.W.Frag) (mg : Str → Option Value) (base : Heap) (C : Cs K) (x : Str) (k : Nat) (f : List Dv → Option Dv) : Prop where
  cl : Cls K C.ct
  nf : x ≠ "base" ∧ x ≠ "kept"
  ex : ∃ fa fd ps, Meth K C.ct x fa ∧ Binds K fd ps [] ∧ FnW P w K mg base C8.CX0 k fa fd ps (spL K C f)
structure DpL (P : Program) (w : World) (K : PySem.W.Frag) (mg : Str → Option Value) (base : Heap) (C : Cs K) (x : Str) (k : Nat) (f : List Dv → Option Dv) : Prop where
  cl : Cls K C.ct
  ex : ∃ p fa fd ps, PropOf K C.ct x p fa ∧ Binds K fd ps [] ∧ FnW P w K mg base C8.CX0 k fa fd ps (spL K C f)
structure DfL (P : Program) (w : World) (K : PySem.W.Frag) (mg : Str → Option Value) (base : Heap) (C : Cs K) (x : Str) (k : Nat) (f : List Dv → Option Dv) : Prop where
  ex : ∃ fa fd ps, mg x = some (.ref fa) ∧ PySem.W.keepIn K (.ref fa) = true ∧ Binds K fd ps [] ∧ FnW P w K mg base C8.CX0 k fa fd ps (spL K C f)
theorem self_go {f : List Dv → Option Dv} {c : Sm} {x : Str} (hx : x ≠ "base" ∧ x ≠ "kept") {σ : St} {H : Hp} {Q : VK} (h : tIL X.K C (cUn (gSelf f) c) σ H Q) : tI X.K C c σ H fun x1 H1 => ∃ a dx fs, x1 = .ref a ∧ H1 a = some (.ins C.ct dx fs) ∧ fs.lookup x = none ∧ spL X.K C f [x1] H1 Q fun _ _ _ => False := by
  obtain ⟨F, ρ, ds, e, rp, h, q⟩ := h
  unfold cUn at h
  cases h1 : c ρ with
  | none => rw [h1] at h; cases h
  | some d1 =>
    rw [h1] at h
    cases d1 with
    | tbl w kk =>
      refine ⟨F, ρ, _, e, rp, h1, fun x1 H1 F1 f1 r1 => ?_⟩
      obtain ⟨a, dx, b, k2, rfl, g1, _⟩ := id (show Rt X.K C F1 x1 w kk from r1)
      have back : ∀ {p : Addr}, H1 p = none → H p = none := fun z => fresh_back (f1.ex e) z
      exact ⟨a, dx, _, rfl, f1.b _ _ g1, look2 hx, F1, [.tbl w kk], ds, f1.b, .cons r1 .nil, h, fun p xs H2 F2 f2 a1 a2 a3 t => q p xs H2 F2 (f1.tr f2) a1 (back a2) a3 t⟩
    | _ => cases h
theorem i_meth0L {x : Str} {k j : Nat} {f : List Dv → Option Dv} {c : Sm} {e : Expr} {apos : Pos} {pl : Sem Bool} (D : DmL X.prog X.w X.K X.mg X.base C x k f) (hr : RoomH j X.A) (hw : Wm X) (ha : PE X e (tI X.K C c)) (hk : k ≤ j := by decide)
    (ht : eval (.Call (.Attribute e x apos) [] [] pos) X.env = (do
      let ov ← eval e X.env; standAt apos.atName; let (f, first) ← holding [ov] (getMethod ov x pl); callWith pos f first (backTo pos (starEach [] X.env)) (backToKw pos (keywordEach [] X.env))) := by rfl) :
    PE X (.Call (.Attribute e x apos) [] [] pos) (tIL X.K C (cUn (gSelf f) c)) := by
  obtain ⟨fa, fd, ps, h1, h3, F⟩ := D.ex
  exact PE.imp (pe_meth0W ha D.cl h1 F (hr.mono hk) hw h3 (C8.pass0 (E := fun _ _ _ => False)) ht) fun σ H Q h => self_go D.nf h
theorem i_propL {x : Str} {k j : Nat} {f : List Dv → Option Dv} {c : Sm} {e : Expr} (D : DpL X.prog X.w X.K X.mg X.base C x k f) (hr : RoomH j X.A) (hw : Wm X) (ha : PE X e (tI X.K C c)) (hk : k + 1 ≤ j := by decide) (hb : attributeBase e x X.env (eval e X.env) = eval e X.env := by rfl) : PE X (.Attribute e x pos) (tIL X.K C (cUn (gSelf f) c)) := by
  obtain ⟨p, fa, fd, ps, h1, h3, F⟩ := D.ex
  refine PE.imp (pe_propW ha D.cl h1 F (hr.mono hk) hw h3 (C8.pass0 (E := fun _ _ _ => False)) hb) fun σ H Q h => ?_
  have z := self_go (x := "x") ⟨by decide, by decide⟩ h
  obtain ⟨F1, ρ, dv, e1, rp, hc, q⟩ := z
  exact ⟨F1, ρ, dv, e1, rp, hc, fun v H1 F2 f r => let ⟨a, dx, fs, ea, g, _, s⟩ := q v H1 F2 f r; ⟨a, dx, fs, ea, g, by rw [← ea]; exact s⟩⟩
theorem i_callL {x : Str} {k j : Nat} {f : List Dv → Option Dv} {cs : SmA} {e : Expr} {es : List Expr} {p : Pos} (D : DfL X.prog X.w X.K X.mg X.base C x k f) (hr : RoomH j X.A) (hw : Wm X) (hg : Gl X x) (ha : PA X (e :: es) (tA X.K C cs)) (hk : k ≤ j := by decide) (hdb : (x == ("__debug__" : Str)) = false := by decide)
    (he : starEach (e :: es) X.env = (false, eval e X.env) :: starEach es X.env := by rfl) (hpl : (backTo pos (starEach es X.env)).any (·.1) = false := by rfl) : PE X (.Call (.Name x p) (e :: es) [] pos) (tIL X.K C (cApp f cs)) := by
  obtain ⟨fa, fd, ps, h1, h2, h3, F⟩ := D.ex
  refine PE.imp (pe_callW F (hr.mono hk) hw hg h1 h2 h3 (C8.pass0 (E := fun _ _ _ => False)) ha hdb he hpl) fun σ H Q ⟨F1, ρ, ds, ex, rp, h, q⟩ => ?_
  unfold cApp at h
  cases h1 : cs ρ with
  | none => rw [h1] at h; cases h
  | some vs =>
    rw [h1] at h
    exact ⟨F1, ρ, vs, ex, rp, h1, fun us H1 F2 f1 r1 => ⟨F2, vs, ds, f1.b, r1, h, fun p xs H2 F3 f2 a1 a2 a3 t => q p xs H2 F3 (f1.tr f2) a1 (fresh_back (f1.ex ex) a2) a3 t⟩⟩
end
/-- where it is a list -/
def lst (f : List Dv → Option Dv) : List Dv → Option Dv := fun ds => match f ds with
  | some (.d (.list l)) => some (.d (.list l))
  | _ => none
theorem spL_lst {K : PySem.W.Frag} {C : Cs K} {f : List Dv → Option Dv} {vs : List V} {H : Hp} {Q : VK} {E : XK} (h : spD K C (lst f) vs H Q E) : spL K C f vs H Q E := by
  obtain ⟨F, ds, d, e, r, h, q⟩ := h
  unfold lst at h
  split at h
  · rename_i l hl
    cases h
    exact ⟨F, ds, l, e, r, hl, fun p xs H1 F1 f1 g1 g2 g3 t => let ⟨a, b⟩ := freeze (C := C) f1 g1 g2 g3 t; q _ H1 _ a b⟩
  · cases h
section
variable {P : Program} {w : World} {K : PySem.W.Frag} {mg : Str → Option Value} {base : Heap} {C : Cs K} {x : Str} {k : Nat} {f : List Dv → Option Dv}
theorem DmL.d (D : DmL P w K mg base C x k f) : Dmt P w K mg base C x k (lst f) := let ⟨fa, fd, ps, a, b, F⟩ := D.ex; ⟨D.cl, D.nf, fa, fd, ps, a, b, F.imp fun vs H Q E h => spL_lst h⟩
theorem DpL.d (D : DpL P w K mg base C x k f) : Dpr P w K mg base C x k (lst f) := let ⟨p, fa, fd, ps, a, b, F⟩ := D.ex; ⟨D.cl, p, fa, fd, ps, a, b, F.imp fun vs H Q E h => spL_lst h⟩
theorem DfL.d (D : DfL P w K mg base C x k f) : Dfn P w K mg base C x k (lst f) := let ⟨fa, fd, ps, a, a2, b, F⟩ := D.ex; ⟨fa, fd, ps, a, a2, b, F.imp fun vs H Q E h => spL_lst h⟩
end
end LNi
set_option maxHeartbeats 4000000
/-! Readings over plain data: a dict of texts to bools of the body's own; dict(pairs)[key]. -/
namespace LNi
open PySem PySem.Spec PyProof.Rows L2 HotX L2H LNa LNb
open Evl (Ex Ex.refl Ex.trans Ex.new ex_t ex_l ex_rd fresh_back)
def kvB (kvs : List (Str × Bool)) : List (Key × V) := kvs.map fun q => (Sum.inr q.1, V.bl q.2)
theorem any_new : ∀ {kvs : List (Str × V)} {k : Str}, k ∉ kvs.map (·.1) → ((kvs.map fun q => ((Sum.inr q.1 : Key), q.2)).any fun kv => decide (kv.1 = Sum.inr k)) = false
  | [], _, _ => rfl
  | p :: r, k, h => by
    rw [List.map_cons, List.any_cons, any_new (fun z => h (List.mem_cons_of_mem _ z)), Bool.or_false]
    refine decide_eq_false fun z => h ?_
    have e : p.1 = k := Sum.inr.inj z
    rw [← e]; exact List.mem_cons_self ..
theorem put_new {kvs : List (Str × V)} {k : Str} {v : V} (h : k ∉ kvs.map (·.1)) : putK (kvs.map fun q => ((Sum.inr q.1 : Key), q.2)) (Sum.inr k) v = (kvs ++ [(k, v)]).map fun q => ((Sum.inr q.1 : Key), q.2) := by
  unfold putK
  rw [any_new h, if_neg (by decide), List.map_append]; rfl
theorem merge_new : ∀ {more kvs : List (Str × V)}, ((kvs ++ more).map (·.1)).Nodup → mergeK (kvs.map fun q => ((Sum.inr q.1 : Key), q.2)) (more.map fun q => ((Sum.inr q.1 : Key), q.2)) = (kvs ++ more).map fun q => ((Sum.inr q.1 : Key), q.2)
  | [], kvs, _ => by rw [List.append_nil]; rfl
  | p :: r, kvs, h => by
    have hp : p.1 ∉ kvs.map (·.1) := fun z => by
      rw [List.map_append, List.nodup_append] at h
      exact h.2.2 p.1 z p.1 (by simp) rfl
    show mergeK (putK (kvs.map fun q => ((Sum.inr q.1 : Key), q.2)) (Sum.inr p.1) p.2) (r.map fun q => ((Sum.inr q.1 : Key), q.2)) = _
    rw [put_new hp, merge_new (kvs := kvs ++ [(p.1, p.2)]) (by simpa using h)]
    simp
theorem val_look : ∀ {kvs : List (Str × V)} {k : Str}, valV (kvs.map fun q => ((Sum.inr q.1 : Key), q.2)) (Sum.inr k) = kvs.lookup k
  | [], _ => rfl
  | p :: r, k => by
    by_cases e : p.1 = k
    · rw [List.map_cons, valV_pos (by rw [e])]
      subst e
      simp [List.lookup]
    · rw [List.map_cons, valV_neg (fun z => e (Sum.inr.inj z)), val_look]
      have hb : (k == p.1) = false := beq_eq_false_iff_ne.mpr (Ne.symm e)
      simp [List.lookup, hb]
theorem kvB_eq (kvs : List (Str × Bool)) : kvB kvs = (kvs.map fun q => (q.1, V.bl q.2)).map fun q => ((Sum.inr q.1 : Key), q.2) := by
  unfold kvB; rw [List.map_map]; rfl
theorem look_bl : ∀ {kvs : List (Str × Bool)} {k : Str} {b : Bool}, kvs.lookup k = some b → (kvs.map fun q => (q.1, V.bl q.2)).lookup k = some (V.bl b)
  | [], _, _, h => by cases h
  | p :: r, k, b, h => by
    obtain ⟨p1, p2⟩ := p
    cases z : (k == p1) with
    | true => simp only [List.lookup, z] at h; simp only [List.map_cons, List.lookup, z]; rw [Option.some.inj h]
    | false => simp only [List.lookup, z] at h; simp only [List.map_cons, List.lookup, z]; exact look_bl h
/-- the values of a display -/
def evK : List (Str × Sm) → En → Option (List (Str × Bool))
  | [], _ => some []
  | (k, c) :: r, ρ => match c ρ with
    | some (.d (.bool b)) => (match evK r ρ with | some l => some ((k, b) :: l) | none => none)
    | _ => none
section
variable {X : Cx} {C : Cs X.K} {pos : Pos}
theorem pairs_go {σ : St} : ∀ {kcs : List (Str × Sm)} {H F : Hp} {ρ : En} {l : List (Str × Bool)} {Q : List (V × V) → Hp → Prop}, Ex F H → Rp X.K C F H ρ σ → evK kcs ρ = some l → (∀ H' F', Fr F H F' H' → Q (l.map fun q => (V.str q.1, V.bl q.2)) H') →
    tPairs (kcs.map fun q => (tC (.str q.1), tI X.K C q.2)) σ H Q
  | [], H, F, ρ, l, Q, e, rp, h, q => by cases h; exact q H F (Fr.rfl' e)
  | (k, c) :: r, H, F, ρ, l, Q, e, rp, h, q => by
    unfold evK at h
    split at h
    · rename_i b hb
      cases h2 : evK r ρ with
      | none => rw [h2] at h; cases h
      | some l2 =>
        rw [h2] at h
        cases h
        show tI X.K C c σ H fun y H2 => tPairs _ σ H2 fun ps H3 => Q ((V.str k, y) :: ps) H3
        refine ⟨F, ρ, _, e, rp, hb, fun v H1 F1 f1 r1 => ?_⟩
        cases (show Dr X.K F1 v (.bool b) from r1)
        exact pairs_go f1.b (rp.mono f1) h2 fun H2 F2 f2 => q H2 F2 (f1.tr f2)
    · cases h
def sDict (i : Nat) (kcs : List (Str × Sm)) : SmS := fun ρ => match evK kcs ρ with
  | some l => if l.length ≤ 15 ∧ (l.map (·.1)).Nodup ∧ (ρ.all fun o => match o with | some d => !isOwn d | none => true) = true then some (.inl (ρ.set i (some (.odc l)))) else none
  | none => none
theorem Rq.setDict {K : PySem.W.Frag} {C : Cs K} {F0 H0 F H : Hp} {ρ : En} {σ : St} {i : Nat} {p : Addr} {kvs : List (Str × Bool)} (r : Rq K C F0 H0 F H ρ σ) (hn : (ρ.all fun o => match o with | some d => !isOwn d | none => true) = true) (h1 : F p = none) (h2 : H p = some (.dK (kvB kvs))) (h0 : H0 p = none) :
    Rq K C F0 H0 F H (ρ.set i (some (.odc kvs))) (σ.set i (some (.ref p))) := by
  have at_i : ∀ {j : Nat} {a : Dv}, (ρ.set i (some (.odc kvs)))[j]? = some (some a) → isOwn a = true → j = i := fun {j a} z o => by
    rcases get_set z with ⟨e, _⟩ | ⟨_, e⟩
    · exact e
    · rw [noOwn hn e] at o; cases o
  refine ⟨r.fr, r.rp.set (dv := .odc kvs) ⟨p, rfl, h1, h2⟩, fun j a q z o s => ?_, fun j k a b z o z2 o2 => (at_i z o).trans (at_i z2 o2).symm⟩
  have e := at_i z o
  subst e
  have hl : j < σ.length := by
    have w := (List.getElem?_eq_some_iff.mp z).1
    rw [List.length_set, r.rp.len] at w; exact w
  rw [List.getElem?_set_self hl] at s
  cases s
  exact h0
theorem was_none {F0 H0 F H : Hp} {p : Addr} (fr : Fr F0 H0 F H) (hp : H p = none) : H0 p = none := by
  cases z : H0 p with
  | none => rfl
  | some o =>
    exfalso
    cases zf : F0 p with
    | none => have w := (fr.c p o zf z).2; rw [hp] at w; cases w
    | some u => have w := fr.b p u (fr.a p u zf); rw [hp] at w; cases w
theorem is_dict {R : RT} {i : Nat} {x : Str} {pos' p2 : Pos} {keys : List (Option Expr)} {values : List Expr} {kcs : List (Str × Sm)} (hN : X.N.Nodup) (hi : X.N[i]? = some x) (hx : Loc X.env.scope x) (h : PPs X p2 keys values (kcs.map fun q => (tC (.str q.1), tI X.K C q.2)))
    (hall : keys.all (·.isSome) = true := by rfl) (hl : keys.length = values.length := by rfl) (hz : keys ≠ [] := by exact List.cons_ne_nil _ _) (h15 : keys.length ≤ 15 := by decide)
    (hs : swapsWith (.Dict keys values p2) (some (.Name x pos')) pos.line X.env = pure false := by rfl) (hf : X.fn x = true ∨ X.env.scope.names.lookup x = some .local := by first | exact .inl rfl | exact .inr rfl | assumption) :
    PS X (.Assign [.Name x pos'] (.Dict keys values p2) pos) (tIs X.K C R (sDict i kcs)) := PS.imp (ps_set hN hi hx (pe_disp h hall hl hz h15) hs hf) fun D σ H ⟨F0, H0, F, ρ, r, rq, h, k⟩ => by
  unfold sDict at h
  split at h
  · rename_i l hl
    split at h
    · rename_i hc
      cases h
      intro p hp
      have f1 : Fr F H F (upd H p (.dK [])) := Fr.out _ rq.fr.b hp
      have r1 := rq.step f1
      refine pairs_go r1.fr.b r1.rp hl fun H2 F2 f2 => ?_
      obtain ⟨g1, g2⟩ := f2.c p _ (fresh_back rq.fr.b hp) upd_same
      refine ⟨g2, kvB l, by unfold kvB; rw [List.map_map]; rfl, by unfold kvB; rw [List.length_map]; exact hc.1, ?_⟩
      have em : mergeK [] (kvB l) = kvB l := by
        rw [kvB_eq]
        have := merge_new (kvs := []) (more := l.map fun q => (q.1, V.bl q.2)) (by rw [List.nil_append, List.map_map]; exact hc.2.1)
        simpa using this
      rw [em]
      have r2 := r1.step f2
      have h0 := was_none rq.fr hp
      refine k _ _ F2 (Rq.setDict ⟨⟨r2.fr.a, fun q u z => by rw [upd_ne (ne_of_none z g1)]; exact r2.fr.b q u z, fun q u z z2 => ?_⟩, ?_, r2.own, r2.one⟩ hc.2.2 g1 upd_same h0) f2.a
      · obtain ⟨a, b⟩ := r2.fr.c q u z z2
        have w : q ≠ p := fun w => by rw [w, h0] at z2; cases z2
        exact ⟨a, by rw [upd_ne w]; exact b⟩
      · refine ⟨r2.rp.len, fun j dv z => ?_⟩
        obtain ⟨v, a, b⟩ := r2.rp.at_ j dv z
        have no := noOwn hc.2.2 z
        refine ⟨v, a, ?_⟩
        cases dv with
        | d y => exact b
        | whl y => exact b
        | tbl y y2 => exact b
        | own y => cases no
        | odc y => cases no
    · cases h
  · cases h
/-- d['k'] = e of the body's own dict -/
def sDput (i : Nat) (kx : Str) (c : Sm) : SmS := fun ρ => match ρ[i]? with
  | some (some (.odc l)) => (match c ρ with | some (.d (.bool b)) => if l.length < 1000 ∧ kx ∉ l.map (·.1) then some (.inl (ρ.set i (some (.odc (l ++ [(kx, b)]))))) else none | _ => none)
  | _ => none
theorem is_dput {R : RT} {i : Nat} {x kx : Str} {e : Expr} {c : Sm} {px pos' p3 : Pos} {j : Nat} (hu : X.A.units + 1 < cLine) (hN : X.N[i]? = some x) (hv : Vis X.env.scope x) (he : PE X e (tI X.K C c)) (hd : (x == ("__debug__" : Str)) = false := by decide) (hcd : (x == ("__classdict__" : Str)) = false := by decide)
    (hs : swapsWith e (some (.Subscript (.Name x px) (.Constant (.str kx) j p3) pos')) pos.line X.env = pure false := by rfl) : PS X (.Assign [.Subscript (.Name x px) (.Constant (.str kx) j p3) pos'] e pos) (tIs X.K C R (sDput i kx c)) :=
  PS.imp (ps_dput hu (pe_var hN hv hd hcd) pe_str he hs) fun D σ H ⟨F0, H0, F, ρ, r, rq, h, k⟩ => by
    unfold sDput at h
    split at h
    · rename_i l hi
      split at h
      · rename_i b hb
        split at h
        · rename_i hc
          cases h
          obtain ⟨v, hv1, p, rfl, g1, g2⟩ := rq.rp.at_ i _ hi
          have h0 := rq.own i _ p hi rfl hv1
          refine ⟨F, ρ, _, rq.fr.b, rq.rp, hb, fun v H1 F1 f1 r1 => ?_⟩
          obtain ⟨g3, g4⟩ := f1.c p _ g1 g2
          refine ⟨.ref p, hv1, p, upd H1 p (.dK (putK (kvB l) (Sum.inr kx) v)), rfl, DPut.k (k := Sum.inr kx) g4 (by unfold kvB; rw [List.length_map, sizeLine_eq]; omega), ?_⟩
          · cases (show Dr X.K F1 v (.bool b) from r1)
            have r1' := rq.step f1
            have ep : putK (kvB l) (Sum.inr kx) (V.bl b) = kvB (l ++ [(kx, b)]) := by
              have z := put_new (kvs := l.map fun q => (q.1, V.bl q.2)) (k := kx) (v := V.bl b) (by rw [List.map_map]; exact hc.2)
              rw [kvB_eq l, kvB_eq (l ++ [(kx, b)]), z]; simp
            rw [ep]
            refine k _ _ F1 ⟨⟨r1'.fr.a, fun q o z => by rw [upd_ne (ne_of_none z g3)]; exact r1'.fr.b q o z, fun q o z z2 => ?_⟩, ⟨by rw [List.length_set]; exact r1'.rp.len, fun j dv z => ?_⟩, fun j dv q z o s => ?_, fun j l2 a b2 z o z2 o2 => ?_⟩ f1.a
            · obtain ⟨a, b⟩ := r1'.fr.c q o z z2
              have w : q ≠ p := fun w => by rw [w, h0] at z2; cases z2
              exact ⟨a, by rw [upd_ne w]; exact b⟩
            · rcases get_set z with ⟨rfl, e⟩ | ⟨ne, e⟩
              · cases e
                exact ⟨.ref p, hv1, p, rfl, g3, upd_same⟩
              · obtain ⟨u, a, b⟩ := r1'.rp.at_ j dv e
                refine ⟨u, a, ?_⟩
                cases dv with
                | d y => exact b
                | whl y => exact b
                | tbl y y2 => exact b
                | own y => exact absurd (rq.one j i _ _ e rfl hi rfl) ne
                | odc y => exact absurd (rq.one j i _ _ e rfl hi rfl) ne
            · rcases get_set z with ⟨rfl, e⟩ | ⟨ne, e⟩
              · rw [hv1] at s; cases s; exact h0
              · exact rq.own j dv q e o s
            · have f : ∀ {j : Nat} {a : Dv}, (ρ.set i (some (.odc (l ++ [(kx, b)]))))[j]? = some (some a) → isOwn a = true → ∃ a', ρ[j]? = some (some a') ∧ isOwn a' = true := fun {j a} z o => by
                rcases get_set z with ⟨rfl, e⟩ | ⟨ne, e⟩
                · exact ⟨_, hi, rfl⟩
                · exact ⟨a, e, o⟩
              obtain ⟨a', za, oa⟩ := f z o
              obtain ⟨b', zb, ob⟩ := f z2 o2
              exact rq.one j l2 a' b' za oa zb ob
        · cases h
      · cases h
    · cases h
/-- d[e] of the body's own dict, as a value -/
def cDget (i : Nat) (c : Sm) : Sm := fun ρ => match ρ[i]? with
  | some (some (.odc l)) => (match c ρ with | some (.d (.str k)) => (match l.lookup k with | some b => some (.d (.bool b)) | none => none) | _ => none)
  | _ => none
theorem i_dget {i : Nat} {x : Str} {e : Expr} {c : Sm} {px : Pos} (hu : X.A.units + 1 < cLine) (hN : X.N[i]? = some x) (hv : Vis X.env.scope x) (he : PE X e (tI X.K C c)) (hs : NoSl e := by intro _ _; rfl) (hd : (x == ("__debug__" : Str)) = false := by decide) (hcd : (x == ("__classdict__" : Str)) = false := by decide) :
    PE X (.Subscript (.Name x px) e pos) (tI X.K C (cDget i c)) := PE.imp (pe_dget hu (pe_var hN hv hd hcd) he hs) fun σ H Q ⟨F, ρ, dv, ex, rp, h, q⟩ => by
  unfold cDget at h
  split at h
  · rename_i l hi
    split at h
    · rename_i k hk
      split at h
      · rename_i b hb
        cases h
        obtain ⟨v, hv1, p, rfl, g1, g2⟩ := rp.at_ i _ hi
        refine ⟨.ref p, hv1, F, ρ, _, ex, rp, hk, fun v H1 F1 f1 r1 => ?_⟩
        obtain ⟨g3, g4⟩ := f1.c p _ g1 g2
        cases (show Dr X.K F1 v (.str k) from r1)
        refine ⟨p, .bl b, rfl, ?_, q _ H1 F1 f1 (Dr.bl b)⟩
        have z : valV (kvB l) (Sum.inr k) = some (.bl b) := by rw [kvB_eq, val_look, look_bl hb]
        rw [← z]
        exact DGet.k (k := Sum.inr k) g4
      · cases h
    · cases h
  · cases h
/-! ### dict(pairs)[key] -/
def pairsD : List PyData → Option (List (Str × PyData))
  | [] => some []
  | .tuple [.str k, d] :: r => (match pairsD r with | some l => some ((k, d) :: l) | none => none)
  | _ => none
def gDictAt : Dv → Dv → Option Dv
  | .d (.list ps), .d (.str k) => (match pairsD ps with
    | some l => if (l.map (·.1)).Nodup then (l.lookup k).map Dv.d else none
    | none => none)
  | _, _ => none
theorem pairsD_cons {d : PyData} {r : List PyData} {l : List (Str × PyData)} (h : pairsD (d :: r) = some l) : ∃ k d1 l2, d = .tuple [.str k, d1] ∧ pairsD r = some l2 ∧ l = (k, d1) :: l2 := by
  unfold pairsD at h
  split at h
  · rename_i z; cases z
  · rename_i k d1 r1 z
    cases z
    cases h2 : pairsD r with
    | none => rw [h2] at h; cases h
    | some l2 => rw [h2] at h; cases h; exact ⟨k, d1, l2, rfl, rfl, rfl⟩
  · cases h
theorem pairs_ok {F H : Hp} (e : Ex F H) : ∀ {vs : List V} {ps : List PyData} {l : List (Str × PyData)}, DrAll X.K F vs ps → pairsD ps = some l → ∃ (as : List Addr) (ws : List V), vs = as.map V.ref ∧ DrAll X.K F ws (l.map (·.2)) ∧ ws.length = l.length ∧
    Paired (fun p (kv : Key × V) => SqT X.K H p [kV kv.1, kv.2]) as (((l.map (·.1)).zip ws).map fun q => ((Sum.inr q.1 : Key), q.2))
  | _, _, _, .nil, h => by cases h; exact ⟨[], [], rfl, .nil, rfl, .nil⟩
  | _, d :: r, l, .cons (v := v) (vs := vs) h t, hp => by
    obtain ⟨k, d1, l2, rfl, h2, rfl⟩ := pairsD_cons hp
    obtain ⟨as, ws, rfl, t2, hl, pr⟩ := pairs_ok e t h2
    cases h with
    | tup g t3 =>
      cases t3 with
      | cons ha ta =>
        cases ta with
        | cons hb tb =>
          cases tb
          cases ha
          rename_i a w
          exact ⟨a :: as, w :: ws, rfl, .cons hb t2, by simp [hl], .cons (ex_t e g) pr⟩
theorem look_zip {F : Hp} : ∀ {l : List (Str × PyData)} {ws : List V} {k : Str} {d : PyData}, DrAll X.K F ws (l.map (·.2)) → l.lookup k = some d → ∃ w, ((l.map (·.1)).zip ws).lookup k = some w ∧ Dr X.K F w d
  | [], _, _, _, _, h => by cases h
  | p :: r, _, k, d, .cons (v := v) hv t, h => by
    obtain ⟨p1, p2⟩ := p
    cases z : (k == p1) with
    | true => simp only [List.lookup, z] at h; cases h; exact ⟨v, by simp only [List.map_cons, List.zip_cons_cons, List.lookup, z], hv⟩
    | false =>
      simp only [List.lookup, z] at h
      obtain ⟨w, a, b⟩ := look_zip t h
      exact ⟨w, by simp only [List.map_cons, List.zip_cons_cons, List.lookup, z]; exact a, b⟩
theorem gDictAt_some {a b dv : Dv} (h : gDictAt a b = some dv) : ∃ ps k l d, a = .d (.list ps) ∧ b = .d (.str k) ∧ pairsD ps = some l ∧ (l.map (·.1)).Nodup ∧ l.lookup k = some d ∧ dv = .d d := by
  unfold gDictAt at h
  split at h
  · rename_i ps k
    cases h2 : pairsD ps with
    | none => simp only [h2] at h; cases h
    | some l =>
      simp only [h2] at h
      split at h
      · rename_i hn
        obtain ⟨d, hd, e⟩ := map_some h
        exact ⟨ps, k, l, d, rfl, rfl, h2, hn, hd, e.symm⟩
      · cases h
  · cases h
theorem i_dictAt {a b : Expr} {c1 c2 : Sm} {p p2 : Pos} (hc : X.calm = true) (hu : X.A.units + 1 < cLine) (hg : Gl X "dict") (hm : X.mg "dict" = none) (hv : bootBuiltins "dict" = some (.type "dict")) (ha : PE X a (tI X.K C c1)) (hb : PE X b (tI X.K C c2)) (hs : NoSl b := by intro _ _; rfl)
    (he : starEach [a] X.env = (false, eval a X.env) :: starEach [] X.env := by rfl) (hpl : (backTo p2 (starEach [] X.env)).any (·.1) = false := by rfl) : PE X (.Subscript (.Call (.Name "dict" p) [a] [] p2) b pos) (tI X.K C (cBin gDictAt c1 c2)) :=
  PE.imp (pe_dget hu (pe_callTy (call_dictP hc) hg hm hv (pa_cons ha pa_nil he) (by decide) (by decide) he hpl) hb hs) fun σ H Q ⟨F, ρ, dv, ex, rp, h, q⟩ => by
    unfold cBin at h
    cases h1 : c1 ρ with
    | none => rw [h1] at h; cases h
    | some d1 =>
      cases h2 : c2 ρ with
      | none => rw [h1, h2] at h; cases h
      | some d2 =>
        rw [h1, h2] at h
        obtain ⟨ps, k, l, d, rfl, rfl, hl, hn, hd, rfl⟩ := gDictAt_some h
        refine ⟨F, ρ, _, ex, rp, h1, fun x H1 F1 f1 r1 => ?_⟩
        cases (show Dr X.K F1 x (.list ps) from r1) with
        | lst g1 t1 =>
          obtain ⟨as, ws, rfl, t2, hlen, pr⟩ := pairs_ok f1.b t1 hl
          refine ⟨_, as, _, rfl, SqL.of (f1.b _ _ g1), pr, fun D hD => ?_⟩
          have f2 := f1.tr (Fr.out (.dK (mergeK [] (((l.map (·.1)).zip ws).map fun q => ((Sum.inr q.1 : Key), q.2)))) f1.b hD)
          refine ⟨F1, ρ, _, f2.b, rp.mono f2, h2, fun y H2 F2 f3 r2 => ?_⟩
          cases (show Dr X.K F2 y (.str k) from r2)
          obtain ⟨g2, g3⟩ := f3.c D _ (fresh_back f1.b hD) upd_same
          obtain ⟨w, lw, rw'⟩ := look_zip t2 hd
          refine ⟨D, w, rfl, ?_, q w H2 F2 (f2.tr f3) (rw'.mono f3.a)⟩
          have em : mergeK [] (((l.map (·.1)).zip ws).map fun q => ((Sum.inr q.1 : Key), q.2)) = ((l.map (·.1)).zip ws).map fun q => ((Sum.inr q.1 : Key), q.2) := by
            have z := merge_new (kvs := []) (more := (l.map (·.1)).zip ws) (by rw [List.nil_append, List.map_fst_zip (by simp [hlen])]; exact hn)
            simpa using z
          rw [em] at g3
          have z : valV (((l.map (·.1)).zip ws).map fun q => ((Sum.inr q.1 : Key), q.2)) (Sum.inr k) = some w := by rw [val_look, lw]
          rw [← z]
          exact DGet.k (k := Sum.inr k) g3
end
end LNi
set_option maxHeartbeats 4000000
/-! The text by places; the facts of the state behind the top, as the walk leans on them. -/
namespace LNt
open PySem PySem.Spec PyProof.Rows L2 L2H LNb LNi
def top (i : Nat) : Stmt := PySem.Challenge.pw_lapnumbers_k36_whole_live.main.body.getD i (.Pass ⟨0, 0, 0, 0⟩)
def met (i j : Nat) : Stmt := inClass (top i) j
/-- the getter of the property f of the class called x -/
def gAd (K : PySem.W.Frag) (x f : Str) : Addr := match PySem.W.recIn K (He.ma K (He.ga K x) f) "property" with
  | some (.ref g :: _) => g
  | _ => 0
/-- a value of the written part is that data -/
def dataIn (K : PySem.W.Frag) : Nat → Value → PyData → Bool
  | 0, _, _ => false
  | n + 1, v, d => match v, d with
    | .none, .none => true
    | .bool a, .bool b => a == b
    | .int i _, .int j => decide (i = j)
    | .str x _, .str y => decide (x = y)
    | .ref a, .tuple ds => (match K.lookup a with
      | some ⟨.type c, _, .seq its _, _⟩ => decide (c = "tuple") && (decide (its.size ≤ 1000) && (its.toList.length == ds.length && (its.toList.zip ds).all fun q => dataIn K n q.1 q.2))
      | _ => false)
    | _, _ => false
/-- the module's name x stands for that data -/
def conIn (K : PySem.W.Frag) (x : Str) (d : PyData) : Bool := match PySem.W.nsIn K mainGlobals x with
  | some (some v) => dataIn K 5 v d
  | _ => false
structure ConD (K : PySem.W.Frag) (mg : Str → Option Value) (x : Str) (d : PyData) : Prop where
  ex : ∃ u v, mg x = some u ∧ RelV v u ∧ ∀ F, Dr K F v d
theorem dataIn_ok {K : PySem.W.Frag} : ∀ {n : Nat} {u : Value} {d : PyData}, dataIn K n u d = true → ∃ v, RelV v u ∧ ∀ F, Dr K F v d
  | 0, _, _, h => by cases h
  | n + 1, u, d, h => by
    unfold dataIn at h
    split at h
    · exact ⟨.non, rfl, fun _ => .non⟩
    · rename_i a b
      obtain rfl := eq_of_beq h
      exact ⟨.bl a, rfl, fun _ => .bl a⟩
    · rename_i i t j
      obtain rfl := of_decide_eq_true h
      exact ⟨.int i, ⟨t, rfl⟩, fun _ => .int i⟩
    · rename_i x t y
      obtain rfl := of_decide_eq_true h
      exact ⟨.str x, ⟨t, rfl⟩, fun _ => .str x⟩
    · rename_i a ds
      split at h
      · rename_i c dd its m sl hk
        obtain ⟨h1, h⟩ := Bool.and_eq_true_iff.mp h
        obtain ⟨h2, h⟩ := Bool.and_eq_true_iff.mp h
        obtain ⟨h3, h4⟩ := Bool.and_eq_true_iff.mp h
        have hc : c = "tuple" := of_decide_eq_true h1
        have hz : its.size ≤ 1000 := of_decide_eq_true h2
        have hl : its.toList.length = ds.length := eq_of_beq h3
        have key : ∀ {us : List Value} {ds : List PyData}, us.length = ds.length → (us.zip ds).all (fun q => dataIn K n q.1 q.2) = true → ∃ vs, Vals vs us ∧ ∀ F, DrAll K F vs ds := by
          intro us
          induction us with
          | nil => intro ds e _; cases ds with
            | nil => exact ⟨[], .nil, fun _ => .nil⟩
            | cons _ _ => cases e
          | cons u us ih => intro ds e z; cases ds with
            | nil => cases e
            | cons d ds =>
              rw [List.zip_cons_cons, List.all_cons, Bool.and_eq_true] at z
              obtain ⟨v, r, k⟩ := dataIn_ok z.1
              obtain ⟨vs, rs, ks⟩ := ih (by simpa using e) z.2
              exact ⟨v :: vs, .cons r rs, fun F => .cons (k F) (ks F)⟩
        obtain ⟨vs, r, k⟩ := key hl h4
        subst hc
        exact ⟨.ref a, rfl, fun F => .tup (.inr ⟨_, its, m, hk, rfl, rfl, by rw [sizeLine_eq]; omega, r⟩) (k F)⟩
      · cases h
    · cases h
theorem con_ok {K : PySem.W.Frag} {h : Heap} {mg : Str → Option Value} (X : K.In h) (G : h.Ns mainGlobals mg) {x : Str} {d : PyData} (c : conIn K x d = true) : ConD K mg x d := by
  unfold conIn at c
  split at c
  · rename_i v e
    obtain ⟨w, r, k⟩ := dataIn_ok c
    exact ⟨v, w, PySem.W.mg_of X G e, r, k⟩
  · cases c
section
variable {X : Cx} {C : Cs X.K}
theorem i_con {x : Str} {d : PyData} {pos : Pos} (c : ConD X.K X.mg x d) (hg : Gl X x := by rfl) (hdb : (x == ("__debug__" : Str)) = false := by decide) : PE X (.Name x pos) (tI X.K C (cK d)) := by
  obtain ⟨u, v, h1, h2, h3⟩ := c.ex
  exact i_glob hg h1 h2 h3 hdb
theorem iv (i : Nat) {x : Str} {pos : Pos} (hN : X.N[i]? = some x := by rfl) (hv : Vis X.env.scope x := by first | exact Or.inl rfl | exact Or.inr (Or.inl rfl) | exact Or.inr (Or.inr rfl)) (hd : (x == ("__debug__" : Str)) = false := by decide)
    (hcd : (x == ("__classdict__" : Str)) = false := by decide) : PE X (.Name x pos) (tI X.K C (cVar i)) := i_var hN hv hd hcd
end
/-- a def as a function object of the text -/
structure Fd (K : PySem.W.Frag) (name qual : Str) (params : Arguments) (body : List Stmt) (scope : Scope) (f : Addr) : Prop where
  ex : ∃ (oc : Value) (od : Option Addr) (kV doc pm : Value) (an : Option Addr) (cdv ct : Value) (osl : Array (Option Value)), K.lookup f = some ⟨oc, od, .func (PySem.W.fnOf name qual params body scope .none kV doc pm an cdv ct), osl⟩ ∧ PySem.W.codeIn K cdv qual = true
abbrev FdS (K : PySem.W.Frag) (name qual : Str) (st : Stmt) (f : Addr) : Prop := Fd K name qual (defArgs st) (defBody st) (defScope st) f
/-- how its arguments bind: by the number of parameters -/
abbrev BindN (name qual : Str) (params : Arguments) (body : List Stmt) (scope : Scope) (ps : List Str) : Prop := ∀ (kV doc pm : Value) (an : Option Addr) (cdv ct : Value) (us : List Value), us.length = ps.length → bindArgs (PySem.W.fnOf name qual params body scope .none kV doc pm an cdv ct) ⟨us, []⟩ = pure (ps.zip us)
section
variable {P : Program} {w : World} {K : PySem.W.Frag} {mg : Str → Option Value} {base : Heap} {C : Cs K} {k : Nat} {f : Addr} {name qual : Str} {st : Stmt} {N ps : List Str} {c : SmS}
theorem fd_D (F : FdS K name qual st f) (S : FnScope N ps (defScope st)) (bn : BindN name qual (defArgs st) (defBody st) (defScope st) ps)
    (hb : ∀ (cdv : Value) (cm : Bool) (pn : List (Addr × Obj)) (A : Around) (outer : List Env) (s : Shared) (H : Hp) (E : XK), Wm (cxG cm pn C8.CX0 P w K mg base N qual (defScope st) f cdv A outer s H E).nox → RoomH k (A.deeper (envOfC qual (defScope st) s.heap.objs.size f cdv)) →
      PSs (cxG cm pn C8.CX0 P w K mg base N qual (defScope st) f cdv A outer s H E).nox (defBody st) (tIs K C (RetD K C) c)) : ∃ fd, Binds K fd ps [] ∧ FnW P w K mg base C8.CX0 (k + 1) f fd ps (spD K C (runF c ps.length N.length)) := by
  obtain ⟨oc, od, kV, doc, pm, an, cdv, ct, osl, lk, hcd⟩ := F.ex
  exact ⟨_, .all (bn kV doc pm an cdv ct), fn_I lk hcd S (hb cdv)⟩
theorem fd_L (F : FdS K name qual st f) (S : FnScope N ps (defScope st)) (bn : BindN name qual (defArgs st) (defBody st) (defScope st) ps) (hin : ∀ ρ ρ', c ρ ≠ some (.inl ρ'))
    (hb : ∀ (cdv : Value) (cm : Bool) (pn : List (Addr × Obj)) (A : Around) (outer : List Env) (s : Shared) (H : Hp) (E : XK), Wm (cxG cm pn C8.CX0 P w K mg base N qual (defScope st) f cdv A outer s H E).nox → RoomH k (A.deeper (envOfC qual (defScope st) s.heap.objs.size f cdv)) →
      PSs (cxG cm pn C8.CX0 P w K mg base N qual (defScope st) f cdv A outer s H E).nox (defBody st) (tIs K C (RetL K C) c)) : ∃ fd, Binds K fd ps [] ∧ FnW P w K mg base C8.CX0 (k + 1) f fd ps (spL K C (runF c ps.length N.length)) := by
  obtain ⟨oc, od, kV, doc, pm, an, cdv, ct, osl, lk, hcd⟩ := F.ex
  exact ⟨_, .all (bn kV doc pm an cdv ct), fn_IL lk hcd S hin (hb cdv)⟩
theorem dfn_of {x : Str} {g : List Dv → Option Dv} (hm : mg x = some (.ref f)) (hk : PySem.W.keepIn K (.ref f) = true) (h : ∃ fd, Binds K fd ps [] ∧ FnW P w K mg base C8.CX0 k f fd ps (spD K C g)) : Dfn P w K mg base C x k g :=
  let ⟨fd, b, F⟩ := h
  ⟨f, fd, ps, hm, hk, b, F⟩
end
/-- calm alone -/
structure DfC (P : Program) (w : World) (K : PySem.W.Frag) (mg : Str → Option Value) (base : Heap) (C : Cs K) (x : Str) (k : Nat) (f : List Dv → Option Dv) : Prop where
  ex : ∃ fa fd ps, mg x = some (.ref fa) ∧ PySem.W.keepIn K (.ref fa) = true ∧ Binds K fd ps [] ∧ FnOk P w K mg base C8.CX0 k fa fd ps (spD K C f)
theorem fd_C {P : Program} {w : World} {K : PySem.W.Frag} {mg : Str → Option Value} {base : Heap} {C : Cs K} {k : Nat} {f : Addr} {name qual : Str} {st : Stmt} {N ps : List Str} {c : SmS} (F : FdS K name qual st f) (S : FnScope N ps (defScope st)) (bn : BindN name qual (defArgs st) (defBody st) (defScope st) ps)
    (hb : ∀ (cdv : Value) (A : Around) (outer : List Env) (s : Shared) (H : Hp) (E : XK), Wm (cxOf C8.CX0 P w K mg base N qual (defScope st) f cdv A outer s H E).nox → (cxOf C8.CX0 P w K mg base N qual (defScope st) f cdv A outer s H E).nox.calm = true → RoomH k (A.deeper (envOfC qual (defScope st) s.heap.objs.size f cdv)) →
      PSs (cxOf C8.CX0 P w K mg base N qual (defScope st) f cdv A outer s H E).nox (defBody st) (tIs K C (RetD K C) c)) : ∃ fd, Binds K fd ps [] ∧ FnOk P w K mg base C8.CX0 (k + 1) f fd ps (spD K C (runF c ps.length N.length)) := by
  obtain ⟨oc, od, kV, doc, pm, an, cdv, ct, osl, lk, hcd⟩ := F.ex
  refine ⟨_, .all (bn kV doc pm an cdv ct), fn_of lk hcd S (fun vs H Q E ⟨F, ds, d, e, r, h, q⟩ => ?_) fun A outer s H vs Q E hr ⟨F, ds, d, e, r, h, q⟩ => ⟨_, PSs.nox (hb cdv A outer s H E (.inl rfl) rfl ⟨hr.dp, hr.un⟩), ?_⟩⟩
  · unfold runF at h
    split at h
    · rename_i hl; rw [r.len, hl]
    · cases h
  · unfold runF at h
    split at h
    · unfold runS at h
      split at h
      · rename_i d1 hd
        cases h
        exact ⟨F, H, F, _, .inr d, start_rq e r, hd, fun v H1 F1 f1 r1 => q v H1 F1 f1 r1⟩
      · rename_i ρ1 hd
        cases h
        exact ⟨F, H, F, _, .inl ρ1, start_rq e r, hd, fun σ1 H1 F1 rq _ => q .non H1 F1 rq.fr Dr.non⟩
      · cases h
    · cases h
theorem b_max : bootBuiltins "max" = some (.builtin "max") := by decide +kernel
theorem b_min : bootBuiltins "min" = some (.builtin "min") := by decide +kernel
theorem b_len : bootBuiltins "len" = some (.builtin "len") := by decide +kernel
theorem b_all : bootBuiltins "all" = some (.builtin "all") := by decide +kernel
theorem b_isinstance : bootBuiltins "isinstance" = some (.builtin "isinstance") := by decide +kernel
theorem b_tuple : bootBuiltins "tuple" = some (.type "tuple") := by decide +kernel
theorem b_list : bootBuiltins "list" = some (.type "list") := by decide +kernel
theorem b_dict : bootBuiltins "dict" = some (.type "dict") := by decide +kernel
theorem b_int : bootBuiltins "int" = some (.type "int") := by decide +kernel
theorem b_bool : bootBuiltins "bool" = some (.type "bool") := by decide +kernel
theorem b_str : bootBuiltins "str" = some (.type "str") := by decide +kernel
def lcOf : List Stmt → Expr
  | .Assign _ e _ :: _ => e
  | _ => .Constant .none 0 ⟨0, 0, 0, 0⟩
def lcScope : Expr → Scope
  | .ListComp _ _ sc _ => sc
  | _ => { kind := .function, names := [], isGenerator := false, isCoroutine := false }
theorem hu1_ofH {k : Nat} {A : Around} (r : RoomH k A) : A.units + 1 < cLine := by have := r.un; omega
theorem hu2_ofH {k : Nat} {A : Around} (r : RoomH k A) : A.units + 64 < cLine := by have := r.un; omega
theorem hu_ofH {k : Nat} {A : Around} (r : RoomH k A) : A.units + 65 < cLine := by have := r.un; omega
end LNt
set_option maxHeartbeats 4000000
/-! len(table) by its own __len__. -/
namespace LNt
open PySem PySem.Spec PyProof.Rows L2 L2H LNb LNi
open Evl (Ex Ex.refl Ex.trans Ex.new ex_t ex_l ex_rd fresh_back)
structure Dlen (P : Program) (w : World) (K : PySem.W.Frag) (mg : Str → Option Value) (base : Heap) (C : Cs K) (k : Nat) (f : List Dv → Option Dv) : Prop where
  ex : ∃ fa fd ps, PySem.W.findIn K (.ref C.ct) "__len__" = some (some (.ref fa)) ∧ PySem.W.isFn K (.ref fa) = true ∧ Binds K fd ps [] ∧ FnW P w K mg base C8.CX0 k fa fd ps (spD K C f)
def gLenT (f : List Dv → Option Dv) : List Dv → Option Dv
  | [.tbl w k] => (match f [.tbl w k] with
    | some (.d (.int n)) => if 0 ≤ n ∧ n < 2 ^ 63 then some (.d (.int n)) else none
    | _ => none)
  | _ => none
section
variable {X : Cx} {C : Cs X.K}
def rLenT (K : PySem.W.Frag) (C : Cs K) (f : List Dv → Option Dv) : List V → Hp → VK → Prop := fun xs H Q => ∃ F w k n v, xs = [v] ∧ Ex F H ∧ Rt K C F v w k ∧ f [.tbl w k] = some (.d (.int n)) ∧ 0 ≤ n ∧ n < 2 ^ 63 ∧ ∀ H' F', Fr F H F' H' → Q (.int n) H'
theorem call_lenT {k j : Nat} {f : List Dv → Option Dv} (D : Dlen X.prog X.w X.K X.mg X.base C k f) (hr : RoomH j X.A) (hw : Wm X) (hk : k + 1 ≤ j) : CallR X (.builtin "len") (rLenT X.K C f) := by
  intro pp s σ H xs us Q J r ⟨F, wl, kk, n, v, e1, ex, rt, hf, h0, h1, q⟩
  subst e1
  obtain ⟨u, rfl, ru⟩ := vals1 r
  obtain ⟨a, dx, b, k2, rfl, g1, _⟩ := id rt
  cases ru
  obtain ⟨fa, fd, ps, hfi, hfn, hb, G⟩ := D.ex
  obtain ⟨mA, O, _, _, _, _⟩ := ins_get J.hok (ex _ _ g1)
  obtain ⟨od, M, _⟩ := O.look
  obtain ⟨m, fr⟩ := J.fr
  have hr1 := RoomH.in1 (hr.mono hk)
  have sp : spD X.K C f [V.ref a] H (fun v H' => v = .int n ∧ Q (.int n) H') (fun _ _ _ => False) := ⟨F, [.tbl wl kk], .d (.int n), ex, .cons rt .nil, hf, fun v H1 F1 f1 r1 => by
    cases (show Dr X.K F1 v (.int n) from r1)
    exact ⟨rfl, q H1 F1 f1⟩⟩
  have hl : ([Value.ref a] ++ ([] : List Value)).length = ps.length := by rw [← G.ok.len _ _ _ _ sp]; rfl
  have bb := hb s [.ref a] J.kIn hl
  rw [List.append_nil] at bb
  have fin : ∀ r s', CR C8.CX0 X.stack X.prog X.w H s (fun v H' => v = .int n ∧ Q (.int n) H') (fun _ _ _ => False) r s' → (match r with
      | .ok (.ret u) => PySem.W.LenBack (EP X pp σ Q) u s'
      | .ok _ => False
      | .error er => X.xe er s') := fun r s' hq => by
    cases r with
    | error er => exact (show False from hq).elim
    | ok fl =>
      cases fl with
      | ret u =>
        obtain ⟨v, H', J3, rv, ev, q3⟩ := J.after hq
        subst ev
        obtain ⟨t, rfl⟩ := rv
        exact ⟨⟨h0, h1⟩, .int n, H', J3.tok _, ⟨_, rfl⟩, q3⟩
      | next => exact hq.elim
      | brk => exact hq.elim
      | cont => exact hq.elim
  refine PySem.W.len_K fr J.ok.mod.kin M hfi hfn (wpAny_call ?_)
  rcases hw with c1 | ⟨p1, ⟨hh, hv⟩, hp1⟩
  · refine codeAny_mono (G.ok.run X.A.in1 X.stack s H ⟨[.ref a], []⟩ [.ref a] [.ref a] _ _ (room_of hr1 (J.ok.hd c1)) J.env0.in1 bb (.cons rfl .nil) sp) fun r s' hq => ?_
    have z := fin r s' hq
    cases r with
    | error er => exact z
    | ok fl => cases fl <;> first | exact z | exact z.elim
  · have P1 := J.pin p1 (List.mem_append_left _ hp1)
    have hpin : PinOk X.stack H s p1 := ⟨P1.1, P1.2.1, fun hm => (List.mem_cons.mp (J.stkSub p1.1 hm)).elim P1.2.2.1 P1.2.2.2.1, P1.2.2.2.2⟩
    refine codeAny_mono (G.hot.run X.A.in1 X.stack s H ⟨[.ref a], []⟩ [.ref a] [.ref a] _ _ p1 hr1 ⟨hh, hv⟩ hpin J.env0.in1 bb (.cons rfl .nil) sp) fun r s' hq => ?_
    have z := fin r s' hq
    cases r with
    | error er => exact z
    | ok fl => cases fl <;> first | exact z | exact z.elim
theorem gl_lenT {f : List Dv → Option Dv} : GL X.K C (rLenT X.K C f) (gLenT f) := fun vs F H ds d e r h Q q => by
  unfold gLenT at h
  split at h
  · rename_i w k
    split at h
    · rename_i n hn
      split at h
      · rename_i hc
        cases h
        obtain ⟨v, rfl, a⟩ := rda1 r
        exact ⟨F, w, k, n, v, rfl, e, a, hn, hc.1, hc.2, fun H1 F1 f1 => q _ H1 F1 f1 (Dr.int n)⟩
      · cases h
    · cases h
  · cases h
end
end LNt
set_option maxHeartbeats 4000000
namespace LNp
open PySem PySem.Spec PyProof.Rows L2 L2H LNb LNi LNt
def d_SIZES : PyData := (.tuple [(.int 4), (.int 6), (.int 8)])
def d_RULES : PyData := (.tuple [(.str "freeze"), (.str "stop"), (.str "hold"), (.str "cut")])
def d_DEEDS : PyData := (.tuple [(.str "tick"), (.str "write"), (.str "strike"), (.str "open"), (.str "close"), (.str "pass")])
def d_START : PyData := (.tuple [.none, .none, (.int 0)])
def d_WISHES : PyData := (.tuple [(.str "early"), (.str "ghost"), (.str "gone"), (.str "stands")])
def d_FOR_ALL : PyData := (.tuple [(.str "tick"), (.str "open"), (.str "close"), (.str "pass")])
def d_FOR_ONE : PyData := (.tuple [(.str "write"), (.str "strike")])
def d_MOST_ROWS : PyData := .int 3
/-- what the walk leans on: names, classes, constants -/
structure Tx (K : PySem.W.Frag) (mg : Str → Option Value) (C : Cs K) : Prop where
  f_max : mg "max" = none
  f_min : mg "min" = none
  f_len : mg "len" = none
  f_all : mg "all" = none
  f_isinstance : mg "isinstance" = none
  f_tuple : mg "tuple" = none
  f_list : mg "list" = none
  f_dict : mg "dict" = none
  f_int : mg "int" = none
  f_bool : mg "bool" = none
  f_str : mg "str" = none
  f_enumerate : mg "enumerate" = none
  f_range : mg "range" = none
  f_sum : mg "sum" = none
  f_KeyError : mg "KeyError" = none
  f_ValueError : mg "ValueError" = none
  f_super : mg "super" = none
  f_TypeError : mg "TypeError" = none
  clsW : Cls K C.cw
  clsT : Cls K C.ct
  n_size : NoAttr K C.cw "size"
  n_freeze : NoAttr K C.cw "freeze"
  n_stop : NoAttr K C.cw "stop"
  n_hold : NoAttr K C.cw "hold"
  n_cut : NoAttr K C.cw "cut"
  n_base : NoAttr K C.ct "base"
  n_kept : NoAttr K C.ct "kept"
  k_SIZES : ConD K mg "SIZES" d_SIZES
  k_RULES : ConD K mg "RULES" d_RULES
  k_DEEDS : ConD K mg "DEEDS" d_DEEDS
  k_START : ConD K mg "START" d_START
  k_WISHES : ConD K mg "WISHES" d_WISHES
  k_FOR_ALL : ConD K mg "FOR_ALL" d_FOR_ALL
  k_FOR_ONE : ConD K mg "FOR_ONE" d_FOR_ONE
  k_MOST_ROWS : ConD K mg "MOST_ROWS" d_MOST_ROWS
theorem noin_ret {c : Sm} : ∀ ρ ρ' : En, sRet c ρ ≠ some (.inl ρ') := fun ρ ρ' h => by
  unfold sRet at h
  split at h <;> cases h
theorem noin_seq {a b : SmS} (hb : ∀ ρ ρ' : En, b ρ ≠ some (.inl ρ')) : ∀ ρ ρ' : En, sSeq a b ρ ≠ some (.inl ρ') := fun ρ ρ' h => by
  unfold sSeq at h
  split at h
  · exact hb _ _ h
  · cases h
  · cases h
abbrev N_is_whole : List Str := ["value", "low", "high"]
theorem s_is_whole : FnScope N_is_whole ["value", "low", "high"] (defScope (top 11)) := ⟨rfl, rfl, rfl, by decide +kernel, rfl, by decide +kernel, by decide +kernel⟩
def c_is_whole : SmS := (sRet (cV (cAnd (cT (cUn (gIsi "int") (cVar 0))) (cT (cV (cAnd (cT (cV (cNot (cT (cUn (gIsi "bool") (cVar 0)))))) (cT (cChain gLe gLe (cVar 1) (cVar 0) (cVar 2)))))))))
def f_is_whole : List Dv → Option Dv := runF c_is_whole 3 3
theorem t_is_whole {P : Program} {w : World} {K : PySem.W.Frag} {mg : Str → Option Value} {base : Heap} {C : Cs K} {f : Addr} (T : Tx K mg C) (F : FdS K "is_whole" "is_whole" (top 11) f) :
    ∃ fd, Binds K fd ["value", "low", "high"] [] ∧ FnW P w K mg base C8.CX0 1 f fd ["value", "low", "high"] (spD K C f_is_whole) :=
  fd_D F s_is_whole (fun _ _ _ _ _ _ us hl => match us, hl with | [_, _, _], _ => rfl) fun cdv cm pn A outer s H E hw hr =>
    (is_one (is_ret (iv_and (i_isi (iv 0) (by rfl) T.f_isinstance b_isinstance (by rfl) T.f_int b_int) (iv_and (iv_not (i_isi (iv 0) (by rfl) T.f_isinstance b_isinstance (by rfl) T.f_bool b_bool)) (iv_one (i_chain op_le op_le go_le go_le (iv 1) (iv 0) (iv 2)))))))
abbrev N_before : List Str := ["wheel", "age", "picture"]
theorem s_before : FnScope N_before ["wheel", "age", "picture"] (defScope (top 16)) := ⟨rfl, rfl, rfl, by decide +kernel, rfl, by decide +kernel, by decide +kernel⟩
def c_before : SmS := (sRet (cBin gLt (cBin gMul (cK (.int 2)) (cBin gMod (cBin gSub (cVar 1) (cVar 2)) (cUn (gFld "size") (cVar 0)))) (cUn (gFld "size") (cVar 0))))
def f_before : List Dv → Option Dv := runF c_before 3 3
theorem t_before {P : Program} {w : World} {K : PySem.W.Frag} {mg : Str → Option Value} {base : Heap} {C : Cs K} {f : Addr} (T : Tx K mg C) (F : FdS K "before" "before" (top 16) f) :
    ∃ fd, Binds K fd ["wheel", "age", "picture"] [] ∧ FnW P w K mg base C8.CX0 1 f fd ["wheel", "age", "picture"] (spD K C f_before) :=
  fd_D F s_before (fun _ _ _ _ _ _ us hl => match us, hl with | [_, _, _], _ => rfl) fun cdv cm pn A outer s H E hw hr =>
    (is_one (is_ret (i_cmp op_lt go_lt (i_op op_mul go_mul i_int (i_op op_mod go_mod (i_op op_sub go_sub (iv 1) (iv 2)) (i_fld T.clsW T.n_size (iv 0)))) (i_fld T.clsW T.n_size (iv 0)) (nomark _))))
abbrev N_is_stopped : List Str := ["wheel", "state"]
theorem s_is_stopped : FnScope N_is_stopped ["wheel", "state"] (defScope (top 20)) := ⟨rfl, rfl, rfl, by decide +kernel, rfl, by decide +kernel, by decide +kernel⟩
def c_is_stopped : SmS := (sRet (cV (cAnd (cT (cBin gIsNot (cUn (gFld "stop") (cVar 0)) (cK .none))) (cT (cBin gGe (cBin gIx (cVar 1) (cK (.int 2))) (cUn (gFld "stop") (cVar 0)))))))
def f_is_stopped : List Dv → Option Dv := runF c_is_stopped 2 2
theorem t_is_stopped {P : Program} {w : World} {K : PySem.W.Frag} {mg : Str → Option Value} {base : Heap} {C : Cs K} {f : Addr} (T : Tx K mg C) (F : FdS K "is_stopped" "is_stopped" (top 20) f) :
    ∃ fd, Binds K fd ["wheel", "state"] [] ∧ FnW P w K mg base C8.CX0 1 f fd ["wheel", "state"] (spD K C f_is_stopped) :=
  fd_D F s_is_stopped (fun _ _ _ _ _ _ us hl => match us, hl with | [_, _], _ => rfl) fun cdv cm pn A outer s H E hw hr =>
    (is_one (is_ret (iv_and (i_cmp op_notN go_isNot (i_fld T.clsW T.n_stop (iv 0)) i_non (nomark _)) (iv_one (i_cmp op_ge go_ge (i_ix (iv 1) i_int) (i_fld T.clsW T.n_stop (iv 0)) (nomark _))))))
abbrev N_sees : List Str := ["wheel", "row", "picture", "written", "struck"]
theorem s_sees : FnScope N_sees ["wheel", "row", "picture"] (defScope (top 21)) := ⟨rfl, rfl, rfl, by decide +kernel, rfl, by decide +kernel, by decide +kernel⟩
def c_sees : SmS := (sSeq (sIf (cT (cBin gIs (cVar 1) (cK .none))) (sRet (cK (.bool false))) sNil)
  (sSeq (sUnp [3, 4] splT (cVar 1))
  (sSeq (sIf (cAnd (cT (cBin gIsNot (cVar 3) (cK .none))) (cNot (cT (cApp f_before (cCons (cVar 0) (cCons (cVar 3) (cCons (cVar 2) cNil))))))) (sRet (cK (.bool false))) sNil)
  (sRet (cV (cOr (cT (cBin gIs (cVar 4) (cK .none))) (cT (cV (cNot (cT (cApp f_before (cCons (cVar 0) (cCons (cVar 4) (cCons (cVar 2) cNil))))))))))))))
def f_sees : List Dv → Option Dv := runF c_sees 3 5
theorem t_sees {P : Program} {w : World} {K : PySem.W.Frag} {mg : Str → Option Value} {base : Heap} {C : Cs K} {f : Addr} (T : Tx K mg C) (F : FdS K "sees" "sees" (top 21) f) (D_before : Dfn P w K mg base C "before" 1 f_before) :
    ∃ fd, Binds K fd ["wheel", "row", "picture"] [] ∧ FnW P w K mg base C8.CX0 2 f fd ["wheel", "row", "picture"] (spD K C f_sees) :=
  fd_D F s_sees (fun _ _ _ _ _ _ us hl => match us, hl with | [_, _, _], _ => rfl) fun cdv cm pn A outer s H E hw hr =>
    (is_cons (is_if (it_cmp op_isN go_is (iv 1) i_non (nomark _)) (is_one (is_ret i_bl)) is_nil)
    (is_cons (is_unp (ig_tup hw (igs_cons (i := 3) s_sees.nd rfl (by first | exact .inl rfl | exact .inr rfl) (igs_cons (i := 4) s_sees.nd rfl (by first | exact .inl rfl | exact .inr rfl) igs_nil))) (iv 1))
    (is_cons (is_if (iw_and (it_cmp op_notN go_isNot (iv 3) i_non (nomark _)) (iw_and1 (it_not (it_val (i_call D_before hr hw (by rfl) (ia_cons (iv 0) (ia_cons (iv 3) (ia_cons (iv 2) ia_nil)))))))).pt (is_one (is_ret i_bl)) is_nil)
    (is_one (is_ret (iv_or (i_cmp op_isN go_is (iv 4) i_non (nomark _)) (iv_one (iv_not (i_call D_before hr hw (by rfl) (ia_cons (iv 0) (ia_cons (iv 4) (ia_cons (iv 2) ia_nil))))))))))))
abbrev N_is_there : List Str := ["row"]
theorem s_is_there : FnScope N_is_there ["row"] (defScope (top 22)) := ⟨rfl, rfl, rfl, by decide +kernel, rfl, by decide +kernel, by decide +kernel⟩
def c_is_there : SmS := (sRet (cV (cAnd (cT (cBin gIsNot (cVar 0) (cK .none))) (cT (cBin gIs (cBin gIx (cVar 0) (cK (.int 1))) (cK .none))))))
def f_is_there : List Dv → Option Dv := runF c_is_there 1 1
theorem t_is_there {P : Program} {w : World} {K : PySem.W.Frag} {mg : Str → Option Value} {base : Heap} {C : Cs K} {f : Addr} (T : Tx K mg C) (F : FdS K "is_there" "is_there" (top 22) f) :
    ∃ fd, Binds K fd ["row"] [] ∧ FnW P w K mg base C8.CX0 1 f fd ["row"] (spD K C f_is_there) :=
  fd_D F s_is_there (fun _ _ _ _ _ _ us hl => match us, hl with | [_], _ => rfl) fun cdv cm pn A outer s H E hw hr =>
    (is_one (is_ret (iv_and (i_cmp op_notN go_isNot (iv 0) i_non (nomark _)) (iv_one (i_cmp op_isN go_is (i_ix (iv 0) i_int) i_non (nomark _))))))
abbrev N_older : List Str := ["wheel", "age"]
theorem s_older : FnScope N_older ["wheel", "age"] (defScope (top 23)) := ⟨rfl, rfl, rfl, by decide +kernel, rfl, by decide +kernel, by decide +kernel⟩
def c_older : SmS := (sRet (cIf (cT (cBin gIs (cVar 1) (cK .none))) (cK .none) (cBin gMod (cBin gAdd (cVar 1) (cK (.int 1))) (cUn (gFld "size") (cVar 0)))))
def f_older : List Dv → Option Dv := runF c_older 2 2
theorem t_older {P : Program} {w : World} {K : PySem.W.Frag} {mg : Str → Option Value} {base : Heap} {C : Cs K} {f : Addr} (T : Tx K mg C) (F : FdS K "older" "older" (top 23) f) :
    ∃ fd, Binds K fd ["wheel", "age"] [] ∧ FnW P w K mg base C8.CX0 1 f fd ["wheel", "age"] (spD K C f_older) :=
  fd_D F s_older (fun _ _ _ _ _ _ us hl => match us, hl with | [_, _], _ => rfl) fun cdv cm pn A outer s H E hw hr =>
    (is_one (is_ret (i_if (it_cmp op_isN go_is (iv 1) i_non (nomark _)) i_non (i_op op_mod go_mod (i_op op_addA go_add (iv 1) i_int) (i_fld T.clsW T.n_size (iv 0))))))
abbrev N_numbered : List Str := ["wheel", "state", "row", "reader", "table"]
theorem s_numbered : FnScope N_numbered ["wheel", "state"] (defScope (top 24)) := ⟨rfl, rfl, rfl, by decide +kernel, rfl, by decide +kernel, by decide +kernel⟩
def c_numbered : SmS := (sSeq (sUnp [2, 3, 4] splT (cVar 1))
  (sSeq (sIf (cT (cBin gIsNot (cVar 2) (cK .none))) (sSet 2 (cApp gTup (cCons (cApp f_older (cCons (cVar 0) (cCons (cBin gIx (cVar 2) (cK (.int 0))) cNil))) (cCons (cApp f_older (cCons (cVar 0) (cCons (cBin gIx (cVar 2) (cK (.int 1))) cNil))) cNil)))) sNil)
  (sSeq (sIf (cT (cBin gIsNot (cVar 3) (cK .none))) (sSeq (sSet 3 (cApp gTup (cCons (cApp f_older (cCons (cVar 0) (cCons (cBin gIx (cVar 3) (cK (.int 0))) cNil))) (cCons (cBin gIx (cVar 3) (cK (.int 1))) cNil))))
  (sIf (cAnd (cT (cBin gIsNot (cUn (gFld "cut") (cVar 0)) (cK .none))) (cT (cBin gGe (cBin gIx (cVar 3) (cK (.int 0))) (cUn (gFld "cut") (cVar 0))))) (sSet 3 (cK .none)) sNil)) sNil)
  (sRet (cApp gTup (cCons (cVar 2) (cCons (cVar 3) (cCons (cApp gMin (cCons (cBin gAdd (cVar 4) (cK (.int 1))) (cCons (cUn (gFld "size") (cVar 0)) cNil))) cNil))))))))
def f_numbered : List Dv → Option Dv := runF c_numbered 2 5
theorem t_numbered {P : Program} {w : World} {K : PySem.W.Frag} {mg : Str → Option Value} {base : Heap} {C : Cs K} {f : Addr} (T : Tx K mg C) (F : FdS K "numbered" "numbered" (top 24) f) (D_older : Dfn P w K mg base C "older" 1 f_older) :
    ∃ fd, Binds K fd ["wheel", "state"] [] ∧ FnW P w K mg base C8.CX0 2 f fd ["wheel", "state"] (spD K C f_numbered) :=
  fd_D F s_numbered (fun _ _ _ _ _ _ us hl => match us, hl with | [_, _], _ => rfl) fun cdv cm pn A outer s H E hw hr =>
    (is_cons (is_unp (ig_tup hw (igs_cons (i := 2) s_numbered.nd rfl (by first | exact .inl rfl | exact .inr rfl) (igs_cons (i := 3) s_numbered.nd rfl (by first | exact .inl rfl | exact .inr rfl) (igs_cons (i := 4) s_numbered.nd rfl (by first | exact .inl rfl | exact .inr rfl) igs_nil)))) (iv 1))
    (is_cons (is_if (it_cmp op_notN go_isNot (iv 2) i_non (nomark _)) (is_one (is_set (i := 2) s_numbered.nd rfl (by first | exact .inl rfl | exact .inr rfl) (i_tup (ia_cons (i_call D_older hr hw (by rfl) (ia_cons (iv 0) (ia_cons (i_ix (iv 2) i_int) ia_nil))) (ia_cons (i_call D_older hr hw (by rfl) (ia_cons (iv 0) (ia_cons (i_ix (iv 2) i_int) ia_nil))) ia_nil))))) is_nil)
    (is_cons (is_if (it_cmp op_notN go_isNot (iv 3) i_non (nomark _)) (is_cons (is_set (i := 3) s_numbered.nd rfl (by first | exact .inl rfl | exact .inr rfl) (i_tup (ia_cons (i_call D_older hr hw (by rfl) (ia_cons (iv 0) (ia_cons (i_ix (iv 3) i_int) ia_nil))) (ia_cons (i_ix (iv 3) i_int) ia_nil))))
    (is_one (is_if (iw_and (it_cmp op_notN go_isNot (i_fld T.clsW T.n_cut (iv 0)) i_non (nomark _)) (iw_and1 (it_cmp op_ge go_ge (i_ix (iv 3) i_int) (i_fld T.clsW T.n_cut (iv 0)) (nomark _)))).pt (is_one (is_set (i := 3) s_numbered.nd rfl (by first | exact .inl rfl | exact .inr rfl) i_non)) is_nil))) is_nil)
    (is_one (is_ret (i_tup (ia_cons (iv 2) (ia_cons (iv 3) (ia_cons (i_callB (call_min2W hw) gl_min (by rfl) T.f_min b_min (ia_cons (i_op op_addA go_add (iv 4) i_int) (ia_cons (i_fld T.clsW T.n_size (iv 0)) ia_nil))) ia_nil)))))))))
abbrev N_is_held : List Str := ["wheel", "state"]
theorem s_is_held : FnScope N_is_held ["wheel", "state"] (defScope (top 25)) := ⟨rfl, rfl, rfl, by decide +kernel, rfl, by decide +kernel, by decide +kernel⟩
def c_is_held : SmS := (sRet (cV (cAnd (cT (cBin gIsNot (cBin gIx (cVar 1) (cK (.int 1))) (cK .none))) (cT (cBin gEq (cUn (gFld "hold") (cVar 0)) (cK (.str "yes")))))))
def f_is_held : List Dv → Option Dv := runF c_is_held 2 2
theorem t_is_held {P : Program} {w : World} {K : PySem.W.Frag} {mg : Str → Option Value} {base : Heap} {C : Cs K} {f : Addr} (T : Tx K mg C) (F : FdS K "is_held" "is_held" (top 25) f) :
    ∃ fd, Binds K fd ["wheel", "state"] [] ∧ FnW P w K mg base C8.CX0 1 f fd ["wheel", "state"] (spD K C f_is_held) :=
  fd_D F s_is_held (fun _ _ _ _ _ _ us hl => match us, hl with | [_, _], _ => rfl) fun cdv cm pn A outer s H E hw hr =>
    (is_one (is_ret (iv_and (i_cmp op_notN go_isNot (i_ix (iv 1) i_int) i_non (nomark _)) (iv_one (i_cmp (op_eqD (hu2_ofH hr)) go_eq (i_fld T.clsW T.n_hold (iv 0)) i_str (nomark _))))))
abbrev N_is_ripe : List Str := ["wheel", "state", "age"]
theorem s_is_ripe : FnScope N_is_ripe ["wheel", "state", "age"] (defScope (top 26)) := ⟨rfl, rfl, rfl, by decide +kernel, rfl, by decide +kernel, by decide +kernel⟩
def c_is_ripe : SmS := (sSeq (sIf (cOr (cT (cBin gIs (cVar 2) (cK .none))) (cNot (cT (cApp f_before (cCons (cVar 0) (cCons (cVar 2) (cCons (cK (.int 0)) cNil))))))) (sRet (cK (.bool false))) sNil)
  (sRet (cV (cOr (cT (cV (cNot (cT (cApp f_is_held (cCons (cVar 0) (cCons (cVar 1) cNil))))))) (cT (cApp f_before (cCons (cVar 0) (cCons (cVar 2) (cCons (cBin gIx (cBin gIx (cVar 1) (cK (.int 1))) (cK (.int 0))) cNil)))))))))
def f_is_ripe : List Dv → Option Dv := runF c_is_ripe 3 3
theorem t_is_ripe {P : Program} {w : World} {K : PySem.W.Frag} {mg : Str → Option Value} {base : Heap} {C : Cs K} {f : Addr} (T : Tx K mg C) (F : FdS K "is_ripe" "is_ripe" (top 26) f) (D_before : Dfn P w K mg base C "before" 1 f_before) (D_is_held : Dfn P w K mg base C "is_held" 1 f_is_held) :
    ∃ fd, Binds K fd ["wheel", "state", "age"] [] ∧ FnW P w K mg base C8.CX0 2 f fd ["wheel", "state", "age"] (spD K C f_is_ripe) :=
  fd_D F s_is_ripe (fun _ _ _ _ _ _ us hl => match us, hl with | [_, _, _], _ => rfl) fun cdv cm pn A outer s H E hw hr =>
    (is_cons (is_if (iw_or (it_cmp op_isN go_is (iv 2) i_non (nomark _)) (iw_or1 (it_not (it_val (i_call D_before hr hw (by rfl) (ia_cons (iv 0) (ia_cons (iv 2) (ia_cons i_int ia_nil)))))))).pt (is_one (is_ret i_bl)) is_nil)
    (is_one (is_ret (iv_or (iv_not (i_call D_is_held hr hw (by rfl) (ia_cons (iv 0) (ia_cons (iv 1) ia_nil)))) (iv_one (i_call D_before hr hw (by rfl) (ia_cons (iv 0) (ia_cons (iv 2) (ia_cons (i_ix (i_ix (iv 1) i_int) i_int) ia_nil)))))))))
abbrev N_passed : List Str := ["wheel", "state", "most", "late", "row", "reader", "table"]
theorem s_passed : FnScope N_passed ["wheel", "state"] (defScope (top 27)) := ⟨rfl, rfl, rfl, by decide +kernel, rfl, by decide +kernel, by decide +kernel⟩
def c_passed : SmS := (sSeq (sUnp [4, 5, 6] splT (cVar 1))
  (sSeq (sSet 2 (cIf (cT (cApp f_is_held (cCons (cVar 0) (cCons (cVar 1) cNil)))) (cApp gMax (cCons (cUn (gFld "freeze") (cVar 0)) (cCons (cBin gIx (cVar 5) (cK (.int 0))) cNil))) (cUn (gFld "freeze") (cVar 0))))
  (sSeq (sSet 3 (cVar 4))
  (sSeq (sIf (cT (cBin gIsNot (cVar 4) (cK .none))) (sIf (cT (cApp f_is_ripe (cCons (cVar 0) (cCons (cVar 1) (cCons (cBin gIx (cVar 4) (cK (.int 1))) cNil))))) (sSet 3 (cK .none)) (sIf (cAnd (cT (cApp f_is_ripe (cCons (cVar 0) (cCons (cVar 1) (cCons (cBin gIx (cVar 4) (cK (.int 0))) cNil))))) (cT (cBin gGe (cBin gIx (cVar 4) (cK (.int 0))) (cUn (gFld "freeze") (cVar 0))))) (sSet 3 (cApp gTup (cCons (cK .none) (cCons (cBin gIx (cVar 4) (cK (.int 1))) cNil)))) sNil)) sNil)
  (sRet (cApp gTup (cCons (cVar 3) (cCons (cVar 5) (cCons (cApp gMin (cCons (cVar 6) (cCons (cVar 2) cNil))) cNil)))))))))
def f_passed : List Dv → Option Dv := runF c_passed 2 7
theorem t_passed {P : Program} {w : World} {K : PySem.W.Frag} {mg : Str → Option Value} {base : Heap} {C : Cs K} {f : Addr} (T : Tx K mg C) (F : FdS K "passed" "passed" (top 27) f) (D_is_held : Dfn P w K mg base C "is_held" 1 f_is_held) (D_is_ripe : Dfn P w K mg base C "is_ripe" 2 f_is_ripe) :
    ∃ fd, Binds K fd ["wheel", "state"] [] ∧ FnW P w K mg base C8.CX0 3 f fd ["wheel", "state"] (spD K C f_passed) :=
  fd_D F s_passed (fun _ _ _ _ _ _ us hl => match us, hl with | [_, _], _ => rfl) fun cdv cm pn A outer s H E hw hr =>
    (is_cons (is_unp (ig_tup hw (igs_cons (i := 4) s_passed.nd rfl (by first | exact .inl rfl | exact .inr rfl) (igs_cons (i := 5) s_passed.nd rfl (by first | exact .inl rfl | exact .inr rfl) (igs_cons (i := 6) s_passed.nd rfl (by first | exact .inl rfl | exact .inr rfl) igs_nil)))) (iv 1))
    (is_cons (is_set (i := 2) s_passed.nd rfl (by first | exact .inl rfl | exact .inr rfl) (i_if (it_val (i_call D_is_held hr hw (by rfl) (ia_cons (iv 0) (ia_cons (iv 1) ia_nil)))) (i_callB (call_max2W hw) gl_max (by rfl) T.f_max b_max (ia_cons (i_fld T.clsW T.n_freeze (iv 0)) (ia_cons (i_ix (iv 5) i_int) ia_nil))) (i_fld T.clsW T.n_freeze (iv 0))))
    (is_cons (is_set (i := 3) s_passed.nd rfl (by first | exact .inl rfl | exact .inr rfl) (iv 4))
    (is_cons (is_if (it_cmp op_notN go_isNot (iv 4) i_non (nomark _)) (is_one (is_if (it_val (i_call D_is_ripe hr hw (by rfl) (ia_cons (iv 0) (ia_cons (iv 1) (ia_cons (i_ix (iv 4) i_int) ia_nil))))) (is_one (is_set (i := 3) s_passed.nd rfl (by first | exact .inl rfl | exact .inr rfl) i_non)) (is_one (is_if (iw_and (it_val (i_call D_is_ripe hr hw (by rfl) (ia_cons (iv 0) (ia_cons (iv 1) (ia_cons (i_ix (iv 4) i_int) ia_nil))))) (iw_and1 (it_cmp op_ge go_ge (i_ix (iv 4) i_int) (i_fld T.clsW T.n_freeze (iv 0)) (nomark _)))).pt (is_one (is_set (i := 3) s_passed.nd rfl (by first | exact .inl rfl | exact .inr rfl) (i_tup (ia_cons i_non (ia_cons (i_ix (iv 4) i_int) ia_nil))))) is_nil)))) is_nil)
    (is_one (is_ret (i_tup (ia_cons (iv 3) (ia_cons (iv 5) (ia_cons (i_callB (call_min2W hw) gl_min (by rfl) T.f_min b_min (ia_cons (iv 6) (ia_cons (iv 2) ia_nil))) ia_nil))))))))))
abbrev N_deeds_in : List Str := ["wheel", "state", "is_free", "can", "row", "reader", "table", "deed"]
theorem s_deeds_in : FnScope N_deeds_in ["wheel", "state"] (defScope (top 28)) := ⟨rfl, rfl, rfl, by decide +kernel, rfl, by decide +kernel, by decide +kernel⟩
def c_deeds_in : SmS := (sSeq (sUnp [4, 5, 6] splT (cVar 1))
  (sSeq (sSet 2 (cV (cNot (cT (cApp f_is_stopped (cCons (cVar 0) (cCons (cVar 1) cNil)))))))
  (sSeq (sDict 3 [("tick", (cVar 2)), ("write", (cV (cAnd (cT (cVar 2)) (cT (cBin gIs (cVar 4) (cK .none)))))), ("strike", (cV (cAnd (cT (cVar 2)) (cT (cApp f_is_there (cCons (cVar 4) cNil))))))])
  (sSeq (sDput 3 "open" (cBin gIs (cVar 5) (cK .none)))
  (sSeq (sDput 3 "close" (cBin gIsNot (cVar 5) (cK .none)))
  (sSeq (sDput 3 "pass" (cK (.bool true)))
  (sRet (cLc (jTup (cK d_DEEDS)) [7] spl1 [7] (cT (cDget 3 (cVar 7))) (cVar 7)))))))))
def f_deeds_in : List Dv → Option Dv := runF c_deeds_in 2 8
theorem t_deeds_in {P : Program} {w : World} {K : PySem.W.Frag} {mg : Str → Option Value} {base : Heap} {C : Cs K} {f : Addr} (T : Tx K mg C) (F : FdS K "deeds_in" "deeds_in" (top 28) f) (D_is_stopped : Dfn P w K mg base C "is_stopped" 1 f_is_stopped) (D_is_there : Dfn P w K mg base C "is_there" 1 f_is_there) :
    ∃ fd, Binds K fd ["wheel", "state"] [] ∧ FnW P w K mg base C8.CX0 2 f fd ["wheel", "state"] (spD K C f_deeds_in) :=
  fd_D F s_deeds_in (fun _ _ _ _ _ _ us hl => match us, hl with | [_, _], _ => rfl) fun cdv cm pn A outer s H E hw hr =>
    (is_cons (is_unp (ig_tup hw (igs_cons (i := 4) s_deeds_in.nd rfl (by first | exact .inl rfl | exact .inr rfl) (igs_cons (i := 5) s_deeds_in.nd rfl (by first | exact .inl rfl | exact .inr rfl) (igs_cons (i := 6) s_deeds_in.nd rfl (by first | exact .inl rfl | exact .inr rfl) igs_nil)))) (iv 1))
    (is_cons (is_set (i := 2) s_deeds_in.nd rfl (by first | exact .inl rfl | exact .inr rfl) (iv_not (i_call D_is_stopped hr hw (by rfl) (ia_cons (iv 0) (ia_cons (iv 1) ia_nil)))))
    (is_cons (is_dict (i := 3) (kcs := [("tick", (cVar 2)), ("write", (cV (cAnd (cT (cVar 2)) (cT (cBin gIs (cVar 4) (cK .none)))))), ("strike", (cV (cAnd (cT (cVar 2)) (cT (cApp f_is_there (cCons (cVar 4) cNil))))))]) s_deeds_in.nd rfl (by first | exact .inl rfl | exact .inr rfl) (pps_cons pe_str (iv 2) (pps_cons pe_str (iv_and (iv 2) (iv_one (i_cmp op_isN go_is (iv 4) i_non (nomark _)))) (pps_cons pe_str (iv_and (iv 2) (iv_one (i_call D_is_there hr hw (by rfl) (ia_cons (iv 4) ia_nil)))) pps_nil))))
    (is_cons (is_dput (i := 3) (hu1_ofH hr) rfl (by first | exact .inl rfl | exact .inr (.inl rfl)) (i_cmp op_isN go_is (iv 5) i_non (nomark _)))
    (is_cons (is_dput (i := 3) (hu1_ofH hr) rfl (by first | exact .inl rfl | exact .inr (.inl rfl)) (i_cmp op_notN go_isNot (iv 5) i_non (nomark _)))
    (is_cons (is_dput (i := 3) (hu1_ofH hr) rfl (by first | exact .inl rfl | exact .inr (.inl rfl)) i_bl)
    (is_one (is_ret (i_ofL cLc_list (i_lcL (own := [("deed", 7)]) hw s_deeds_in.nd (ij_tup (i_con T.k_DEEDS)) (blkOk_by (N := N_deeds_in) (sc := defScope (top 28)) (by decide +kernel)) (fun _ _ _ _ _ _ hw => (ig_name (i := 7) s_deeds_in.nd rfl (by first | exact .inl rfl | exact .inr rfl))) (fun _ _ _ _ _ _ hw => it_one (it_val (i_dget (i := 3) (hu1_ofH hr) rfl (by first | exact .inl rfl | exact .inr (.inl rfl) | exact .inr (.inr rfl)) (iv 7)))) (fun _ _ _ _ _ _ hw => (iv 7))))))))))))
abbrev N_done : List Str := ["wheel", "state", "deed", "row", "reader", "table"]
theorem s_done : FnScope N_done ["wheel", "state", "deed"] (defScope (top 29)) := ⟨rfl, rfl, rfl, by decide +kernel, rfl, by decide +kernel, by decide +kernel⟩
def c_done : SmS := (sSeq (sIf (cT (cBin gEq (cVar 2) (cK (.str "pass")))) (sRet (cApp f_passed (cCons (cVar 0) (cCons (cVar 1) cNil)))) sNil)
  (sSeq (sIf (cT (cBin gEq (cVar 2) (cK (.str "open")))) (sRet (cApp gTup (cCons (cBin gIx (cVar 1) (cK (.int 0))) (cCons (cApp gTup (cCons (cK (.int 0)) (cCons (cApp f_is_there (cCons (cBin gIx (cVar 1) (cK (.int 0))) cNil)) cNil))) (cCons (cBin gIx (cVar 1) (cK (.int 2))) cNil))))) sNil)
  (sSeq (sIf (cT (cBin gEq (cVar 2) (cK (.str "close")))) (sRet (cApp gTup (cCons (cBin gIx (cVar 1) (cK (.int 0))) (cCons (cK .none) (cCons (cBin gIx (cVar 1) (cK (.int 2))) cNil))))) sNil)
  (sSeq (sUnp [3, 4, 5] splT (cApp f_numbered (cCons (cVar 0) (cCons (cVar 1) cNil))))
  (sSeq (sIf (cT (cBin gEq (cVar 2) (cK (.str "write")))) (sSet 3 (cApp gTup (cCons (cK (.int 0)) (cCons (cK .none) cNil)))) (sIf (cT (cBin gEq (cVar 2) (cK (.str "strike")))) (sSet 3 (cApp gTup (cCons (cBin gIx (cVar 3) (cK (.int 0))) (cCons (cK (.int 0)) cNil)))) sNil))
  (sRet (cApp gTup (cCons (cVar 3) (cCons (cVar 4) (cCons (cVar 5) cNil))))))))))
def f_done : List Dv → Option Dv := runF c_done 3 6
theorem t_done {P : Program} {w : World} {K : PySem.W.Frag} {mg : Str → Option Value} {base : Heap} {C : Cs K} {f : Addr} (T : Tx K mg C) (F : FdS K "done" "done" (top 29) f) (D_passed : Dfn P w K mg base C "passed" 3 f_passed) (D_is_there : Dfn P w K mg base C "is_there" 1 f_is_there) (D_numbered : Dfn P w K mg base C "numbered" 2 f_numbered) :
    ∃ fd, Binds K fd ["wheel", "state", "deed"] [] ∧ FnW P w K mg base C8.CX0 4 f fd ["wheel", "state", "deed"] (spD K C f_done) :=
  fd_D F s_done (fun _ _ _ _ _ _ us hl => match us, hl with | [_, _, _], _ => rfl) fun cdv cm pn A outer s H E hw hr =>
    (is_cons (is_if (it_cmp (op_eqD (hu2_ofH hr)) go_eq (iv 2) i_str (nomark _)) (is_one (is_ret (i_call D_passed hr hw (by rfl) (ia_cons (iv 0) (ia_cons (iv 1) ia_nil))))) is_nil)
    (is_cons (is_if (it_cmp (op_eqD (hu2_ofH hr)) go_eq (iv 2) i_str (nomark _)) (is_one (is_ret (i_tup (ia_cons (i_ix (iv 1) i_int) (ia_cons (i_tup (ia_cons i_int (ia_cons (i_call D_is_there hr hw (by rfl) (ia_cons (i_ix (iv 1) i_int) ia_nil)) ia_nil))) (ia_cons (i_ix (iv 1) i_int) ia_nil)))))) is_nil)
    (is_cons (is_if (it_cmp (op_eqD (hu2_ofH hr)) go_eq (iv 2) i_str (nomark _)) (is_one (is_ret (i_tup (ia_cons (i_ix (iv 1) i_int) (ia_cons i_non (ia_cons (i_ix (iv 1) i_int) ia_nil)))))) is_nil)
    (is_cons (is_unp (ig_tup hw (igs_cons (i := 3) s_done.nd rfl (by first | exact .inl rfl | exact .inr rfl) (igs_cons (i := 4) s_done.nd rfl (by first | exact .inl rfl | exact .inr rfl) (igs_cons (i := 5) s_done.nd rfl (by first | exact .inl rfl | exact .inr rfl) igs_nil)))) (i_call D_numbered hr hw (by rfl) (ia_cons (iv 0) (ia_cons (iv 1) ia_nil))))
    (is_cons (is_if (it_cmp (op_eqD (hu2_ofH hr)) go_eq (iv 2) i_str (nomark _)) (is_one (is_set (i := 3) s_done.nd rfl (by first | exact .inl rfl | exact .inr rfl) (i_tup (ia_cons i_int (ia_cons i_non ia_nil))))) (is_one (is_if (it_cmp (op_eqD (hu2_ofH hr)) go_eq (iv 2) i_str (nomark _)) (is_one (is_set (i := 3) s_done.nd rfl (by first | exact .inl rfl | exact .inr rfl) (i_tup (ia_cons (i_ix (iv 3) i_int) (ia_cons i_int ia_nil))))) is_nil)))
    (is_one (is_ret (i_tup (ia_cons (iv 3) (ia_cons (iv 4) (ia_cons (iv 5) ia_nil)))))))))))
abbrev N_somebody : List Str := ["state", "found", "row", "reader", "table"]
theorem s_somebody : FnScope N_somebody ["state"] (defScope (top 32)) := ⟨rfl, rfl, rfl, by decide +kernel, rfl, by decide +kernel, by decide +kernel⟩
def c_somebody : SmS := (sSeq (sUnp [2, 3, 4] splT (cVar 0))
  (sSeq (sSet 1 (cApp gLst (cCons (cApp gTup (cCons (cApp f_is_there (cCons (cVar 2) cNil)) (cCons (cK (.int 0)) cNil))) cNil)))
  (sRet (cIf (cT (cBin gIs (cVar 3) (cK .none))) (cVar 1) (cBin gAdd (cVar 1) (cApp gLst (cCons (cApp gTup (cCons (cBin gIx (cVar 3) (cK (.int 1))) (cCons (cBin gIx (cVar 3) (cK (.int 0))) cNil))) cNil)))))))
def f_somebody : List Dv → Option Dv := runF c_somebody 1 5
theorem t_somebody {P : Program} {w : World} {K : PySem.W.Frag} {mg : Str → Option Value} {base : Heap} {C : Cs K} {f : Addr} (T : Tx K mg C) (F : FdS K "somebody" "somebody" (top 32) f) (D_is_there : Dfn P w K mg base C "is_there" 1 f_is_there) :
    ∃ fd, Binds K fd ["state"] [] ∧ FnW P w K mg base C8.CX0 2 f fd ["state"] (spD K C f_somebody) :=
  fd_D F s_somebody (fun _ _ _ _ _ _ us hl => match us, hl with | [_], _ => rfl) fun cdv cm pn A outer s H E hw hr =>
    (is_cons (is_unp (ig_tup hw (igs_cons (i := 2) s_somebody.nd rfl (by first | exact .inl rfl | exact .inr rfl) (igs_cons (i := 3) s_somebody.nd rfl (by first | exact .inl rfl | exact .inr rfl) (igs_cons (i := 4) s_somebody.nd rfl (by first | exact .inl rfl | exact .inr rfl) igs_nil)))) (iv 0))
    (is_cons (is_set (i := 1) s_somebody.nd rfl (by first | exact .inl rfl | exact .inr rfl) (i_lst (ia_cons (i_tup (ia_cons (i_call D_is_there hr hw (by rfl) (ia_cons (iv 2) ia_nil)) (ia_cons i_int ia_nil))) ia_nil)))
    (is_one (is_ret (i_if (it_cmp op_isN go_is (iv 3) i_non (nomark _)) (iv 1) (i_op op_addA go_add (iv 1) (i_lst (ia_cons (i_tup (ia_cons (i_ix (iv 3) i_int) (ia_cons (i_ix (iv 3) i_int) ia_nil))) ia_nil))))))))
abbrev N_stands_broken : List Str := ["wheel", "state", "wish", "rows", "is_due", "picture"]
theorem s_stands_broken : FnScope N_stands_broken ["wheel", "state", "wish"] (defScope (top 33)) := ⟨rfl, rfl, rfl, by decide +kernel, rfl, by decide +kernel, by decide +kernel⟩
def c_stands_broken : SmS := (sSeq (sIf (cT (cBin gEq (cVar 2) (cK (.str "stands")))) (sRet (cV (cAnd (cT (cApp f_is_stopped (cCons (cVar 0) (cCons (cVar 1) cNil)))) (cT (cApp f_is_stopped (cCons (cVar 0) (cCons (cApp f_passed (cCons (cVar 0) (cCons (cVar 1) cNil))) cNil))))))) sNil)
  (sSeq (sSet 3 (cLc (jList (cApp f_somebody (cCons (cVar 1) cNil))) [4, 5] splT [4, 5] (fun _ => some true) (cApp gTup (cCons (cVar 4) (cCons (cApp f_sees (cCons (cVar 0) (cCons (cBin gIx (cVar 1) (cK (.int 0))) (cCons (cVar 5) cNil)))) cNil)))))
  (sSeq (sIf (cT (cBin gEq (cVar 2) (cK (.str "ghost")))) (sRet (cBin gIn (cApp gTup (cCons (cK (.bool false)) (cCons (cK (.bool true)) cNil))) (cVar 3))) sNil)
  (sRet (cV (cAnd (cT (cBin gEq (cVar 2) (cK (.str "gone")))) (cT (cBin gIn (cApp gTup (cCons (cK (.bool true)) (cCons (cK (.bool false)) cNil))) (cVar 3)))))))))
def f_stands_broken : List Dv → Option Dv := runF c_stands_broken 3 6
theorem t_stands_broken {P : Program} {w : World} {K : PySem.W.Frag} {mg : Str → Option Value} {base : Heap} {C : Cs K} {f : Addr} (T : Tx K mg C) (F : FdS K "stands_broken" "stands_broken" (top 33) f) (D_is_stopped : Dfn P w K mg base C "is_stopped" 1 f_is_stopped) (D_passed : Dfn P w K mg base C "passed" 3 f_passed) (D_somebody : Dfn P w K mg base C "somebody" 2 f_somebody) (D_sees : Dfn P w K mg base C "sees" 2 f_sees) :
    ∃ fd, Binds K fd ["wheel", "state", "wish"] [] ∧ FnW P w K mg base C8.CX0 4 f fd ["wheel", "state", "wish"] (spD K C f_stands_broken) :=
  fd_D F s_stands_broken (fun _ _ _ _ _ _ us hl => match us, hl with | [_, _, _], _ => rfl) fun cdv cm pn A outer s H E hw hr =>
    (is_cons (is_if (it_cmp (op_eqD (hu2_ofH hr)) go_eq (iv 2) i_str (nomark _)) (is_one (is_ret (iv_and (i_call D_is_stopped hr hw (by rfl) (ia_cons (iv 0) (ia_cons (iv 1) ia_nil))) (iv_one (i_call D_is_stopped hr hw (by rfl) (ia_cons (iv 0) (ia_cons (i_call D_passed hr hw (by rfl) (ia_cons (iv 0) (ia_cons (iv 1) ia_nil))) ia_nil))))))) is_nil)
    (is_cons (is_setLc (i := 3) (own := [("is_due", 4), ("picture", 5)]) hw s_stands_broken.nd rfl rfl (sw_true rfl rfl rfl (by decide +kernel)) (ij_list (i_call D_somebody hr hw (by rfl) (ia_cons (iv 1) ia_nil))) (blkOk_by (N := N_stands_broken) (sc := defScope (top 33)) (by decide +kernel)) (fun _ _ _ _ _ _ hw => (ig_tup hw (igs_cons (i := 4) s_stands_broken.nd rfl (by first | exact .inl rfl | exact .inr rfl) (igs_cons (i := 5) s_stands_broken.nd rfl (by first | exact .inl rfl | exact .inr rfl) igs_nil)))) (fun _ _ _ _ _ _ hw => it_yes) (fun _ _ _ _ _ _ hw => (i_tup (ia_cons (iv 4) (ia_cons (i_call D_sees hr hw (by rfl) (ia_cons (iv 0) (ia_cons (i_ix (iv 1) i_int) (ia_cons (iv 5) ia_nil)))) ia_nil)))))
    (is_cons (is_if (it_cmp (op_eqD (hu2_ofH hr)) go_eq (iv 2) i_str (nomark _)) (is_one (is_ret (i_cmp (op_inA (hu_ofH hr)) go_in (i_tup (ia_cons i_bl (ia_cons i_bl ia_nil))) (iv 3) (by with_unfolding_all rfl)))) is_nil)
    (is_one (is_ret (iv_and (i_cmp (op_eqD (hu2_ofH hr)) go_eq (iv 2) i_str (nomark _)) (iv_one (i_cmp (op_inA (hu_ofH hr)) go_in (i_tup (ia_cons i_bl (ia_cons i_bl ia_nil))) (iv 3) (by with_unfolding_all rfl)))))))))
abbrev N_able : List Str := ["wheel", "states", "found", "word", "number", "state"]
theorem s_able : FnScope N_able ["wheel", "states"] (defScope (top 40)) := ⟨rfl, rfl, rfl, by decide +kernel, rfl, by decide +kernel, by decide +kernel⟩
def c_able : SmS := (sSeq (sSet 2 (cIf (cT (cBin gIn (cK (.str "tick")) (cApp f_deeds_in (cCons (cVar 0) (cCons (cBin gIx (cVar 1) (cK (.int 0))) cNil))))) (cApp gLst (cCons (cK (.str "tick")) cNil)) (cApp gLst cNil)))
  (sSeq (sFor (jTup (cK d_FOR_ONE)) [3] spl1 (sSet 2 (cBin gAdd (cVar 2) (cLc (jEn false (cVar 1)) [4, 5] splT [4, 5] (cT (cBin gIn (cVar 3) (cApp f_deeds_in (cCons (cVar 0) (cCons (cVar 5) cNil))))) (cApp gTup (cCons (cVar 3) (cCons (cVar 4) cNil)))))))
  (sRet (cBin gAdd (cVar 2) (cLc (jTup (cUn gTail (cK d_FOR_ALL))) [3] spl1 [3] (cT (cBin gIn (cVar 3) (cApp f_deeds_in (cCons (cVar 0) (cCons (cBin gIx (cVar 1) (cK (.int 0))) cNil))))) (cVar 3))))))
def f_able : List Dv → Option Dv := runF c_able 2 6
theorem no_able : ∀ ρ ρ' : En, c_able ρ ≠ some (.inl ρ') := noin_seq (noin_seq (noin_ret))
theorem t_able {P : Program} {w : World} {K : PySem.W.Frag} {mg : Str → Option Value} {base : Heap} {C : Cs K} {f : Addr} (T : Tx K mg C) (F : FdS K "able" "able" (top 40) f) (D_deeds_in : Dfn P w K mg base C "deeds_in" 2 f_deeds_in) :
    ∃ fd, Binds K fd ["wheel", "states"] [] ∧ FnW P w K mg base C8.CX0 3 f fd ["wheel", "states"] (spL K C f_able) :=
  fd_L F s_able (fun _ _ _ _ _ _ us hl => match us, hl with | [_, _], _ => rfl) (no_able) fun cdv cm pn A outer s H E hw hr =>
    (is_cons (is_set (i := 2) s_able.nd rfl (by first | exact .inl rfl | exact .inr rfl) (i_if (it_cmp (op_inA (hu_ofH hr)) go_in i_str (i_call D_deeds_in hr hw (by rfl) (ia_cons (iv 0) (ia_cons (i_ix (iv 1) i_int) ia_nil))) (by with_unfolding_all rfl)) (i_lst (ia_cons i_str ia_nil)) (i_lst ia_nil)))
    (is_cons (is_for PassesOwn.never hw (ij_tup (i_con T.k_FOR_ONE)) (ig_name (i := 3) s_able.nd rfl (by first | exact .inl rfl | exact .inr rfl)) (is_one (is_set (i := 2) s_able.nd rfl (by first | exact .inl rfl | exact .inr rfl) (i_op op_addA go_add (iv 2) (i_ofL cLc_list (i_lcL (own := [("number", 4), ("state", 5)]) hw s_able.nd (ij_en false (by rfl) T.f_enumerate (iv 1)) (blkOk_by (N := N_able) (sc := defScope (top 40)) (by decide +kernel)) (fun _ _ _ _ _ _ hw => (ig_tup hw (igs_cons (i := 4) s_able.nd rfl (by first | exact .inl rfl | exact .inr rfl) (igs_cons (i := 5) s_able.nd rfl (by first | exact .inl rfl | exact .inr rfl) igs_nil)))) (fun _ _ _ _ _ _ hw => it_one (it_cmp (op_inA (hu_ofH hr)) go_in (iv 3) (i_call D_deeds_in hr hw (by rfl) (ia_cons (iv 0) (ia_cons (iv 5) ia_nil))) (by with_unfolding_all rfl))) (fun _ _ _ _ _ _ hw => (i_tup (ia_cons (iv 3) (ia_cons (iv 4) ia_nil))))))))))
    (is_one (is_retL (i_catL (iv 2) (i_ofL cLc_list (i_lcL (own := [("word", 3)]) hw s_able.nd (ij_tup (i_tail (i_con T.k_FOR_ALL))) (blkOk_by (N := N_able) (sc := defScope (top 40)) (by decide +kernel)) (fun _ _ _ _ _ _ hw => (ig_name (i := 3) s_able.nd rfl (by first | exact .inl rfl | exact .inr rfl))) (fun _ _ _ _ _ _ hw => it_one (it_cmp (op_inA (hu_ofH hr)) go_in (iv 3) (i_call D_deeds_in hr hw (by rfl) (ia_cons (iv 0) (ia_cons (i_ix (iv 1) i_int) ia_nil))) (by with_unfolding_all rfl))) (fun _ _ _ _ _ _ hw => (iv 3)))))))))
abbrev N_can_do : List Str := ["wheel", "states", "deed"]
theorem s_can_do : FnScope N_can_do ["wheel", "states", "deed"] (defScope (top 41)) := ⟨rfl, rfl, rfl, by decide +kernel, rfl, by decide +kernel, by decide +kernel⟩
def c_can_do : SmS := (sSeq (sIf (cT (cUn (gIsi "str") (cVar 2))) (sRet (cV (cAnd (cT (cBin gIn (cVar 2) (cK d_FOR_ALL))) (cT (cBin gIn (cVar 2) (cApp (lst f_able) (cCons (cVar 0) (cCons (cVar 1) cNil)))))))) sNil)
  (sSeq (sIf (cOr (cNot (cT (cUn (gIsi "tuple") (cVar 2)))) (cOr (cT (cBin gNe (cApp gLen (cCons (cVar 2) cNil)) (cK (.int 2)))) (cNot (cT (cUn (gIsi "str") (cBin gIx (cVar 2) (cK (.int 0)))))))) (sRet (cK (.bool false))) sNil)
  (sRet (cV (cAnd (cT (cApp f_is_whole (cCons (cBin gIx (cVar 2) (cK (.int 1))) (cCons (cK (.int 0)) (cCons (cBin gSub (cApp gLen (cCons (cVar 1) cNil)) (cK (.int 1))) cNil))))) (cT (cBin gIn (cVar 2) (cApp (lst f_able) (cCons (cVar 0) (cCons (cVar 1) cNil))))))))))
def f_can_do : List Dv → Option Dv := runF c_can_do 3 3
theorem t_can_do {P : Program} {w : World} {K : PySem.W.Frag} {mg : Str → Option Value} {base : Heap} {C : Cs K} {f : Addr} (T : Tx K mg C) (F : FdS K "can_do" "can_do" (top 41) f) (D_able : DfL P w K mg base C "able" 3 f_able) (D_is_whole : Dfn P w K mg base C "is_whole" 1 f_is_whole) :
    ∃ fd, Binds K fd ["wheel", "states", "deed"] [] ∧ FnW P w K mg base C8.CX0 4 f fd ["wheel", "states", "deed"] (spD K C f_can_do) :=
  fd_D F s_can_do (fun _ _ _ _ _ _ us hl => match us, hl with | [_, _, _], _ => rfl) fun cdv cm pn A outer s H E hw hr =>
    (is_cons (is_if (it_val (i_isi (iv 2) (by rfl) T.f_isinstance b_isinstance (by rfl) T.f_str b_str)) (is_one (is_ret (iv_and (i_cmp (op_inA (hu_ofH hr)) go_in (iv 2) (i_con T.k_FOR_ALL) (by with_unfolding_all rfl)) (iv_one (i_cmp (op_inA (hu_ofH hr)) go_in (iv 2) (i_call D_able.d hr hw (by rfl) (ia_cons (iv 0) (ia_cons (iv 1) ia_nil))) (by with_unfolding_all rfl)))))) is_nil)
    (is_cons (is_if (iw_or (it_not (it_val (i_isi (iv 2) (by rfl) T.f_isinstance b_isinstance (by rfl) T.f_tuple b_tuple))) (iw_or (it_cmp (op_neD (hu2_ofH hr)) go_ne (i_callB (call_len_seq) gl_len (by rfl) T.f_len b_len (ia_cons (iv 2) ia_nil)) i_int (nomark _)) (iw_or1 (it_not (it_val (i_isi (i_ix (iv 2) i_int) (by rfl) T.f_isinstance b_isinstance (by rfl) T.f_str b_str)))))).pt (is_one (is_ret i_bl)) is_nil)
    (is_one (is_ret (iv_and (i_call D_is_whole hr hw (by rfl) (ia_cons (i_ix (iv 2) i_int) (ia_cons i_int (ia_cons (i_op op_sub go_sub (i_callB (call_len_seq) gl_len (by rfl) T.f_len b_len (ia_cons (iv 1) ia_nil)) i_int) ia_nil)))) (iv_one (i_cmp (op_inA (hu_ofH hr)) go_in (iv 2) (i_call D_able.d hr hw (by rfl) (ia_cons (iv 0) (ia_cons (iv 1) ia_nil))) (by with_unfolding_all rfl))))))))
abbrev N_all_behind : List Str := ["wheel", "states", "deed", "late", "number", "state"]
theorem s_all_behind : FnScope N_all_behind ["wheel", "states", "deed"] (defScope (top 42)) := ⟨rfl, rfl, rfl, by decide +kernel, rfl, by decide +kernel, by decide +kernel⟩
def c_all_behind : SmS := (sSeq (sIf (cT (cUn (gIsi "str") (cVar 2))) (sRet (cApp gTupOf (cCons (cLc (jTup (cVar 1)) [5] spl1 [5] (fun _ => some true) (cApp f_done (cCons (cVar 0) (cCons (cVar 5) (cCons (cVar 2) cNil))))) cNil))) sNil)
  (sSeq (sOwn 3 cNil)
  (sSeq (sFor (jEn false (cVar 1)) [4, 5] splT (sApp 3 (cApp f_done (cCons (cVar 0) (cCons (cVar 5) (cCons (cIf (cT (cBin gEq (cVar 4) (cBin gIx (cVar 2) (cK (.int 1))))) (cBin gIx (cVar 2) (cK (.int 0))) (cK (.str "tick"))) cNil))))))
  (sFrz 3 (sRet (cApp gTupOf (cCons (cVar 3) cNil)))))))
def f_all_behind : List Dv → Option Dv := runF c_all_behind 3 6
theorem t_all_behind {P : Program} {w : World} {K : PySem.W.Frag} {mg : Str → Option Value} {base : Heap} {C : Cs K} {f : Addr} (T : Tx K mg C) (F : FdS K "all_behind" "all_behind" (top 42) f) (D_done : Dfn P w K mg base C "done" 4 f_done) :
    ∃ fd, Binds K fd ["wheel", "states", "deed"] [] ∧ FnW P w K mg base C8.CX0 5 f fd ["wheel", "states", "deed"] (spD K C f_all_behind) :=
  fd_D F s_all_behind (fun _ _ _ _ _ _ us hl => match us, hl with | [_, _, _], _ => rfl) fun cdv cm pn A outer s H E hw hr =>
    (is_cons (is_if (it_val (i_isi (iv 2) (by rfl) T.f_isinstance b_isinstance (by rfl) T.f_str b_str)) (is_one (is_ret (i_callTy (call_tuple_of) gl_tup (by rfl) T.f_tuple b_tuple (ia_cons (i_ofL cLc_list (i_lcL (own := [("state", 5)]) hw s_all_behind.nd (ij_tup (iv 1)) (blkOk_by (N := N_all_behind) (sc := defScope (top 42)) (by decide +kernel)) (fun _ _ _ _ _ _ hw => (ig_name (i := 5) s_all_behind.nd rfl (by first | exact .inl rfl | exact .inr rfl))) (fun _ _ _ _ _ _ hw => it_yes) (fun _ _ _ _ _ _ hw => (i_call D_done hr hw (by rfl) (ia_cons (iv 0) (ia_cons (iv 5) (ia_cons (iv 2) ia_nil))))))) ia_nil)))) is_nil)
    (is_cons (is_own (i := 3) s_all_behind.nd rfl (by first | exact .inl rfl | exact .inr rfl) ia_nil)
    (is_cons (is_for PassesOwn.never hw (ij_en false (by rfl) T.f_enumerate (iv 1)) (ig_tup hw (igs_cons (i := 4) s_all_behind.nd rfl (by first | exact .inl rfl | exact .inr rfl) (igs_cons (i := 5) s_all_behind.nd rfl (by first | exact .inl rfl | exact .inr rfl) igs_nil))) (is_one (is_app (i := 3) rfl (by first | exact .inl rfl | exact .inr (.inl rfl)) (i_call D_done hr hw (by rfl) (ia_cons (iv 0) (ia_cons (iv 5) (ia_cons (i_if (it_cmp (op_eqD (hu2_ofH hr)) go_eq (iv 4) (i_ix (iv 2) i_int) (nomark _)) (i_ix (iv 2) i_int) i_str) ia_nil)))))))
    (is_one (is_frz (is_ret (i_callTy (call_tuple_of) gl_tup (by rfl) T.f_tuple b_tuple (ia_cons (iv 3) ia_nil))))))))
end LNp
set_option maxHeartbeats 4000000
namespace LNp
open PySem PySem.Spec PyProof.Rows L2 L2H LNb LNi LNt
abbrev N_now : List Str := ["self"]
theorem s_now : FnScope N_now ["self"] (defScope (met 38 1)) := ⟨rfl, rfl, rfl, by decide +kernel, rfl, by decide +kernel, by decide +kernel⟩
def c_now : SmS := (sRet (cApp gList (cCons (cBin gIx (cUn gKept (cVar 0)) (cK (.int 0))) cNil)))
def f_now : List Dv → Option Dv := runF c_now 1 1
theorem no_now : ∀ ρ ρ' : En, c_now ρ ≠ some (.inl ρ') := noin_ret
theorem t_now {P : Program} {w : World} {K : PySem.W.Frag} {mg : Str → Option Value} {base : Heap} {C : Cs K} {f : Addr} (T : Tx K mg C) (F : FdS K "now" "LiveTable.now" (met 38 1) f) :
    ∃ fd, Binds K fd ["self"] [] ∧ FnW P w K mg base C8.CX0 1 f fd ["self"] (spL K C f_now) :=
  fd_L F s_now (fun _ _ _ _ _ _ us hl => match us, hl with | [_], _ => rfl) (no_now) fun cdv cm pn A outer s H E hw hr =>
    (is_one (is_retL (i_listOfL (by rfl) T.f_list b_list (ia_cons (i_ix (i_kept T.clsT T.n_kept (iv 0)) i_int) ia_nil))))
abbrev N_journal : List Str := ["self"]
theorem s_journal : FnScope N_journal ["self"] (defScope (met 38 2)) := ⟨rfl, rfl, rfl, by decide +kernel, rfl, by decide +kernel, by decide +kernel⟩
def c_journal : SmS := (sRet (cApp gList (cCons (cBin gIx (cUn gKept (cVar 0)) (cK (.int 1))) cNil)))
def f_journal : List Dv → Option Dv := runF c_journal 1 1
theorem no_journal : ∀ ρ ρ' : En, c_journal ρ ≠ some (.inl ρ') := noin_ret
theorem t_journal {P : Program} {w : World} {K : PySem.W.Frag} {mg : Str → Option Value} {base : Heap} {C : Cs K} {f : Addr} (T : Tx K mg C) (F : FdS K "journal" "LiveTable.journal" (met 38 2) f) :
    ∃ fd, Binds K fd ["self"] [] ∧ FnW P w K mg base C8.CX0 1 f fd ["self"] (spL K C f_journal) :=
  fd_L F s_journal (fun _ _ _ _ _ _ us hl => match us, hl with | [_], _ => rfl) (no_journal) fun cdv cm pn A outer s H E hw hr =>
    (is_one (is_retL (i_listOfL (by rfl) T.f_list b_list (ia_cons (i_ix (i_kept T.clsT T.n_kept (iv 0)) i_int) ia_nil))))
abbrev N_len : List Str := ["self"]
theorem s_len : FnScope N_len ["self"] (defScope (met 38 3)) := ⟨rfl, rfl, rfl, by decide +kernel, rfl, by decide +kernel, by decide +kernel⟩
def c_len : SmS := (sRet (cApp gLen (cCons (cBin gIx (cUn gKept (cVar 0)) (cK (.int 1))) cNil)))
def f_len : List Dv → Option Dv := runF c_len 1 1
theorem t_len {P : Program} {w : World} {K : PySem.W.Frag} {mg : Str → Option Value} {base : Heap} {C : Cs K} {f : Addr} (T : Tx K mg C) (F : FdS K "__len__" "LiveTable.__len__" (met 38 3) f) :
    ∃ fd, Binds K fd ["self"] [] ∧ FnW P w K mg base C8.CX0 1 f fd ["self"] (spD K C f_len) :=
  fd_D F s_len (fun _ _ _ _ _ _ us hl => match us, hl with | [_], _ => rfl) fun cdv cm pn A outer s H E hw hr =>
    (is_one (is_ret (i_callB (call_len_seq) gl_len (by rfl) T.f_len b_len (ia_cons (i_ix (i_kept T.clsT T.n_kept (iv 0)) i_int) ia_nil))))
abbrev N_can : List Str := ["self"]
theorem s_can : FnScope N_can ["self"] (defScope (met 38 4)) := ⟨rfl, rfl, rfl, by decide +kernel, rfl, by decide +kernel, by decide +kernel⟩
def c_can : SmS := (sRet (cApp f_able (cCons (cUn gBase (cVar 0)) (cCons (cBin gIx (cUn gKept (cVar 0)) (cK (.int 0))) cNil))))
def f_can : List Dv → Option Dv := runF c_can 1 1
theorem no_can : ∀ ρ ρ' : En, c_can ρ ≠ some (.inl ρ') := noin_ret
theorem t_can {P : Program} {w : World} {K : PySem.W.Frag} {mg : Str → Option Value} {base : Heap} {C : Cs K} {f : Addr} (T : Tx K mg C) (F : FdS K "can" "LiveTable.can" (met 38 4) f) (D_able : DfL P w K mg base C "able" 3 f_able) :
    ∃ fd, Binds K fd ["self"] [] ∧ FnW P w K mg base C8.CX0 4 f fd ["self"] (spL K C f_can) :=
  fd_L F s_can (fun _ _ _ _ _ _ us hl => match us, hl with | [_], _ => rfl) (no_can) fun cdv cm pn A outer s H E hw hr =>
    (is_one (is_retL (i_callL D_able hr hw (by rfl) (ia_cons (i_base T.clsT T.n_base (iv 0)) (ia_cons (i_ix (i_kept T.clsT T.n_kept (iv 0)) i_int) ia_nil)))))
abbrev N_seen : List Str := ["self", "number", "state"]
theorem s_seen : FnScope N_seen ["self"] (defScope (met 38 6)) := ⟨rfl, rfl, rfl, by decide +kernel, rfl, by decide +kernel, by decide +kernel⟩
def c_seen : SmS := (sRet (cLc (jEn false (cBin gIx (cUn gKept (cVar 0)) (cK (.int 0)))) [1, 2] splT [1, 2] (cT (cApp f_sees (cCons (cUn gBase (cVar 0)) (cCons (cBin gIx (cVar 2) (cK (.int 0))) (cCons (cK (.int 0)) cNil))))) (cVar 1)))
def f_seen : List Dv → Option Dv := runF c_seen 1 3
theorem t_seen {P : Program} {w : World} {K : PySem.W.Frag} {mg : Str → Option Value} {base : Heap} {C : Cs K} {f : Addr} (T : Tx K mg C) (F : FdS K "seen" "LiveTable.seen" (met 38 6) f) (D_sees : Dfn P w K mg base C "sees" 2 f_sees) :
    ∃ fd, Binds K fd ["self"] [] ∧ FnW P w K mg base C8.CX0 3 f fd ["self"] (spD K C f_seen) :=
  fd_D F s_seen (fun _ _ _ _ _ _ us hl => match us, hl with | [_], _ => rfl) fun cdv cm pn A outer s H E hw hr =>
    (is_one (is_ret (i_ofL cLc_list (i_lcL (own := [("number", 1), ("state", 2)]) hw s_seen.nd (ij_en false (by rfl) T.f_enumerate (i_ix (i_kept T.clsT T.n_kept (iv 0)) i_int)) (blkOk_by (N := N_seen) (sc := defScope (met 38 6)) (by decide +kernel)) (fun _ _ _ _ _ _ hw => (ig_tup hw (igs_cons (i := 1) s_seen.nd rfl (by first | exact .inl rfl | exact .inr rfl) (igs_cons (i := 2) s_seen.nd rfl (by first | exact .inl rfl | exact .inr rfl) igs_nil)))) (fun _ _ _ _ _ _ hw => it_one (it_val (i_call D_sees hr hw (by rfl) (ia_cons (i_base T.clsT T.n_base (iv 0)) (ia_cons (i_ix (iv 2) i_int) (ia_cons i_int ia_nil)))))) (fun _ _ _ _ _ _ hw => (iv 1))))))
abbrev N_read : List Str := ["self", "states", "age", "number", "state"]
theorem s_read : FnScope N_read ["self"] (defScope (met 38 7)) := ⟨rfl, rfl, rfl, by decide +kernel, rfl, by decide +kernel, by decide +kernel⟩
def c_read : SmS := (sSeq (sSet 1 (cBin gIx (cUn gKept (cVar 0)) (cK (.int 0))))
  (sSeq (sIf (cT (cBin gIs (cBin gIx (cBin gIx (cVar 1) (cK (.int 0))) (cK (.int 1))) (cK .none))) (sRet (cK .none)) sNil)
  (sSeq (sSet 2 (cBin gIx (cBin gIx (cBin gIx (cVar 1) (cK (.int 0))) (cK (.int 1))) (cK (.int 0))))
  (sRet (cLc (jEn false (cVar 1)) [3, 4] splT [3, 4] (cT (cApp f_sees (cCons (cUn gBase (cVar 0)) (cCons (cBin gIx (cVar 4) (cK (.int 0))) (cCons (cVar 2) cNil))))) (cVar 3))))))
def f_read : List Dv → Option Dv := runF c_read 1 5
theorem t_read {P : Program} {w : World} {K : PySem.W.Frag} {mg : Str → Option Value} {base : Heap} {C : Cs K} {f : Addr} (T : Tx K mg C) (F : FdS K "read" "LiveTable.read" (met 38 7) f) (D_sees : Dfn P w K mg base C "sees" 2 f_sees) :
    ∃ fd, Binds K fd ["self"] [] ∧ FnW P w K mg base C8.CX0 3 f fd ["self"] (spD K C f_read) :=
  fd_D F s_read (fun _ _ _ _ _ _ us hl => match us, hl with | [_], _ => rfl) fun cdv cm pn A outer s H E hw hr =>
    (is_cons (is_set (i := 1) s_read.nd rfl (by first | exact .inl rfl | exact .inr rfl) (i_ix (i_kept T.clsT T.n_kept (iv 0)) i_int))
    (is_cons (is_if (it_cmp op_isN go_is (i_ix (i_ix (iv 1) i_int) i_int) i_non (nomark _)) (is_one (is_ret i_non)) is_nil)
    (is_cons (is_set (i := 2) s_read.nd rfl (by first | exact .inl rfl | exact .inr rfl) (i_ix (i_ix (i_ix (iv 1) i_int) i_int) i_int))
    (is_one (is_ret (i_ofL cLc_list (i_lcL (own := [("number", 3), ("state", 4)]) hw s_read.nd (ij_en false (by rfl) T.f_enumerate (iv 1)) (blkOk_by (N := N_read) (sc := defScope (met 38 7)) (by decide +kernel)) (fun _ _ _ _ _ _ hw => (ig_tup hw (igs_cons (i := 3) s_read.nd rfl (by first | exact .inl rfl | exact .inr rfl) (igs_cons (i := 4) s_read.nd rfl (by first | exact .inl rfl | exact .inr rfl) igs_nil)))) (fun _ _ _ _ _ _ hw => it_one (it_val (i_call D_sees hr hw (by rfl) (ia_cons (i_base T.clsT T.n_base (iv 0)) (ia_cons (i_ix (iv 4) i_int) (ia_cons (iv 2) ia_nil)))))) (fun _ _ _ _ _ _ hw => (iv 3)))))))))
abbrev N_broken : List Str := ["self", "found", "number", "state", "wish"]
theorem s_broken : FnScope N_broken ["self"] (defScope (met 38 8)) := ⟨rfl, rfl, rfl, by decide +kernel, rfl, by decide +kernel, by decide +kernel⟩
def c_broken : SmS := (sSeq (sSet 1 (cApp gLst cNil))
  (sSeq (sFor (jEn false (cBin gIx (cUn gKept (cVar 0)) (cK (.int 0)))) [2, 3] splT (sSet 1 (cBin gAdd (cVar 1) (cLc (jTup (cK d_WISHES)) [4] spl1 [4] (cT (cApp f_stands_broken (cCons (cUn gBase (cVar 0)) (cCons (cVar 3) (cCons (cVar 4) cNil))))) (cApp gTup (cCons (cVar 2) (cCons (cVar 4) cNil)))))))
  (sRet (cVar 1))))
def f_broken : List Dv → Option Dv := runF c_broken 1 5
theorem t_broken {P : Program} {w : World} {K : PySem.W.Frag} {mg : Str → Option Value} {base : Heap} {C : Cs K} {f : Addr} (T : Tx K mg C) (F : FdS K "broken" "LiveTable.broken" (met 38 8) f) (D_stands_broken : Dfn P w K mg base C "stands_broken" 4 f_stands_broken) :
    ∃ fd, Binds K fd ["self"] [] ∧ FnW P w K mg base C8.CX0 5 f fd ["self"] (spD K C f_broken) :=
  fd_D F s_broken (fun _ _ _ _ _ _ us hl => match us, hl with | [_], _ => rfl) fun cdv cm pn A outer s H E hw hr =>
    (is_cons (is_set (i := 1) s_broken.nd rfl (by first | exact .inl rfl | exact .inr rfl) (i_lst ia_nil))
    (is_cons (is_for PassesOwn.never hw (ij_en false (by rfl) T.f_enumerate (i_ix (i_kept T.clsT T.n_kept (iv 0)) i_int)) (ig_tup hw (igs_cons (i := 2) s_broken.nd rfl (by first | exact .inl rfl | exact .inr rfl) (igs_cons (i := 3) s_broken.nd rfl (by first | exact .inl rfl | exact .inr rfl) igs_nil))) (is_one (is_set (i := 1) s_broken.nd rfl (by first | exact .inl rfl | exact .inr rfl) (i_op op_addA go_add (iv 1) (i_ofL cLc_list (i_lcL (own := [("wish", 4)]) hw s_broken.nd (ij_tup (i_con T.k_WISHES)) (blkOk_by (N := N_broken) (sc := defScope (met 38 8)) (by decide +kernel)) (fun _ _ _ _ _ _ hw => (ig_name (i := 4) s_broken.nd rfl (by first | exact .inl rfl | exact .inr rfl))) (fun _ _ _ _ _ _ hw => it_one (it_val (i_call D_stands_broken hr hw (by rfl) (ia_cons (i_base T.clsT T.n_base (iv 0)) (ia_cons (iv 3) (ia_cons (iv 4) ia_nil)))))) (fun _ _ _ _ _ _ hw => (i_tup (ia_cons (iv 2) (ia_cons (iv 4) ia_nil))))))))))
    (is_one (is_ret (iv 1)))))
abbrev N_l_is_ahead : List Str := ["_law_parts_here", "_law_age", "_law_picture"]
theorem s_l_is_ahead : FnScope N_l_is_ahead ["_law_parts_here", "_law_age", "_law_picture"] (defScope (top 50)) := ⟨rfl, rfl, rfl, by decide +kernel, rfl, by decide +kernel, by decide +kernel⟩
def c_l_is_ahead : SmS := (sRet (cBin gLt (cBin gMod (cBin gSub (cVar 1) (cVar 2)) (cBin gIx (cVar 0) (cK (.int 0)))) (cBin gDiv (cBin gIx (cVar 0) (cK (.int 0))) (cK (.int 2)))))
def f_l_is_ahead : List Dv → Option Dv := runF c_l_is_ahead 3 3
theorem t_l_is_ahead {P : Program} {w : World} {K : PySem.W.Frag} {mg : Str → Option Value} {base : Heap} {C : Cs K} {f : Addr} (T : Tx K mg C) (F : FdS K "_law_is_ahead" "_law_is_ahead" (top 50) f) :
    ∃ fd, Binds K fd ["_law_parts_here", "_law_age", "_law_picture"] [] ∧ FnW P w K mg base C8.CX0 1 f fd ["_law_parts_here", "_law_age", "_law_picture"] (spD K C f_l_is_ahead) :=
  fd_D F s_l_is_ahead (fun _ _ _ _ _ _ us hl => match us, hl with | [_, _, _], _ => rfl) fun cdv cm pn A outer s H E hw hr =>
    (is_one (is_ret (i_cmp op_lt go_lt (i_op op_mod go_mod (i_op op_sub go_sub (iv 1) (iv 2)) (i_ix (iv 0) i_int)) (i_op op_fdiv go_div (i_ix (iv 0) i_int) i_int) (nomark _))))
abbrev N_l_sees : List Str := ["_law_parts_here", "_law_row", "_law_picture"]
theorem s_l_sees : FnScope N_l_sees ["_law_parts_here", "_law_row", "_law_picture"] (defScope (top 51)) := ⟨rfl, rfl, rfl, by decide +kernel, rfl, by decide +kernel, by decide +kernel⟩
def c_l_sees : SmS := (sSeq (sIf (cOr (cT (cBin gIs (cVar 1) (cK .none))) (cAnd (cT (cBin gIsNot (cBin gIx (cVar 1) (cK (.int 0))) (cK .none))) (cNot (cT (cApp f_l_is_ahead (cCons (cVar 0) (cCons (cBin gIx (cVar 1) (cK (.int 0))) (cCons (cVar 2) cNil)))))))) (sRet (cK (.bool false))) sNil)
  (sRet (cV (cOr (cT (cBin gIs (cBin gIx (cVar 1) (cK (.int 1))) (cK .none))) (cT (cV (cNot (cT (cApp f_l_is_ahead (cCons (cVar 0) (cCons (cBin gIx (cVar 1) (cK (.int 1))) (cCons (cVar 2) cNil))))))))))))
def f_l_sees : List Dv → Option Dv := runF c_l_sees 3 3
theorem t_l_sees {P : Program} {w : World} {K : PySem.W.Frag} {mg : Str → Option Value} {base : Heap} {C : Cs K} {f : Addr} (T : Tx K mg C) (F : FdS K "_law_sees" "_law_sees" (top 51) f) (D_l_is_ahead : Dfn P w K mg base C "_law_is_ahead" 1 f_l_is_ahead) :
    ∃ fd, Binds K fd ["_law_parts_here", "_law_row", "_law_picture"] [] ∧ FnW P w K mg base C8.CX0 2 f fd ["_law_parts_here", "_law_row", "_law_picture"] (spD K C f_l_sees) :=
  fd_D F s_l_sees (fun _ _ _ _ _ _ us hl => match us, hl with | [_, _, _], _ => rfl) fun cdv cm pn A outer s H E hw hr =>
    (is_cons (is_if (iw_or (it_cmp op_isN go_is (iv 1) i_non (nomark _)) (iw_or1 (iw_and (it_cmp op_notN go_isNot (i_ix (iv 1) i_int) i_non (nomark _)) (iw_and1 (it_not (it_val (i_call D_l_is_ahead hr hw (by rfl) (ia_cons (iv 0) (ia_cons (i_ix (iv 1) i_int) (ia_cons (iv 2) ia_nil)))))))).pt)).pt (is_one (is_ret i_bl)) is_nil)
    (is_one (is_ret (iv_or (i_cmp op_isN go_is (i_ix (iv 1) i_int) i_non (nomark _)) (iv_one (iv_not (i_call D_l_is_ahead hr hw (by rfl) (ia_cons (iv 0) (ia_cons (i_ix (iv 1) i_int) (ia_cons (iv 2) ia_nil))))))))))
abbrev N_l_is_stopped : List Str := ["_law_parts_here", "_law_state"]
theorem s_l_is_stopped : FnScope N_l_is_stopped ["_law_parts_here", "_law_state"] (defScope (top 52)) := ⟨rfl, rfl, rfl, by decide +kernel, rfl, by decide +kernel, by decide +kernel⟩
def c_l_is_stopped : SmS := (sRet (cV (cAnd (cT (cBin gIsNot (cBin gIx (cVar 0) (cK (.int 2))) (cK .none))) (cT (cBin gGe (cBin gIx (cVar 1) (cK (.int 2))) (cBin gIx (cVar 0) (cK (.int 2))))))))
def f_l_is_stopped : List Dv → Option Dv := runF c_l_is_stopped 2 2
theorem t_l_is_stopped {P : Program} {w : World} {K : PySem.W.Frag} {mg : Str → Option Value} {base : Heap} {C : Cs K} {f : Addr} (T : Tx K mg C) (F : FdS K "_law_is_stopped" "_law_is_stopped" (top 52) f) :
    ∃ fd, Binds K fd ["_law_parts_here", "_law_state"] [] ∧ FnW P w K mg base C8.CX0 1 f fd ["_law_parts_here", "_law_state"] (spD K C f_l_is_stopped) :=
  fd_D F s_l_is_stopped (fun _ _ _ _ _ _ us hl => match us, hl with | [_, _], _ => rfl) fun cdv cm pn A outer s H E hw hr =>
    (is_one (is_ret (iv_and (i_cmp op_notN go_isNot (i_ix (iv 0) i_int) i_non (nomark _)) (iv_one (i_cmp op_ge go_ge (i_ix (iv 1) i_int) (i_ix (iv 0) i_int) (nomark _))))))
abbrev N_l_aged : List Str := ["_law_parts_here", "_law_age"]
theorem s_l_aged : FnScope N_l_aged ["_law_parts_here", "_law_age"] (defScope (top 53)) := ⟨rfl, rfl, rfl, by decide +kernel, rfl, by decide +kernel, by decide +kernel⟩
def c_l_aged : SmS := (sRet (cIf (cT (cBin gIs (cVar 1) (cK .none))) (cK .none) (cBin gMod (cBin gAdd (cVar 1) (cK (.int 1))) (cBin gIx (cVar 0) (cK (.int 0))))))
def f_l_aged : List Dv → Option Dv := runF c_l_aged 2 2
theorem t_l_aged {P : Program} {w : World} {K : PySem.W.Frag} {mg : Str → Option Value} {base : Heap} {C : Cs K} {f : Addr} (T : Tx K mg C) (F : FdS K "_law_aged" "_law_aged" (top 53) f) :
    ∃ fd, Binds K fd ["_law_parts_here", "_law_age"] [] ∧ FnW P w K mg base C8.CX0 1 f fd ["_law_parts_here", "_law_age"] (spD K C f_l_aged) :=
  fd_D F s_l_aged (fun _ _ _ _ _ _ us hl => match us, hl with | [_, _], _ => rfl) fun cdv cm pn A outer s H E hw hr =>
    (is_one (is_ret (i_if (it_cmp op_isN go_is (iv 1) i_non (nomark _)) i_non (i_op op_mod go_mod (i_op op_addA go_add (iv 1) i_int) (i_ix (iv 0) i_int)))))
abbrev N_l_given : List Str := ["_law_parts_here", "_law_state", "_law_row", "_law_reader", "_law_many"]
theorem s_l_given : FnScope N_l_given ["_law_parts_here", "_law_state"] (defScope (top 54)) := ⟨rfl, rfl, rfl, by decide +kernel, rfl, by decide +kernel, by decide +kernel⟩
def c_l_given : SmS := (sSeq (sUnp [2, 3, 4] splT (cVar 1))
  (sSeq (sIf (cT (cBin gIsNot (cVar 2) (cK .none))) (sSet 2 (cApp gTup (cCons (cApp f_l_aged (cCons (cVar 0) (cCons (cBin gIx (cVar 2) (cK (.int 0))) cNil))) (cCons (cApp f_l_aged (cCons (cVar 0) (cCons (cBin gIx (cVar 2) (cK (.int 1))) cNil))) cNil)))) sNil)
  (sSeq (sIf (cT (cBin gIsNot (cVar 3) (cK .none))) (sSeq (sSet 3 (cApp gTup (cCons (cApp f_l_aged (cCons (cVar 0) (cCons (cBin gIx (cVar 3) (cK (.int 0))) cNil))) (cCons (cBin gIx (cVar 3) (cK (.int 1))) cNil))))
  (sSet 3 (cIf (cAnd (cT (cBin gIsNot (cBin gIx (cVar 0) (cK (.int 4))) (cK .none))) (cT (cBin gGe (cBin gIx (cVar 3) (cK (.int 0))) (cBin gIx (cVar 0) (cK (.int 4)))))) (cK .none) (cVar 3)))) sNil)
  (sRet (cApp gTup (cCons (cVar 2) (cCons (cVar 3) (cCons (cIf (cT (cBin gLt (cVar 4) (cBin gIx (cVar 0) (cK (.int 0))))) (cBin gAdd (cVar 4) (cK (.int 1))) (cVar 4)) cNil))))))))
def f_l_given : List Dv → Option Dv := runF c_l_given 2 5
theorem t_l_given {P : Program} {w : World} {K : PySem.W.Frag} {mg : Str → Option Value} {base : Heap} {C : Cs K} {f : Addr} (T : Tx K mg C) (F : FdS K "_law_given" "_law_given" (top 54) f) (D_l_aged : Dfn P w K mg base C "_law_aged" 1 f_l_aged) :
    ∃ fd, Binds K fd ["_law_parts_here", "_law_state"] [] ∧ FnW P w K mg base C8.CX0 2 f fd ["_law_parts_here", "_law_state"] (spD K C f_l_given) :=
  fd_D F s_l_given (fun _ _ _ _ _ _ us hl => match us, hl with | [_, _], _ => rfl) fun cdv cm pn A outer s H E hw hr =>
    (is_cons (is_unp (ig_tup hw (igs_cons (i := 2) s_l_given.nd rfl (by first | exact .inl rfl | exact .inr rfl) (igs_cons (i := 3) s_l_given.nd rfl (by first | exact .inl rfl | exact .inr rfl) (igs_cons (i := 4) s_l_given.nd rfl (by first | exact .inl rfl | exact .inr rfl) igs_nil)))) (iv 1))
    (is_cons (is_if (it_cmp op_notN go_isNot (iv 2) i_non (nomark _)) (is_one (is_set (i := 2) s_l_given.nd rfl (by first | exact .inl rfl | exact .inr rfl) (i_tup (ia_cons (i_call D_l_aged hr hw (by rfl) (ia_cons (iv 0) (ia_cons (i_ix (iv 2) i_int) ia_nil))) (ia_cons (i_call D_l_aged hr hw (by rfl) (ia_cons (iv 0) (ia_cons (i_ix (iv 2) i_int) ia_nil))) ia_nil))))) is_nil)
    (is_cons (is_if (it_cmp op_notN go_isNot (iv 3) i_non (nomark _)) (is_cons (is_set (i := 3) s_l_given.nd rfl (by first | exact .inl rfl | exact .inr rfl) (i_tup (ia_cons (i_call D_l_aged hr hw (by rfl) (ia_cons (iv 0) (ia_cons (i_ix (iv 3) i_int) ia_nil))) (ia_cons (i_ix (iv 3) i_int) ia_nil))))
    (is_one (is_set (i := 3) s_l_given.nd rfl (by first | exact .inl rfl | exact .inr rfl) (i_if (iw_and (it_cmp op_notN go_isNot (i_ix (iv 0) i_int) i_non (nomark _)) (iw_and1 (it_cmp op_ge go_ge (i_ix (iv 3) i_int) (i_ix (iv 0) i_int) (nomark _)))).pt i_non (iv 3))))) is_nil)
    (is_one (is_ret (i_tup (ia_cons (iv 2) (ia_cons (iv 3) (ia_cons (i_if (it_cmp op_lt go_lt (iv 4) (i_ix (iv 0) i_int) (nomark _)) (i_op op_addA go_add (iv 4) i_int) (iv 4)) ia_nil)))))))))
abbrev N_l_passed : List Str := ["_law_parts_here", "_law_state", "_law_row", "_law_reader", "_law_many", "_law_pictures", "_law_most", "_law_is_old", "_law_one"]
theorem s_l_passed : FnScope N_l_passed ["_law_parts_here", "_law_state"] (defScope (top 55)) := ⟨rfl, rfl, rfl, by decide +kernel, rfl, by decide +kernel, by decide +kernel⟩
def c_l_passed : SmS := (sSeq (sUnp [2, 3, 4] splT (cVar 1))
  (sSeq (sPar 5 6 (cCons (cApp gLst (cCons (cK (.int 0)) cNil)) (cCons (cBin gIx (cVar 0) (cK (.int 1))) cNil)))
  (sSeq (sIf (cAnd (cT (cBin gIsNot (cVar 3) (cK .none))) (cT (cBin gEq (cBin gIx (cVar 0) (cK (.int 3))) (cK (.str "yes"))))) (sPar 5 6 (cCons (cApp gLst (cCons (cK (.int 0)) (cCons (cBin gIx (cVar 3) (cK (.int 0))) cNil))) (cCons (cApp gMax (cCons (cBin gIx (cVar 0) (cK (.int 1))) (cCons (cBin gIx (cVar 3) (cK (.int 0))) cNil))) cNil))) sNil)
  (sSeq (sIf (cAnd (cT (cBin gIsNot (cVar 2) (cK .none))) (cAnd (cT (cBin gIsNot (cBin gIx (cVar 2) (cK (.int 1))) (cK .none))) (cT (cApp gAll (cCons (cLc (jList (cVar 5)) [8] spl1 [8] (fun _ => some true) (cApp f_l_is_ahead (cCons (cVar 0) (cCons (cBin gIx (cVar 2) (cK (.int 1))) (cCons (cVar 8) cNil))))) cNil))))) (sSet 2 (cK .none)) (sIf (cAnd (cT (cBin gIsNot (cVar 2) (cK .none))) (cAnd (cT (cBin gIsNot (cBin gIx (cVar 2) (cK (.int 0))) (cK .none))) (cT (cBin gGe (cBin gIx (cVar 2) (cK (.int 0))) (cBin gIx (cVar 0) (cK (.int 1))))))) (sSeq (sSet 7 (cApp gAll (cCons (cLc (jList (cVar 5)) [8] spl1 [8] (fun _ => some true) (cApp f_l_is_ahead (cCons (cVar 0) (cCons (cBin gIx (cVar 2) (cK (.int 0))) (cCons (cVar 8) cNil))))) cNil)))
  (sSet 2 (cIf (cT (cVar 7)) (cApp gTup (cCons (cK .none) (cCons (cBin gIx (cVar 2) (cK (.int 1))) cNil))) (cVar 2)))) sNil))
  (sRet (cApp gTup (cCons (cVar 2) (cCons (cVar 3) (cCons (cIf (cT (cBin gLt (cVar 4) (cVar 6))) (cVar 4) (cVar 6)) cNil)))))))))
def f_l_passed : List Dv → Option Dv := runF c_l_passed 2 9
theorem t_l_passed {P : Program} {w : World} {K : PySem.W.Frag} {mg : Str → Option Value} {base : Heap} {C : Cs K} {f : Addr} (T : Tx K mg C) (F : FdS K "_law_passed" "_law_passed" (top 55) f) (D_l_is_ahead : Dfn P w K mg base C "_law_is_ahead" 1 f_l_is_ahead) :
    ∃ fd, Binds K fd ["_law_parts_here", "_law_state"] [] ∧ FnW P w K mg base C8.CX0 2 f fd ["_law_parts_here", "_law_state"] (spD K C f_l_passed) :=
  fd_D F s_l_passed (fun _ _ _ _ _ _ us hl => match us, hl with | [_, _], _ => rfl) fun cdv cm pn A outer s H E hw hr =>
    (is_cons (is_unp (ig_tup hw (igs_cons (i := 2) s_l_passed.nd rfl (by first | exact .inl rfl | exact .inr rfl) (igs_cons (i := 3) s_l_passed.nd rfl (by first | exact .inl rfl | exact .inr rfl) (igs_cons (i := 4) s_l_passed.nd rfl (by first | exact .inl rfl | exact .inr rfl) igs_nil)))) (iv 1))
    (is_cons (is_par (i := 5) (j := 6) hw s_l_passed.nd rfl rfl rfl rfl (ia_cons (i_lst (ia_cons i_int ia_nil)) (ia_cons (i_ix (iv 0) i_int) ia_nil)))
    (is_cons (is_if (iw_and (it_cmp op_notN go_isNot (iv 3) i_non (nomark _)) (iw_and1 (it_cmp (op_eqD (hu2_ofH hr)) go_eq (i_ix (iv 0) i_int) i_str (nomark _)))).pt (is_one (is_par (i := 5) (j := 6) hw s_l_passed.nd rfl rfl rfl rfl (ia_cons (i_lst (ia_cons i_int (ia_cons (i_ix (iv 3) i_int) ia_nil))) (ia_cons (i_callB (call_max2W hw) gl_max (by rfl) T.f_max b_max (ia_cons (i_ix (iv 0) i_int) (ia_cons (i_ix (iv 3) i_int) ia_nil))) ia_nil)))) is_nil)
    (is_cons (is_if (iw_and (it_cmp op_notN go_isNot (iv 2) i_non (nomark _)) (iw_and (it_cmp op_notN go_isNot (i_ix (iv 2) i_int) i_non (nomark _)) (iw_and1 (it_val (i_callB (call_allW hw) gl_all (by rfl) T.f_all b_all (ia_cons (i_ofL cLc_list (i_lcL (own := [("_law_one", 8)]) hw s_l_passed.nd (ij_list (iv 5)) (blkOk_by (N := N_l_passed) (sc := defScope (top 55)) (by decide +kernel)) (fun _ _ _ _ _ _ hw => (ig_name (i := 8) s_l_passed.nd rfl (by first | exact .inl rfl | exact .inr rfl))) (fun _ _ _ _ _ _ hw => it_yes) (fun _ _ _ _ _ _ hw => (i_call D_l_is_ahead hr hw (by rfl) (ia_cons (iv 0) (ia_cons (i_ix (iv 2) i_int) (ia_cons (iv 8) ia_nil))))))) ia_nil)))))).pt (is_one (is_set (i := 2) s_l_passed.nd rfl (by first | exact .inl rfl | exact .inr rfl) i_non)) (is_one (is_if (iw_and (it_cmp op_notN go_isNot (iv 2) i_non (nomark _)) (iw_and (it_cmp op_notN go_isNot (i_ix (iv 2) i_int) i_non (nomark _)) (iw_and1 (it_cmp op_ge go_ge (i_ix (iv 2) i_int) (i_ix (iv 0) i_int) (nomark _))))).pt (is_cons (is_set (i := 7) s_l_passed.nd rfl (by first | exact .inl rfl | exact .inr rfl) (i_callB (call_allW hw) gl_all (by rfl) T.f_all b_all (ia_cons (i_ofL cLc_list (i_lcL (own := [("_law_one", 8)]) hw s_l_passed.nd (ij_list (iv 5)) (blkOk_by (N := N_l_passed) (sc := defScope (top 55)) (by decide +kernel)) (fun _ _ _ _ _ _ hw => (ig_name (i := 8) s_l_passed.nd rfl (by first | exact .inl rfl | exact .inr rfl))) (fun _ _ _ _ _ _ hw => it_yes) (fun _ _ _ _ _ _ hw => (i_call D_l_is_ahead hr hw (by rfl) (ia_cons (iv 0) (ia_cons (i_ix (iv 2) i_int) (ia_cons (iv 8) ia_nil))))))) ia_nil)))
    (is_one (is_set (i := 2) s_l_passed.nd rfl (by first | exact .inl rfl | exact .inr rfl) (i_if (it_val (iv 7)) (i_tup (ia_cons i_non (ia_cons (i_ix (iv 2) i_int) ia_nil))) (iv 2))))) is_nil)))
    (is_one (is_ret (i_tup (ia_cons (iv 2) (ia_cons (iv 3) (ia_cons (i_if (it_cmp op_lt go_lt (iv 4) (iv 6) (nomark _)) (iv 4) (iv 6)) ia_nil))))))))))
abbrev N_l_rows : List Str := ["_law_parts_here", "_law_state", "_law_row", "_law_reader", "_law_many", "_law_found", "_law_late"]
theorem s_l_rows : FnScope N_l_rows ["_law_parts_here", "_law_state"] (defScope (top 56)) := ⟨rfl, rfl, rfl, by decide +kernel, rfl, by decide +kernel, by decide +kernel⟩
def c_l_rows : SmS := (sSeq (sUnp [2, 3, 4] splT (cVar 1))
  (sSeq (sParOwn 5 6 (cApp f_l_given (cCons (cVar 0) (cCons (cVar 1) cNil))))
  (sSeq (sIf (cNot (cT (cApp f_l_is_stopped (cCons (cVar 0) (cCons (cVar 1) cNil))))) (sSeq (sApp 5 (cApp gTup (cCons (cK (.str "tick")) (cCons (cVar 6) cNil))))
  (sIf (cT (cBin gIs (cVar 2) (cK .none))) (sApp 5 (cApp gTup (cCons (cK (.str "write")) (cCons (cBin gAdd (cApp gTup (cCons (cApp gTup (cCons (cK (.int 0)) (cCons (cK .none) cNil))) cNil)) (cUn gTail (cVar 6))) cNil)))) (sIf (cT (cBin gIs (cBin gIx (cVar 2) (cK (.int 1))) (cK .none))) (sApp 5 (cApp gTup (cCons (cK (.str "strike")) (cCons (cBin gAdd (cApp gTup (cCons (cApp gTup (cCons (cBin gIx (cBin gIx (cVar 6) (cK (.int 0))) (cK (.int 0))) (cCons (cK (.int 0)) cNil))) cNil)) (cUn gTail (cVar 6))) cNil)))) sNil))) sNil)
  (sSeq (sIf (cT (cBin gIs (cVar 3) (cK .none))) (sApp 5 (cApp gTup (cCons (cK (.str "open")) (cCons (cApp gTup (cCons (cVar 2) (cCons (cApp gTup (cCons (cK (.int 0)) (cCons (cV (cAnd (cT (cBin gIsNot (cVar 2) (cK .none))) (cT (cBin gIs (cBin gIx (cVar 2) (cK (.int 1))) (cK .none))))) cNil))) (cCons (cVar 4) cNil)))) cNil)))) (sApp 5 (cApp gTup (cCons (cK (.str "close")) (cCons (cApp gTup (cCons (cVar 2) (cCons (cK .none) (cCons (cVar 4) cNil)))) cNil)))))
  (sFrz 5 (sRet (cBin gAdd (cVar 5) (cApp gLst (cCons (cApp gTup (cCons (cK (.str "pass")) (cCons (cApp f_l_passed (cCons (cVar 0) (cCons (cVar 1) cNil))) cNil))) cNil)))))))))
def f_l_rows : List Dv → Option Dv := runF c_l_rows 2 7
theorem t_l_rows {P : Program} {w : World} {K : PySem.W.Frag} {mg : Str → Option Value} {base : Heap} {C : Cs K} {f : Addr} (T : Tx K mg C) (F : FdS K "_law_rows" "_law_rows" (top 56) f) (D_l_given : Dfn P w K mg base C "_law_given" 2 f_l_given) (D_l_is_stopped : Dfn P w K mg base C "_law_is_stopped" 1 f_l_is_stopped) (D_l_passed : Dfn P w K mg base C "_law_passed" 2 f_l_passed) :
    ∃ fd, Binds K fd ["_law_parts_here", "_law_state"] [] ∧ FnW P w K mg base C8.CX0 3 f fd ["_law_parts_here", "_law_state"] (spD K C f_l_rows) :=
  fd_D F s_l_rows (fun _ _ _ _ _ _ us hl => match us, hl with | [_, _], _ => rfl) fun cdv cm pn A outer s H E hw hr =>
    (is_cons (is_unp (ig_tup hw (igs_cons (i := 2) s_l_rows.nd rfl (by first | exact .inl rfl | exact .inr rfl) (igs_cons (i := 3) s_l_rows.nd rfl (by first | exact .inl rfl | exact .inr rfl) (igs_cons (i := 4) s_l_rows.nd rfl (by first | exact .inl rfl | exact .inr rfl) igs_nil)))) (iv 1))
    (is_cons (is_parOwn (i := 5) (j := 6) hw s_l_rows.nd rfl rfl rfl rfl (i_call D_l_given hr hw (by rfl) (ia_cons (iv 0) (ia_cons (iv 1) ia_nil))))
    (is_cons (is_if (it_not (it_val (i_call D_l_is_stopped hr hw (by rfl) (ia_cons (iv 0) (ia_cons (iv 1) ia_nil))))) (is_cons (is_app (i := 5) rfl (by first | exact .inl rfl | exact .inr (.inl rfl)) (i_tup (ia_cons i_str (ia_cons (iv 6) ia_nil))))
    (is_one (is_if (it_cmp op_isN go_is (iv 2) i_non (nomark _)) (is_one (is_app (i := 5) rfl (by first | exact .inl rfl | exact .inr (.inl rfl)) (i_tup (ia_cons i_str (ia_cons (i_op op_addA go_add (i_tup (ia_cons (i_tup (ia_cons i_int (ia_cons i_non ia_nil))) ia_nil)) (i_tail (iv 6))) ia_nil))))) (is_one (is_if (it_cmp op_isN go_is (i_ix (iv 2) i_int) i_non (nomark _)) (is_one (is_app (i := 5) rfl (by first | exact .inl rfl | exact .inr (.inl rfl)) (i_tup (ia_cons i_str (ia_cons (i_op op_addA go_add (i_tup (ia_cons (i_tup (ia_cons (i_ix (i_ix (iv 6) i_int) i_int) (ia_cons i_int ia_nil))) ia_nil)) (i_tail (iv 6))) ia_nil))))) is_nil))))) is_nil)
    (is_cons (is_if (it_cmp op_isN go_is (iv 3) i_non (nomark _)) (is_one (is_app (i := 5) rfl (by first | exact .inl rfl | exact .inr (.inl rfl)) (i_tup (ia_cons i_str (ia_cons (i_tup (ia_cons (iv 2) (ia_cons (i_tup (ia_cons i_int (ia_cons (iv_and (i_cmp op_notN go_isNot (iv 2) i_non (nomark _)) (iv_one (i_cmp op_isN go_is (i_ix (iv 2) i_int) i_non (nomark _)))) ia_nil))) (ia_cons (iv 4) ia_nil)))) ia_nil))))) (is_one (is_app (i := 5) rfl (by first | exact .inl rfl | exact .inr (.inl rfl)) (i_tup (ia_cons i_str (ia_cons (i_tup (ia_cons (iv 2) (ia_cons i_non (ia_cons (iv 4) ia_nil)))) ia_nil))))))
    (is_one (is_frz (is_ret (i_op op_addA go_add (iv 5) (i_lst (ia_cons (i_tup (ia_cons i_str (ia_cons (i_call D_l_passed hr hw (by rfl) (ia_cons (iv 0) (ia_cons (iv 1) ia_nil))) ia_nil))) ia_nil))))))))))
abbrev N_l_broken : List Str := ["_law_parts_here", "_law_state", "_law_rows_here", "_law_found", "_law_is_over", "_law_row", "_law_reader", "_law_many"]
theorem s_l_broken : FnScope N_l_broken ["_law_parts_here", "_law_state"] (defScope (top 58)) := ⟨rfl, rfl, rfl, by decide +kernel, rfl, by decide +kernel, by decide +kernel⟩
def c_l_broken : SmS := (sSeq (sUnp [5, 6, 7] splT (cVar 1))
  (sSeq (sOwn 2 (cCons (cApp gTup (cCons (cV (cAnd (cT (cBin gIsNot (cVar 5) (cK .none))) (cT (cBin gIs (cBin gIx (cVar 5) (cK (.int 1))) (cK .none))))) (cCons (cApp f_l_sees (cCons (cVar 0) (cCons (cVar 5) (cCons (cK (.int 0)) cNil)))) cNil))) cNil))
  (sSeq (sIf (cT (cBin gIsNot (cVar 6) (cK .none))) (sApp 2 (cApp gTup (cCons (cBin gIx (cVar 6) (cK (.int 1))) (cCons (cApp f_l_sees (cCons (cVar 0) (cCons (cVar 5) (cCons (cBin gIx (cVar 6) (cK (.int 0))) cNil)))) cNil)))) sNil)
  (sSeq (sFrz 2 (sSet 3 (cIf (cT (cBin gIn (cApp gTup (cCons (cK (.bool false)) (cCons (cK (.bool true)) cNil))) (cVar 2))) (cApp gLst (cCons (cK (.str "ghost")) cNil)) (cApp gLst cNil))))
  (sSeq (sSet 3 (cBin gAdd (cVar 3) (cIf (cT (cBin gIn (cApp gTup (cCons (cK (.bool true)) (cCons (cK (.bool false)) cNil))) (cVar 2))) (cApp gLst (cCons (cK (.str "gone")) cNil)) (cApp gLst cNil))))
  (sSeq (sSet 4 (cV (cAnd (cT (cApp f_l_is_stopped (cCons (cVar 0) (cCons (cVar 1) cNil)))) (cT (cApp f_l_is_stopped (cCons (cVar 0) (cCons (cApp f_l_passed (cCons (cVar 0) (cCons (cVar 1) cNil))) cNil)))))))
  (sRet (cBin gAdd (cVar 3) (cIf (cT (cVar 4)) (cApp gLst (cCons (cK (.str "stands")) cNil)) (cApp gLst cNil))))))))))
def f_l_broken : List Dv → Option Dv := runF c_l_broken 2 8
theorem t_l_broken {P : Program} {w : World} {K : PySem.W.Frag} {mg : Str → Option Value} {base : Heap} {C : Cs K} {f : Addr} (T : Tx K mg C) (F : FdS K "_law_broken" "_law_broken" (top 58) f) (D_l_sees : Dfn P w K mg base C "_law_sees" 2 f_l_sees) (D_l_is_stopped : Dfn P w K mg base C "_law_is_stopped" 1 f_l_is_stopped) (D_l_passed : Dfn P w K mg base C "_law_passed" 2 f_l_passed) :
    ∃ fd, Binds K fd ["_law_parts_here", "_law_state"] [] ∧ FnW P w K mg base C8.CX0 3 f fd ["_law_parts_here", "_law_state"] (spD K C f_l_broken) :=
  fd_D F s_l_broken (fun _ _ _ _ _ _ us hl => match us, hl with | [_, _], _ => rfl) fun cdv cm pn A outer s H E hw hr =>
    (is_cons (is_unp (ig_tup hw (igs_cons (i := 5) s_l_broken.nd rfl (by first | exact .inl rfl | exact .inr rfl) (igs_cons (i := 6) s_l_broken.nd rfl (by first | exact .inl rfl | exact .inr rfl) (igs_cons (i := 7) s_l_broken.nd rfl (by first | exact .inl rfl | exact .inr rfl) igs_nil)))) (iv 1))
    (is_cons (is_own (i := 2) s_l_broken.nd rfl (by first | exact .inl rfl | exact .inr rfl) (ia_cons (i_tup (ia_cons (iv_and (i_cmp op_notN go_isNot (iv 5) i_non (nomark _)) (iv_one (i_cmp op_isN go_is (i_ix (iv 5) i_int) i_non (nomark _)))) (ia_cons (i_call D_l_sees hr hw (by rfl) (ia_cons (iv 0) (ia_cons (iv 5) (ia_cons i_int ia_nil)))) ia_nil))) ia_nil))
    (is_cons (is_if (it_cmp op_notN go_isNot (iv 6) i_non (nomark _)) (is_one (is_app (i := 2) rfl (by first | exact .inl rfl | exact .inr (.inl rfl)) (i_tup (ia_cons (i_ix (iv 6) i_int) (ia_cons (i_call D_l_sees hr hw (by rfl) (ia_cons (iv 0) (ia_cons (iv 5) (ia_cons (i_ix (iv 6) i_int) ia_nil)))) ia_nil))))) is_nil)
    (is_cons (is_frz (is_set (i := 3) s_l_broken.nd rfl (by first | exact .inl rfl | exact .inr rfl) (i_if (it_cmp (op_inA (hu_ofH hr)) go_in (i_tup (ia_cons i_bl (ia_cons i_bl ia_nil))) (iv 2) (by with_unfolding_all rfl)) (i_lst (ia_cons i_str ia_nil)) (i_lst ia_nil))))
    (is_cons (is_set (i := 3) s_l_broken.nd rfl (by first | exact .inl rfl | exact .inr rfl) (i_op op_addA go_add (iv 3) (i_if (it_cmp (op_inA (hu_ofH hr)) go_in (i_tup (ia_cons i_bl (ia_cons i_bl ia_nil))) (iv 2) (by with_unfolding_all rfl)) (i_lst (ia_cons i_str ia_nil)) (i_lst ia_nil))))
    (is_cons (is_set (i := 4) s_l_broken.nd rfl (by first | exact .inl rfl | exact .inr rfl) (iv_and (i_call D_l_is_stopped hr hw (by rfl) (ia_cons (iv 0) (ia_cons (iv 1) ia_nil))) (iv_one (i_call D_l_is_stopped hr hw (by rfl) (ia_cons (iv 0) (ia_cons (i_call D_l_passed hr hw (by rfl) (ia_cons (iv 0) (ia_cons (iv 1) ia_nil))) ia_nil))))))
    (is_one (is_ret (i_op op_addA go_add (iv 3) (i_if (it_val (iv 4)) (i_lst (ia_cons i_str ia_nil)) (i_lst ia_nil)))))))))))
abbrev N_l_can : List Str := ["_law_parts_here", "_law_states", "_law_every", "_law_found", "_law_word", "_law_state", "_law_row", "_law_number_here", "_law_some"]
theorem s_l_can : FnScope N_l_can ["_law_parts_here", "_law_states"] (defScope (top 60)) := ⟨rfl, rfl, rfl, by decide +kernel, rfl, by decide +kernel, by decide +kernel⟩
def c_l_can : SmS := (sSeq (sSet 2 (cLc (jList (cVar 1)) [5] spl1 [5] (fun _ => some true) (cLc (jList (cApp f_l_rows (cCons (cVar 0) (cCons (cVar 5) cNil)))) [6] spl1 [6] (fun _ => some true) (cBin gIx (cVar 6) (cK (.int 0))))))
  (sSeq (sSet 3 (cIf (cT (cBin gIn (cK (.str "tick")) (cBin gIx (cVar 2) (cK (.int 0))))) (cApp gLst (cCons (cK (.str "tick")) cNil)) (cApp gLst cNil)))
  (sSeq (sFor (jTup (cApp gTup (cCons (cK (.str "write")) (cCons (cK (.str "strike")) cNil)))) [4] spl1 (sSet 3 (cBin gAdd (cVar 3) (cLc (jEn true (cVar 2)) [7, 8] splT [7, 8] (cT (cBin gIn (cVar 4) (cVar 8))) (cApp gTup (cCons (cVar 4) (cCons (cVar 7) cNil)))))))
  (sRet (cBin gAdd (cVar 3) (cLc (jTup (cApp gTup (cCons (cK (.str "open")) (cCons (cK (.str "close")) (cCons (cK (.str "pass")) cNil))))) [4] spl1 [4] (cT (cBin gIn (cVar 4) (cBin gIx (cVar 2) (cK (.int 0))))) (cVar 4)))))))
def f_l_can : List Dv → Option Dv := runF c_l_can 2 9
theorem t_l_can {P : Program} {w : World} {K : PySem.W.Frag} {mg : Str → Option Value} {base : Heap} {C : Cs K} {f : Addr} (T : Tx K mg C) (F : FdS K "_law_can" "_law_can" (top 60) f) (D_l_rows : Dfn P w K mg base C "_law_rows" 3 f_l_rows) :
    ∃ fd, Binds K fd ["_law_parts_here", "_law_states"] [] ∧ FnW P w K mg base C8.CX0 4 f fd ["_law_parts_here", "_law_states"] (spD K C f_l_can) :=
  fd_D F s_l_can (fun _ _ _ _ _ _ us hl => match us, hl with | [_, _], _ => rfl) fun cdv cm pn A outer s H E hw hr =>
    (is_cons (is_set (i := 2) s_l_can.nd rfl (by first | exact .inl rfl | exact .inr rfl) (i_ofL cLc_list (i_lcL (own := [("_law_state", 5)]) hw s_l_can.nd (ij_list (iv 1)) (blkOk_by (N := N_l_can) (sc := defScope (top 60)) (by decide +kernel)) (fun _ _ _ _ _ _ hw => (ig_name (i := 5) s_l_can.nd rfl (by first | exact .inl rfl | exact .inr rfl))) (fun _ _ _ _ _ _ hw => it_yes) (fun _ _ _ _ _ _ hw => (i_ofL cLc_list (i_lcL (own := [("_law_row", 6)]) hw s_l_can.nd (ij_list (i_call D_l_rows hr hw (by rfl) (ia_cons (iv 0) (ia_cons (iv 5) ia_nil)))) (blkOk_by (N := N_l_can) (sc := relS (lcScope (lcOf (defBody (top 60)))) (defScope (top 60))) (by decide +kernel)) (fun _ _ _ _ _ _ hw => (ig_name (i := 6) s_l_can.nd rfl (by first | exact .inl rfl | exact .inr rfl))) (fun _ _ _ _ _ _ hw => it_yes) (fun _ _ _ _ _ _ hw => (i_ix (iv 6) i_int))))))))
    (is_cons (is_set (i := 3) s_l_can.nd rfl (by first | exact .inl rfl | exact .inr rfl) (i_if (it_cmp (op_inA (hu_ofH hr)) go_in i_str (i_ix (iv 2) i_int) (by with_unfolding_all rfl)) (i_lst (ia_cons i_str ia_nil)) (i_lst ia_nil)))
    (is_cons (is_for PassesOwn.never hw (ij_tup (i_tup (ia_cons i_str (ia_cons i_str ia_nil)))) (ig_name (i := 4) s_l_can.nd rfl (by first | exact .inl rfl | exact .inr rfl)) (is_one (is_set (i := 3) s_l_can.nd rfl (by first | exact .inl rfl | exact .inr rfl) (i_op op_addA go_add (iv 3) (i_ofL cLc_list (i_lcL (own := [("_law_number_here", 7), ("_law_some", 8)]) hw s_l_can.nd (ij_en true (by rfl) T.f_enumerate (iv 2)) (blkOk_by (N := N_l_can) (sc := defScope (top 60)) (by decide +kernel)) (fun _ _ _ _ _ _ hw => (ig_tup hw (igs_cons (i := 7) s_l_can.nd rfl (by first | exact .inl rfl | exact .inr rfl) (igs_cons (i := 8) s_l_can.nd rfl (by first | exact .inl rfl | exact .inr rfl) igs_nil)))) (fun _ _ _ _ _ _ hw => it_one (it_cmp (op_inA (hu_ofH hr)) go_in (iv 4) (iv 8) (by with_unfolding_all rfl))) (fun _ _ _ _ _ _ hw => (i_tup (ia_cons (iv 4) (ia_cons (iv 7) ia_nil))))))))))
    (is_one (is_ret (i_op op_addA go_add (iv 3) (i_ofL cLc_list (i_lcL (own := [("_law_word", 4)]) hw s_l_can.nd (ij_tup (i_tup (ia_cons i_str (ia_cons i_str (ia_cons i_str ia_nil))))) (blkOk_by (N := N_l_can) (sc := defScope (top 60)) (by decide +kernel)) (fun _ _ _ _ _ _ hw => (ig_name (i := 4) s_l_can.nd rfl (by first | exact .inl rfl | exact .inr rfl))) (fun _ _ _ _ _ _ hw => it_one (it_cmp (op_inA (hu_ofH hr)) go_in (iv 4) (i_ix (iv 2) i_int) (by with_unfolding_all rfl))) (fun _ _ _ _ _ _ hw => (iv 4))))))))))
abbrev N_l_behind : List Str := ["_law_parts_here", "_law_states", "_law_deed", "_law_found", "_law_number_here", "_law_state", "_law_word"]
theorem s_l_behind : FnScope N_l_behind ["_law_parts_here", "_law_states", "_law_deed"] (defScope (top 61)) := ⟨rfl, rfl, rfl, by decide +kernel, rfl, by decide +kernel, by decide +kernel⟩
def c_l_behind : SmS := (sSeq (sOwn 3 cNil)
  (sSeq (sFor (jEn true (cVar 1)) [4, 5] splT (sSeq (sSet 6 (cVar 2))
  (sSeq (sIf (cT (cUn (gIsi "tuple") (cVar 2))) (sSet 6 (cIf (cT (cBin gEq (cBin gIx (cVar 2) (cK (.int 1))) (cVar 4))) (cBin gIx (cVar 2) (cK (.int 0))) (cK (.str "tick")))) sNil)
  (sApp 3 (cBin gDictAt (cApp f_l_rows (cCons (cVar 0) (cCons (cVar 5) cNil))) (cVar 6))))))
  (sFrz 3 (sRet (cVar 3)))))
def f_l_behind : List Dv → Option Dv := runF c_l_behind 3 7
theorem t_l_behind {P : Program} {w : World} {K : PySem.W.Frag} {mg : Str → Option Value} {base : Heap} {C : Cs K} {f : Addr} (T : Tx K mg C) (F : FdS K "_law_behind" "_law_behind" (top 61) f) (D_l_rows : Dfn P w K mg base C "_law_rows" 3 f_l_rows) :
    ∃ fd, Binds K fd ["_law_parts_here", "_law_states", "_law_deed"] [] ∧ FnOk P w K mg base C8.CX0 4 f fd ["_law_parts_here", "_law_states", "_law_deed"] (spD K C f_l_behind) :=
  fd_C F s_l_behind (fun _ _ _ _ _ _ us hl => match us, hl with | [_, _, _], _ => rfl) fun cdv A outer s H E hw hc hr =>
    (is_cons (is_own (i := 3) s_l_behind.nd rfl (by first | exact .inl rfl | exact .inr rfl) ia_nil)
    (is_cons (is_for PassesOwn.never hw (ij_en true (by rfl) T.f_enumerate (iv 1)) (ig_tup hw (igs_cons (i := 4) s_l_behind.nd rfl (by first | exact .inl rfl | exact .inr rfl) (igs_cons (i := 5) s_l_behind.nd rfl (by first | exact .inl rfl | exact .inr rfl) igs_nil))) (is_cons (is_set (i := 6) s_l_behind.nd rfl (by first | exact .inl rfl | exact .inr rfl) (iv 2))
    (is_cons (is_if (it_val (i_isi (iv 2) (by rfl) T.f_isinstance b_isinstance (by rfl) T.f_tuple b_tuple)) (is_one (is_set (i := 6) s_l_behind.nd rfl (by first | exact .inl rfl | exact .inr rfl) (i_if (it_cmp (op_eqD (hu2_ofH hr)) go_eq (i_ix (iv 2) i_int) (iv 4) (nomark _)) (i_ix (iv 2) i_int) i_str))) is_nil)
    (is_one (is_app (i := 3) rfl (by first | exact .inl rfl | exact .inr (.inl rfl)) (i_dictAt hc (hu1_ofH hr) (by rfl) T.f_dict b_dict (i_call D_l_rows hr hw (by rfl) (ia_cons (iv 0) (ia_cons (iv 5) ia_nil))) (iv 6)))))))
    (is_one (is_frz (is_ret (iv 3))))))
abbrev N_l_stands : List Str := ["_law_table", "_law_parts_here", "_law_here", "_law_due", "_law_bad", "_law_number_here", "_law_states", "_law_notes", "_law_olds", "_law_numbers", "_law_reader", "_law_wish"]
theorem s_l_stands : FnScope N_l_stands ["_law_table", "_law_parts_here", "_law_here"] (defScope (top 62)) := ⟨rfl, rfl, rfl, by decide +kernel, rfl, by decide +kernel, by decide +kernel⟩
def c_l_stands : SmS := (sSeq (sUnp [6, 7, 8] splL (cVar 2))
  (sSeq (sIf (cOr (cT (cBin gNe (cUn (gSelf (lst f_now)) (cVar 0)) (cVar 6))) (cOr (cT (cBin gNe (cUn (gSelf (lst f_journal)) (cVar 0)) (cVar 7))) (cT (cBin gNe (cApp (gLenT f_len) (cCons (cVar 0) cNil)) (cApp gLen (cCons (cVar 7) cNil)))))) (sRet (cK (.bool false))) sNil)
  (sSeq (sIf (cT (cBin gNe (cUn (gSelf (lst f_can)) (cVar 0)) (cApp f_l_can (cCons (cVar 1) (cCons (cVar 6) cNil))))) (sRet (cK (.bool false))) sNil)
  (sSeq (sUnp [9, 10] splT (cApp gTup (cCons (cUn gRg (cApp gLen (cCons (cVar 6) cNil))) (cCons (cBin gIx (cBin gIx (cVar 6) (cK (.int 0))) (cK (.int 1))) cNil))))
  (sSeq (sIf (cT (cBin gNe (cUn (gSelf f_seen) (cVar 0)) (cLc (jList (cVar 9)) [5] spl1 [5] (cT (cApp f_l_sees (cCons (cVar 1) (cCons (cBin gIx (cBin gIx (cVar 6) (cVar 5)) (cK (.int 0))) (cCons (cK (.int 0)) cNil))))) (cVar 5)))) (sRet (cK (.bool false))) sNil)
  (sSeq (sSet 3 (cK .none))
  (sSeq (sIf (cT (cBin gIsNot (cVar 10) (cK .none))) (sSet 3 (cLc (jList (cVar 9)) [5] spl1 [5] (cT (cApp f_l_sees (cCons (cVar 1) (cCons (cBin gIx (cBin gIx (cVar 6) (cVar 5)) (cK (.int 0))) (cCons (cBin gIx (cVar 10) (cK (.int 0))) cNil))))) (cVar 5))) sNil)
  (sSeq (sIf (cT (cBin gNe (cUn (gSelf f_read) (cVar 0)) (cVar 3))) (sRet (cK (.bool false))) sNil)
  (sSeq (sSet 4 (cApp gLst cNil))
  (sSeq (sFor (jList (cVar 9)) [5] spl1 (sSet 4 (cBin gAdd (cVar 4) (cLc (jList (cApp f_l_broken (cCons (cVar 1) (cCons (cBin gIx (cVar 6) (cVar 5)) cNil)))) [11] spl1 [11] (fun _ => some true) (cApp gTup (cCons (cVar 5) (cCons (cVar 11) cNil)))))))
  (sSeq (sIf (cT (cBin gNe (cUn (gSelf f_broken) (cVar 0)) (cVar 4))) (sRet (cK (.bool false))) sNil)
  (sSeq (sThrow (cUn (gSelf f_now) (cVar 0)))
  (sSeq (sThrow (cUn (gSelf f_journal) (cVar 0)))
  (sSeq (sThrow (cUn (gSelf f_can) (cVar 0)))
  (sRet (cK (.bool true)))))))))))))))))
def f_l_stands : List Dv → Option Dv := runF c_l_stands 3 12
theorem t_l_stands {P : Program} {w : World} {K : PySem.W.Frag} {mg : Str → Option Value} {base : Heap} {C : Cs K} {f : Addr} (T : Tx K mg C) (F : FdS K "_law_stands" "_law_stands" (top 62) f) (D_l_can : Dfn P w K mg base C "_law_can" 4 f_l_can) (D_l_sees : Dfn P w K mg base C "_law_sees" 2 f_l_sees) (D_l_broken : Dfn P w K mg base C "_law_broken" 3 f_l_broken) (D_can : DmL P w K mg base C "can" 4 f_can) (D_seen : Dmt P w K mg base C "seen" 3 f_seen) (D_read : Dmt P w K mg base C "read" 3 f_read) (D_broken : Dmt P w K mg base C "broken" 5 f_broken) (D_now : DpL P w K mg base C "now" 1 f_now) (D_journal : DpL P w K mg base C "journal" 1 f_journal) (L_len : Dlen P w K mg base C 1 f_len) :
    ∃ fd, Binds K fd ["_law_table", "_law_parts_here", "_law_here"] [] ∧ FnW P w K mg base C8.CX0 7 f fd ["_law_table", "_law_parts_here", "_law_here"] (spD K C f_l_stands) :=
  fd_D F s_l_stands (fun _ _ _ _ _ _ us hl => match us, hl with | [_, _, _], _ => rfl) fun cdv cm pn A outer s H E hw hr =>
    (is_cons (is_unp (ig_lst hw (igs_cons (i := 6) s_l_stands.nd rfl (by first | exact .inl rfl | exact .inr rfl) (igs_cons (i := 7) s_l_stands.nd rfl (by first | exact .inl rfl | exact .inr rfl) (igs_cons (i := 8) s_l_stands.nd rfl (by first | exact .inl rfl | exact .inr rfl) igs_nil)))) (iv 2))
    (is_cons (is_if (iw_or (it_cmp (op_neD (hu2_ofH hr)) go_ne (i_prop D_now.d hr hw (iv 0)) (iv 6) (nomark _)) (iw_or (it_cmp (op_neD (hu2_ofH hr)) go_ne (i_prop D_journal.d hr hw (iv 0)) (iv 7) (nomark _)) (iw_or1 (it_cmp (op_neD (hu2_ofH hr)) go_ne (i_callB (call_lenT L_len hr hw (by decide)) gl_lenT (by rfl) T.f_len b_len (ia_cons (iv 0) ia_nil)) (i_callB (call_len_seq) gl_len (by rfl) T.f_len b_len (ia_cons (iv 7) ia_nil)) (nomark _))))).pt (is_one (is_ret i_bl)) is_nil)
    (is_cons (is_if (it_cmp (op_neD (hu2_ofH hr)) go_ne (i_meth0 D_can.d hr hw (iv 0)) (i_call D_l_can hr hw (by rfl) (ia_cons (iv 1) (ia_cons (iv 6) ia_nil))) (nomark _)) (is_one (is_ret i_bl)) is_nil)
    (is_cons (is_unp (ig_tup hw (igs_cons (i := 9) s_l_stands.nd rfl (by first | exact .inl rfl | exact .inr rfl) (igs_cons (i := 10) s_l_stands.nd rfl (by first | exact .inl rfl | exact .inr rfl) igs_nil))) (i_tup (ia_cons (i_listRg hw (by rfl) T.f_list (by rfl) T.f_range (i_callB (call_len_seq) gl_len (by rfl) T.f_len b_len (ia_cons (iv 6) ia_nil))) (ia_cons (i_ix (i_ix (iv 6) i_int) i_int) ia_nil))))
    (is_cons (is_if (it_cmp (op_neD (hu2_ofH hr)) go_ne (i_meth0 D_seen hr hw (iv 0)) (i_ofL cLc_list (i_lcL (own := [("_law_number_here", 5)]) hw s_l_stands.nd (ij_list (iv 9)) (blkOk_by (N := N_l_stands) (sc := defScope (top 62)) (by decide +kernel)) (fun _ _ _ _ _ _ hw => (ig_name (i := 5) s_l_stands.nd rfl (by first | exact .inl rfl | exact .inr rfl))) (fun _ _ _ _ _ _ hw => it_one (it_val (i_call D_l_sees hr hw (by rfl) (ia_cons (iv 1) (ia_cons (i_ix (i_ix (iv 6) (iv 5)) i_int) (ia_cons i_int ia_nil)))))) (fun _ _ _ _ _ _ hw => (iv 5)))) (nomark _)) (is_one (is_ret i_bl)) is_nil)
    (is_cons (is_set (i := 3) s_l_stands.nd rfl (by first | exact .inl rfl | exact .inr rfl) i_non)
    (is_cons (is_if (it_cmp op_notN go_isNot (iv 10) i_non (nomark _)) (is_one (is_setLc (i := 3) (own := [("_law_number_here", 5)]) hw s_l_stands.nd rfl rfl (sw_true rfl rfl rfl (by decide +kernel)) (ij_list (iv 9)) (blkOk_by (N := N_l_stands) (sc := defScope (top 62)) (by decide +kernel)) (fun _ _ _ _ _ _ hw => (ig_name (i := 5) s_l_stands.nd rfl (by first | exact .inl rfl | exact .inr rfl))) (fun _ _ _ _ _ _ hw => it_one (it_val (i_call D_l_sees hr hw (by rfl) (ia_cons (iv 1) (ia_cons (i_ix (i_ix (iv 6) (iv 5)) i_int) (ia_cons (i_ix (iv 10) i_int) ia_nil)))))) (fun _ _ _ _ _ _ hw => (iv 5)))) is_nil)
    (is_cons (is_if (it_cmp (op_neD (hu2_ofH hr)) go_ne (i_meth0 D_read hr hw (iv 0)) (iv 3) (nomark _)) (is_one (is_ret i_bl)) is_nil)
    (is_cons (is_set (i := 4) s_l_stands.nd rfl (by first | exact .inl rfl | exact .inr rfl) (i_lst ia_nil))
    (is_cons (is_for PassesOwn.never hw (ij_list (iv 9)) (ig_name (i := 5) s_l_stands.nd rfl (by first | exact .inl rfl | exact .inr rfl)) (is_one (is_set (i := 4) s_l_stands.nd rfl (by first | exact .inl rfl | exact .inr rfl) (i_op op_addA go_add (iv 4) (i_ofL cLc_list (i_lcL (own := [("_law_wish", 11)]) hw s_l_stands.nd (ij_list (i_call D_l_broken hr hw (by rfl) (ia_cons (iv 1) (ia_cons (i_ix (iv 6) (iv 5)) ia_nil)))) (blkOk_by (N := N_l_stands) (sc := defScope (top 62)) (by decide +kernel)) (fun _ _ _ _ _ _ hw => (ig_name (i := 11) s_l_stands.nd rfl (by first | exact .inl rfl | exact .inr rfl))) (fun _ _ _ _ _ _ hw => it_yes) (fun _ _ _ _ _ _ hw => (i_tup (ia_cons (iv 5) (ia_cons (iv 11) ia_nil))))))))))
    (is_cons (is_if (it_cmp (op_neD (hu2_ofH hr)) go_ne (i_meth0 D_broken hr hw (iv 0)) (iv 4) (nomark _)) (is_one (is_ret i_bl)) is_nil)
    (is_cons (is_clear (i_propL D_now hr hw (iv 0)))
    (is_cons (is_toss (i_propL D_journal hr hw (iv 0)))
    (is_cons (is_clear (i_meth0L D_can hr hw (iv 0)))
    (is_one (is_ret i_bl))))))))))))))))
end LNp
set_option maxHeartbeats 4000000
/-! What the readings answer on encoded data. -/
namespace LNm
open PySem LNi LNt LNp
structure Pt where
  size : Int
  freeze : Int
  stop : Option Int
  hold : Bool
  cut : Option Int
abbrev Row := Option (Option Int × Option Int)
abbrev Rdr := Option (Int × Bool)
structure Sx where
  row : Row
  rdr : Rdr
  tb : Int
def eO : Option Int → PyData
  | none => .none
  | some i => .int i
def eRow : Row → PyData
  | none => .none
  | some (a, b) => .tuple [eO a, eO b]
def eRdr : Rdr → PyData
  | none => .none
  | some (a, b) => .tuple [.int a, .bool b]
def eS (s : Sx) : PyData := .tuple [eRow s.row, eRdr s.rdr, .int s.tb]
def eH (b : Bool) : PyData := .str (if b then "yes" else "no")
def eP (P : Pt) : PyData := .tuple [.int P.size, .int P.freeze, eO P.stop, eH P.hold, eO P.cut]
def eW (P : Pt) : Whl := ⟨.int P.size, .int P.freeze, eO P.stop, eH P.hold, eO P.cut⟩
theorem at_size (P : Pt) : (eW P).at "size" = some (.int P.size) := by simp [Whl.at, List.lookup, eW]
theorem at_freeze (P : Pt) : (eW P).at "freeze" = some (.int P.freeze) := by
  have e : (("freeze" : Str) == ("size" : Str)) = false := by decide
  simp [Whl.at, List.lookup, eW, e]
@[simp] theorem eO_none : eO none = .none := rfl
@[simp] theorem eO_some (i : Int) : eO (some i) = .int i := rfl
@[simp] theorem eRow_none : eRow none = .none := rfl
@[simp] theorem eRow_some (a b : Option Int) : eRow (some (a, b)) = .tuple [eO a, eO b] := rfl
@[simp] theorem eRdr_none : eRdr none = .none := rfl
@[simp] theorem eRdr_some (a : Int) (b : Bool) : eRdr (some (a, b)) = .tuple [.int a, .bool b] := rfl
def aheadM (s a p : Int) : Bool := decide ((a - p) % s < s / 2)
@[simp] theorem ev_var (i : Nat) (ρ : En) : cVar i ρ = match ρ[i]? with
  | some (some (.d x)) => some (.d x)
  | some (some (.whl w)) => some (.whl w)
  | some (some (.tbl w k)) => some (.tbl w k)
  | _ => none := rfl
@[simp] theorem ev_k (d : PyData) (ρ : En) : cK d ρ = some (.d d) := rfl
@[simp] theorem ev_bin (g : Dv → Dv → Option Dv) (a b : Sm) (ρ : En) : cBin g a b ρ = match a ρ with
  | some x => (match b ρ with | some y => g x y | none => none)
  | none => none := rfl
@[simp] theorem ev_un (g : Dv → Option Dv) (a : Sm) (ρ : En) : cUn g a ρ = match a ρ with
  | some x => g x
  | none => none := rfl
@[simp] theorem ev_ret (c : Sm) (ρ : En) : sRet c ρ = match c ρ with
  | some dv => some (.inr dv)
  | none => none := rfl
@[simp] theorem ev_T (c : Sm) (ρ : En) : cT c ρ = match c ρ with
  | some (.d (.bool k)) => some k
  | _ => none := rfl
@[simp] theorem ev_Not (c : SmB) (ρ : En) : cNot c ρ = match c ρ with
  | some k => some (!k)
  | none => none := rfl
@[simp] theorem ev_And (a b : SmB) (ρ : En) : cAnd a b ρ = match a ρ with
  | some true => b ρ
  | some false => some false
  | none => none := rfl
@[simp] theorem ev_Or (a b : SmB) (ρ : En) : cOr a b ρ = match a ρ with
  | some true => some true
  | some false => b ρ
  | none => none := rfl
@[simp] theorem ev_V (c : SmB) (ρ : En) : cV c ρ = match c ρ with
  | some k => some (.d (.bool k))
  | none => none := rfl
@[simp] theorem ev_If (t : SmB) (a b : Sm) (ρ : En) : cIf t a b ρ = match t ρ with
  | some true => a ρ
  | some false => b ρ
  | none => none := rfl
@[simp] theorem ev_Nil (ρ : En) : cNil ρ = some [] := rfl
@[simp] theorem ev_Cons (a : Sm) (r : SmA) (ρ : En) : cCons a r ρ = match a ρ with
  | some x => (match r ρ with | some xs => some (x :: xs) | none => none)
  | none => none := rfl
@[simp] theorem ev_App (g : List Dv → Option Dv) (a : SmA) (ρ : En) : cApp g a ρ = match a ρ with
  | some xs => g xs
  | none => none := rfl
@[simp] theorem ev_sNil (ρ : En) : sNil ρ = some (.inl ρ) := rfl
@[simp] theorem ev_sSeq (a b : SmS) (ρ : En) : sSeq a b ρ = match a ρ with
  | some (.inl ρ') => b ρ'
  | some (.inr d) => some (.inr d)
  | none => none := rfl
@[simp] theorem ev_sSet (i : Nat) (c : Sm) (ρ : En) : sSet i c ρ = match c ρ with
  | some dv => some (.inl (ρ.set i (some dv)))
  | none => none := rfl
@[simp] theorem ev_sIf (t : SmB) (a b : SmS) (ρ : En) : sIf t a b ρ = match t ρ with
  | some true => a ρ
  | some false => b ρ
  | none => none := rfl
@[simp] theorem ev_sUnp (js : List Nat) (spl : PyData → Option (List PyData)) (c : Sm) (ρ : En) : sUnp js spl c ρ = match c ρ with
  | some (.d x) => (match spl x with | some es => if es.length = js.length then some (.inl (setAll ρ js (es.map Dv.d))) else none | none => none)
  | _ => none := rfl
@[simp] theorem setAll_cons {α : Type} (l : List (Option α)) (j : Nat) (js : List Nat) (v : α) (vs : List α) : setAll l (j :: js) (v :: vs) = setAll (l.set j (some v)) js vs := rfl
@[simp] theorem setAll_nil {α : Type} (l : List (Option α)) : setAll l [] [] = l := rfl
@[simp] theorem isNon_eO (a : Option Int) : isNon (eO a) = a.isNone := by cases a <;> rfl
@[simp] theorem isNon_eRow (a : Row) : isNon (eRow a) = a.isNone := by cases a <;> rfl
@[simp] theorem isNon_eRdr (a : Rdr) : isNon (eRdr a) = a.isNone := by cases a <;> rfl
@[simp] theorem isNon_int (a : Int) : isNon (.int a) = false := rfl
@[simp] theorem isNon_tup (a : List PyData) : isNon (.tuple a) = false := rfl
@[simp] theorem isNon_none : isNon .none = true := rfl
/-- sizes 4 and 6 -/
structure PtOk (P : Pt) : Prop where
  size : P.size = 4 ∨ P.size = 6
theorem PtOk.pos {P : Pt} (h : PtOk P) : 0 < P.size := by have := h.size; omega
theorem before_ahead {P : Pt} (h : PtOk P) (a p : Int) : decide (2 * ((a - p) % P.size) < P.size) = aheadM P.size a p := by
  have := h.size
  unfold aheadM
  rcases this with e | e <;> rw [e] <;> (congr 1; apply propext; omega)
theorem f_before_eq {P : Pt} (h : PtOk P) (a p : Int) : f_before [.whl (eW P), .d (.int a), .d (.int p)] = some (.d (.bool (aheadM P.size a p))) := by
  rw [← before_ahead h]
  simp [f_before, runF, runS, c_before, gSub, gMod, gFld, at_size, h.pos, gMul, gLt]
theorem at_stop (P : Pt) : (eW P).at "stop" = some (eO P.stop) := by
  have e1 : (("stop" : Str) == ("size" : Str)) = false := by decide
  have e2 : (("stop" : Str) == ("freeze" : Str)) = false := by decide
  simp [Whl.at, List.lookup, eW, e1, e2]
theorem at_hold (P : Pt) : (eW P).at "hold" = some (eH P.hold) := by
  have e1 : (("hold" : Str) == ("size" : Str)) = false := by decide
  have e2 : (("hold" : Str) == ("freeze" : Str)) = false := by decide
  have e3 : (("hold" : Str) == ("stop" : Str)) = false := by decide
  simp [Whl.at, List.lookup, eW, e1, e2, e3]
theorem at_cut (P : Pt) : (eW P).at "cut" = some (eO P.cut) := by
  have e1 : (("cut" : Str) == ("size" : Str)) = false := by decide
  have e2 : (("cut" : Str) == ("freeze" : Str)) = false := by decide
  have e3 : (("cut" : Str) == ("stop" : Str)) = false := by decide
  have e4 : (("cut" : Str) == ("hold" : Str)) = false := by decide
  simp [Whl.at, List.lookup, eW, e1, e2, e3, e4]
def stoppedM (P : Pt) (tb : Int) : Bool := match P.stop with
  | none => false
  | some k => decide (k ≤ tb)
def seesM (P : Pt) (r : Row) (p : Int) : Bool := match r with
  | none => false
  | some (a, b) => (match a with | none => true | some x => aheadM P.size x p) && (match b with | none => true | some y => !aheadM P.size y p)
def thereM : Row → Bool
  | some (_, none) => true
  | _ => false
def agedM (P : Pt) (a : Option Int) : Option Int := a.map fun x => (x + 1) % P.size
theorem ix0 (a b c : PyData) : L2.atI [a, b, c] 0 = some a := rfl
theorem ix1 (a b c : PyData) : L2.atI [a, b, c] 1 = some b := rfl
theorem ix2 (a b c : PyData) : L2.atI [a, b, c] 2 = some c := rfl
theorem jx0 (a b : PyData) : L2.atI [a, b] 0 = some a := rfl
theorem jx1 (a b : PyData) : L2.atI [a, b] 1 = some b := rfl
theorem f_is_stopped_eq (P : Pt) (s : Sx) : f_is_stopped [.whl (eW P), .d (eS s)] = some (.d (.bool (stoppedM P s.tb))) := by
  cases h : P.stop <;> simp [f_is_stopped, runF, runS, c_is_stopped, gFld, at_stop, gIsNot, eS, gIx, ix2, gGe, stoppedM, h]
theorem f_sees_eq {P : Pt} (h : PtOk P) (r : Row) (p : Int) : f_sees [.whl (eW P), .d (eRow r), .d (.int p)] = some (.d (.bool (seesM P r p))) := by
  rcases r with _ | ⟨_ | a, _ | b⟩
  · simp [f_sees, runF, runS, c_sees, gIs, seesM]
  · simp [f_sees, runF, runS, c_sees, gIs, gIsNot, seesM, splT]
  · simp [f_sees, runF, runS, c_sees, gIs, gIsNot, seesM, splT, f_before_eq h]
  · cases z : aheadM P.size a p <;> simp [f_sees, runF, runS, c_sees, gIs, gIsNot, seesM, splT, f_before_eq h, z]
  · cases z : aheadM P.size a p <;> simp [f_sees, runF, runS, c_sees, gIs, gIsNot, seesM, splT, f_before_eq h, z]
theorem f_is_there_eq (r : Row) : f_is_there [.d (eRow r)] = some (.d (.bool (thereM r))) := by
  rcases r with _ | ⟨a, _ | b⟩ <;> simp [f_is_there, runF, runS, c_is_there, gIs, gIsNot, thereM, gIx, jx1]
theorem f_older_eq {P : Pt} (h : PtOk P) (a : Option Int) : f_older [.whl (eW P), .d (eO a)] = some (.d (eO (agedM P a))) := by
  cases a <;> simp [f_older, runF, runS, c_older, gIs, agedM, gAdd, gMod, gFld, at_size, h.pos]
end LNm
set_option maxHeartbeats 4000000
/-! What the readings answer on encoded data: the program's deeds, one state. -/
namespace LNm
open PySem LNi LNt LNp
def givenM (P : Pt) (s : Sx) : Sx where
  row := s.row.map fun q => (agedM P q.1, agedM P q.2)
  rdr := match s.rdr with
    | none => none
    | some (a, k) => match P.cut with
      | none => some ((a + 1) % P.size, k)
      | some c => if c ≤ (a + 1) % P.size then none else some ((a + 1) % P.size, k)
  tb := if s.tb < P.size then s.tb + 1 else s.tb
def heldM (P : Pt) (s : Sx) : Bool := s.rdr.isSome && P.hold
def ripeM (P : Pt) (s : Sx) : Option Int → Bool
  | none => false
  | some a => aheadM P.size a 0 && (match s.rdr with | none => true | some (r, _) => if P.hold then aheadM P.size a r else true)
def mostM (P : Pt) (s : Sx) : Int := match s.rdr with
  | none => P.freeze
  | some (r, _) => if P.hold then (if r > P.freeze then r else P.freeze) else P.freeze
def lateM (P : Pt) (s : Sx) : Row := match s.row with
  | none => none
  | some (a, b) => if ripeM P s b then none else match a with
    | none => some (none, b)
    | some x => if ripeM P s (some x) && decide (P.freeze ≤ x) then some (none, b) else some (some x, b)
def passedM (P : Pt) (s : Sx) : Sx where
  row := lateM P s
  rdr := s.rdr
  tb := if s.tb < mostM P s then s.tb else mostM P s
theorem sh_yes : SeqAt.shaped (.str "yes") = true := by decide +kernel
theorem sh_eH (b : Bool) : SeqAt.shaped (eH b) = true := by cases b <;> decide +kernel
theorem eqv_hold (b : Bool) : PyData.eqv (eH b) (.str "yes") = b := by cases b <;> decide +kernel
theorem older_int {P : Pt} (h : PtOk P) (x : Int) : f_older [.whl (eW P), .d (.int x)] = some (.d (.int ((x + 1) % P.size))) := f_older_eq h (some x)
theorem f_is_held_eq (P : Pt) (s : Sx) : f_is_held [.whl (eW P), .d (eS s)] = some (.d (.bool (heldM P s))) := by
  cases h : s.rdr <;> simp [f_is_held, runF, runS, c_is_held, gFld, at_hold, gIsNot, eS, gIx, ix1, heldM, h, gEq, sh_eH, sh_yes, eqv_hold]
theorem f_numbered_eq {P : Pt} (h : PtOk P) (s : Sx) (ht : s.tb ≤ P.size) : f_numbered [.whl (eW P), .d (eS s)] = some (.d (eS (givenM P s))) := by
  have e : (if P.size < s.tb + 1 then P.size else s.tb + 1) = (if s.tb < P.size then s.tb + 1 else s.tb) := by split <;> split <;> omega
  obtain ⟨row, rdr, tb⟩ := s
  simp only at e
  cases hc : P.cut with
  | none =>
    rcases row with _ | ⟨a, b⟩ <;> rcases rdr with _ | ⟨x, k⟩ <;>
      simp [f_numbered, runF, runS, c_numbered, eS, splT, gIsNot, gIx, jx0, jx1, f_older_eq h, older_int h, gTup, allD, givenM, hc, at_cut, gFld, gGe, gMin, gAdd, at_size, e]
  | some c =>
    rcases row with _ | ⟨a, b⟩ <;> rcases rdr with _ | ⟨x, k⟩
    · simp [f_numbered, runF, runS, c_numbered, eS, splT, gIsNot, gIx, jx0, jx1, f_older_eq h, older_int h, gTup, allD, givenM, hc, at_cut, gFld, gGe, gMin, gAdd, at_size, e]
    · by_cases hx : c ≤ (x + 1) % P.size <;> simp [f_numbered, runF, runS, c_numbered, eS, splT, gIsNot, gIx, jx0, jx1, f_older_eq h, older_int h, gTup, allD, givenM, hc, at_cut, gFld, gGe, gMin, gAdd, at_size, e, hx]
    · simp [f_numbered, runF, runS, c_numbered, eS, splT, gIsNot, gIx, jx0, jx1, f_older_eq h, older_int h, gTup, allD, givenM, hc, at_cut, gFld, gGe, gMin, gAdd, at_size, e]
    · by_cases hx : c ≤ (x + 1) % P.size <;> simp [f_numbered, runF, runS, c_numbered, eS, splT, gIsNot, gIx, jx0, jx1, f_older_eq h, older_int h, gTup, allD, givenM, hc, at_cut, gFld, gGe, gMin, gAdd, at_size, e, hx]
theorem f_is_ripe_eq {P : Pt} (h : PtOk P) (s : Sx) (a : Option Int) : f_is_ripe [.whl (eW P), .d (eS s), .d (eO a)] = some (.d (.bool (ripeM P s a))) := by
  have hh := f_is_held_eq P s
  rcases a with _ | a
  · simp [f_is_ripe, runF, runS, c_is_ripe, gIs, ripeM]
  · cases z : aheadM P.size a 0
    · simp [f_is_ripe, runF, runS, c_is_ripe, gIs, ripeM, f_before_eq h, z]
    · obtain ⟨row, rdr, tb⟩ := s
      rcases rdr with _ | ⟨x, k⟩
      · simp [f_is_ripe, runF, runS, c_is_ripe, gIs, ripeM, f_before_eq h, z, hh, heldM]
      · cases z2 : P.hold
        · simp [f_is_ripe, runF, runS, c_is_ripe, gIs, ripeM, f_before_eq h, z, hh, heldM, z2]
        · have hh2 : f_is_held [.whl (eW P), .d (.tuple [eRow row, .tuple [.int x, .bool k], .int tb])] = some (.d (.bool true)) := by
            have q := hh
            simpa [eS, heldM, z2] using q
          simp [f_is_ripe, runF, runS, c_is_ripe, gIs, ripeM, f_before_eq h, z, heldM, z2, eS, gIx, ix1, jx0, hh2]
theorem f_passed_eq {P : Pt} (h : PtOk P) (s : Sx) : f_passed [.whl (eW P), .d (eS s)] = some (.d (eS (passedM P s))) := by
  have hh := f_is_held_eq P s
  have r1 : ∀ a, f_is_ripe [.whl (eW P), .d (eS s), .d (eO a)] = some (.d (.bool (ripeM P s a))) := f_is_ripe_eq h s
  have e : ∀ m : Int, (if m < s.tb then m else s.tb) = (if s.tb < m then s.tb else m) := fun m => by split <;> split <;> omega
  obtain ⟨row, rdr, tb⟩ := s
  have e2 : ∀ m : Int, f_is_held [.whl (eW P), .d (.tuple [eRow row, eRdr rdr, .int tb])] = some (.d (.bool (heldM P ⟨row, rdr, tb⟩))) := fun _ => hh
  have key : ∀ (mm : Int), mostM P ⟨row, rdr, tb⟩ = mm → (sSeq (sSet 3 (cVar 4))
  (sSeq (sIf (cT (cBin gIsNot (cVar 4) (cK .none))) (sIf (cT (cApp f_is_ripe (cCons (cVar 0) (cCons (cVar 1) (cCons (cBin gIx (cVar 4) (cK (.int 1))) cNil))))) (sSet 3 (cK .none)) (sIf (cAnd (cT (cApp f_is_ripe (cCons (cVar 0) (cCons (cVar 1) (cCons (cBin gIx (cVar 4) (cK (.int 0))) cNil))))) (cT (cBin gGe (cBin gIx (cVar 4) (cK (.int 0))) (cUn (gFld "freeze") (cVar 0))))) (sSet 3 (cApp gTup (cCons (cK .none) (cCons (cBin gIx (cVar 4) (cK (.int 1))) cNil)))) sNil)) sNil)
  (sRet (cApp gTup (cCons (cVar 3) (cCons (cVar 5) (cCons (cApp gMin (cCons (cVar 6) (cCons (cVar 2) cNil))) cNil)))))))
      [some (.whl (eW P)), some (.d (eS ⟨row, rdr, tb⟩)), some (.d (.int mm)), none, some (.d (eRow row)), some (.d (eRdr rdr)), some (.d (.int tb))] = some (.inr (.d (eS (passedM P ⟨row, rdr, tb⟩)))) := by
    intro mm hm
    have e3 := e mm
    simp only at e3
    rcases row with _ | ⟨a, b⟩
    · simp [gIsNot, gTup, allD, gMin, e3, eS, passedM, lateM, hm]
    · have hb := r1 b
      cases zb : ripeM P ⟨some (a, b), rdr, tb⟩ b
      · rcases a with _ | x
        · have ha := r1 none
          rw [show ripeM P ⟨some (none, b), rdr, tb⟩ none = false from rfl] at ha
          rw [zb] at hb
          simp only [eO_none] at ha
          simp [gIsNot, gIx, jx0, jx1, hb, ha, gTup, allD, gMin, e3, passedM, lateM, zb, hm]
          simp [eS]
        · have ha := r1 (some x)
          rw [zb] at hb
          simp only [eO_some] at ha
          cases za : ripeM P ⟨some (some x, b), rdr, tb⟩ (some x)
          · rw [za] at ha
            simp [gIsNot, gIx, jx0, jx1, hb, ha, gTup, allD, gMin, e3, passedM, lateM, zb, za, hm]
            simp [eS]
          · rw [za] at ha
            by_cases hx : P.freeze ≤ x
            · simp [gIsNot, gIx, jx0, jx1, hb, ha, gTup, allD, gMin, e3, passedM, lateM, zb, za, hm, gGe, gFld, at_freeze, hx]
              simp [eS]
            · simp [gIsNot, gIx, jx0, jx1, hb, ha, gTup, allD, gMin, e3, passedM, lateM, zb, za, hm, gGe, gFld, at_freeze, hx]
              simp [eS]
      · rw [zb] at hb
        simp [gIsNot, gIx, jx0, jx1, hb, gTup, allD, gMin, e3, passedM, lateM, zb, hm]
        simp [eS]
  have fin : c_passed [some (.whl (eW P)), some (.d (eS ⟨row, rdr, tb⟩)), none, none, none, none, none] = some (.inr (.d (eS (passedM P ⟨row, rdr, tb⟩)))) := by
    unfold c_passed
    rw [ev_sSeq]
    have h1 : sUnp [4, 5, 6] splT (cVar 1) [some (.whl (eW P)), some (.d (eS ⟨row, rdr, tb⟩)), none, none, none, none, none] = some (.inl [some (.whl (eW P)), some (.d (eS ⟨row, rdr, tb⟩)), none, none, some (.d (eRow row)), some (.d (eRdr rdr)), some (.d (.int tb))]) := by simp [eS, splT]
    rw [h1]
    show sSeq _ _ _ = _
    rw [ev_sSeq]
    have h2 : sSet 2 (cIf (cT (cApp f_is_held (cCons (cVar 0) (cCons (cVar 1) cNil)))) (cApp gMax (cCons (cUn (gFld "freeze") (cVar 0)) (cCons (cBin gIx (cVar 5) (cK (.int 0))) cNil))) (cUn (gFld "freeze") (cVar 0))) [some (.whl (eW P)), some (.d (eS ⟨row, rdr, tb⟩)), none, none, some (.d (eRow row)), some (.d (eRdr rdr)), some (.d (.int tb))]
        = some (.inl [some (.whl (eW P)), some (.d (eS ⟨row, rdr, tb⟩)), some (.d (.int (mostM P ⟨row, rdr, tb⟩))), none, some (.d (eRow row)), some (.d (eRdr rdr)), some (.d (.int tb))]) := by
      rcases rdr with _ | ⟨x, k⟩
      · simp [hh, heldM, gFld, at_freeze, mostM]
      · cases z : P.hold <;> simp [hh, heldM, gFld, at_freeze, mostM, z, gMax, gIx, jx0]
    rw [h2]
    exact key _ rfl
  simp only [f_passed, runF, runS]
  have fin2 := fin
  simp only [List.length_cons, List.length_nil, List.map_cons, List.map_nil]
  show (match c_passed [some (.whl (eW P)), some (.d (eS ⟨row, rdr, tb⟩)), none, none, none, none, none] with
    | some (.inr d) => some d | some (.inl _) => some (.d .none) | none => none) = _
  rw [fin]
end LNm
set_option maxHeartbeats 4000000
/-! What the readings answer on encoded data: deeds; the law's own, one state. -/
namespace LNm
open PySem LNi LNt LNp
inductive Wd where
  | tick | write | strike | op | close | pass
  deriving DecidableEq
def wS : Wd → Str
  | .tick => "tick"
  | .write => "write"
  | .strike => "strike"
  | .op => "open"
  | .close => "close"
  | .pass => "pass"
def wD (a : Wd) : PyData := .str (wS a)
theorem eqw (a b : Wd) : PyData.eqv (.str (wS a)) (.str (wS b)) = decide (a = b) := by cases a <;> cases b <;> decide +kernel
theorem shw (a : Wd) : SeqAt.shaped (.str (wS a)) = true := by cases a <;> decide +kernel
theorem geq_pass (a : Wd) : gEq (.d (.str (wS a))) (.d (.str "pass")) = some (.d (.bool (decide (a = .pass)))) := by
  have e := eqw a .pass
  show (if _ ∧ _ then _ else _) = _
  rw [if_pos ⟨shw a, shw .pass⟩]; exact congrArg (fun b => some (Dv.d (.bool b))) e
theorem geq_open (a : Wd) : gEq (.d (.str (wS a))) (.d (.str "open")) = some (.d (.bool (decide (a = .op)))) := by
  have e := eqw a .op
  show (if _ ∧ _ then _ else _) = _
  rw [if_pos ⟨shw a, shw .op⟩]; exact congrArg (fun b => some (Dv.d (.bool b))) e
theorem geq_close (a : Wd) : gEq (.d (.str (wS a))) (.d (.str "close")) = some (.d (.bool (decide (a = .close)))) := by
  have e := eqw a .close
  show (if _ ∧ _ then _ else _) = _
  rw [if_pos ⟨shw a, shw .close⟩]; exact congrArg (fun b => some (Dv.d (.bool b))) e
theorem geq_write (a : Wd) : gEq (.d (.str (wS a))) (.d (.str "write")) = some (.d (.bool (decide (a = .write)))) := by
  have e := eqw a .write
  show (if _ ∧ _ then _ else _) = _
  rw [if_pos ⟨shw a, shw .write⟩]; exact congrArg (fun b => some (Dv.d (.bool b))) e
theorem geq_strike (a : Wd) : gEq (.d (.str (wS a))) (.d (.str "strike")) = some (.d (.bool (decide (a = .strike)))) := by
  have e := eqw a .strike
  show (if _ ∧ _ then _ else _) = _
  rw [if_pos ⟨shw a, shw .strike⟩]; exact congrArg (fun b => some (Dv.d (.bool b))) e
/-- what a deed makes of a state -/
def doneM (P : Pt) (s : Sx) : Wd → Sx
  | .pass => passedM P s
  | .op => ⟨s.row, some (0, thereM s.row), s.tb⟩
  | .close => ⟨s.row, none, s.tb⟩
  | .tick => givenM P s
  | .write => { givenM P s with row := some (some 0, none) }
  | .strike => { givenM P s with row := (givenM P s).row.map fun q => (q.1, some 0) }
theorem f_done_eq {P : Pt} (h : PtOk P) (s : Sx) (ht : s.tb ≤ P.size) (a : Wd) (hs : a = .strike → s.row.isSome = true) : f_done [.whl (eW P), .d (eS s), .d (.str (wS a))] = some (.d (eS (doneM P s a))) := by
  have h1 := f_passed_eq h s
  have h2 := f_numbered_eq h s ht
  have h3 := f_is_there_eq s.row
  cases a
  · simp only [f_done, runF, runS, c_done]
    simp [geq_pass, geq_open, geq_close, geq_write, geq_strike, h2]
    simp [eS, splT, gTup, allD, doneM, geq_write, geq_strike]
  · simp only [f_done, runF, runS, c_done]
    simp [geq_pass, geq_open, geq_close, geq_write, geq_strike, h2]
    simp [eS, splT, gTup, allD, doneM, geq_write, geq_strike]
  · simp only [f_done, runF, runS, c_done]
    simp [geq_pass, geq_open, geq_close, geq_write, geq_strike, h2]
    obtain ⟨row, rdr, tb⟩ := s
    have hr := hs rfl
    rcases row with _ | ⟨x, y⟩
    · cases hr
    · simp [eS, splT, gTup, allD, doneM, givenM, gIx, jx0, geq_write, geq_strike]
  · simp only [f_done, runF, runS, c_done]
    simp [geq_pass, geq_open, geq_close, geq_write, geq_strike]
    simp [eS, gIx, ix0, ix2, h3, gTup, allD, doneM]
  · simp only [f_done, runF, runS, c_done]
    simp [geq_pass, geq_open, geq_close, geq_write, geq_strike]
    simp [eS, gIx, ix0, ix2, gTup, allD, doneM]
  · simp only [f_done, runF, runS, c_done]
    simp [geq_pass, h1, doneM]
/-- the deeds that a state allows -/
def deedsM (P : Pt) (s : Sx) : List Wd :=
  (if !stoppedM P s.tb then [.tick] else []) ++ (if !stoppedM P s.tb && s.row.isNone then [.write] else []) ++ (if !stoppedM P s.tb && thereM s.row then [.strike] else []) ++ (if s.rdr.isNone then [.op] else []) ++ (if s.rdr.isSome then [.close] else []) ++ [.pass]
theorem lc_deeds (ρ : En) (b1 b2 b3 b4 b5 : Bool) (h3 : ∀ x, (ρ.set 7 x)[3]? = some (some (.odc [("tick", b1), ("write", b2), ("strike", b3), ("open", b4), ("close", b5), ("pass", true)]))) (h7 : ∀ x, (ρ.set 7 (some x))[7]? = some (some x)) :
    lcGo [7] spl1 (cT (cDget 3 (cVar 7))) (cVar 7) ρ [.str "tick", .str "write", .str "strike", .str "open", .str "close", .str "pass"] =
      some (((if b1 then [Wd.tick] else []) ++ (if b2 then [Wd.write] else []) ++ (if b3 then [Wd.strike] else []) ++ (if b4 then [Wd.op] else []) ++ (if b5 then [Wd.close] else []) ++ [Wd.pass]).map wD) := by
  have hd : ∀ w : Wd, cT (cDget 3 (cVar 7)) (ρ.set 7 (some (.d (.str (wS w))))) = some (match w with | .tick => b1 | .write => b2 | .strike => b3 | .op => b4 | .close => b5 | .pass => true) := by
    intro w
    unfold cT cDget cVar
    rw [h3, h7]
    cases w <;> rfl
  have hv : ∀ w : Wd, cVar 7 (ρ.set 7 (some (.d (.str (wS w))))) = some (.d (.str (wS w))) := fun w => by unfold cVar; rw [h7]
  have one : ∀ (w : Wd) (rest : List PyData), lcGo [7] spl1 (cT (cDget 3 (cVar 7))) (cVar 7) ρ (wD w :: rest) = (match lcGo [7] spl1 (cT (cDget 3 (cVar 7))) (cVar 7) ρ rest with
      | some r => some ((if (match w with | .tick => b1 | .write => b2 | .strike => b3 | .op => b4 | .close => b5 | .pass => true) then [wD w] else []) ++ r) | none => none) := by
    intro w rest
    rw [lcGo]
    simp only [spl1, wD, List.length_cons, List.length_nil, List.map_cons, List.map_nil, setAll_cons, setAll_nil, if_true]
    have e1 := hd w
    have e2 := hv w
    rw [e1]
    cases hz : (match w with | .tick => b1 | .write => b2 | .strike => b3 | .op => b4 | .close => b5 | .pass => true) with
    | true => simp only []; rw [e2]; cases lcGo [7] spl1 (cT (cDget 3 (cVar 7))) (cVar 7) ρ rest <;> simp
    | false => simp only []; cases lcGo [7] spl1 (cT (cDget 3 (cVar 7))) (cVar 7) ρ rest <;> simp
  show lcGo [7] spl1 (cT (cDget 3 (cVar 7))) (cVar 7) ρ [wD .tick, wD .write, wD .strike, wD .op, wD .close, wD .pass] = _
  rw [one, one, one, one, one, one, lcGo]
  cases b1 <;> cases b2 <;> cases b3 <;> cases b4 <;> cases b5 <;> rfl
end LNm
set_option maxHeartbeats 4000000
/-! What the readings answer on encoded data: deeds_in, what stands broken; the law's own, one state. -/
namespace LNm
open PySem LNi LNt LNp
theorem runF_eq {c : SmS} {a n : Nat} {ds : List Dv} {d : Dv} (hl : ds.length = a) (h : c (ds.map some ++ List.replicate (n - ds.length) none) = some (.inr d)) : runF c a n ds = some d := by
  unfold runF runS
  rw [if_pos hl, h]
theorem cLc_of {c : En → Option (List PyData)} {js vs : List Nat} {spl : PyData → Option (List PyData)} {b : SmB} {e : Sm} {ρ : En} {ds ys : List PyData} (h1 : c ρ = some ds) (hl : ds.length ≤ 100000) (h2 : lcGo js spl b e (wipeD ρ vs) ds = some ys) : cLc c js spl vs b e ρ = some (.d (.list ys)) := by
  unfold cLc
  rw [h1]
  simp only []
  rw [if_pos hl, h2]
theorem f_deeds_in_eq (P : Pt) (s : Sx) : f_deeds_in [.whl (eW P), .d (eS s)] = some (.d (.list ((deedsM P s).map wD))) := by
  have h1 := f_is_stopped_eq P s
  have h2 := f_is_there_eq s.row
  have step : ∀ (b1 b2 b3 b4 b5 : Bool), (!stoppedM P s.tb) = b1 → ((!stoppedM P s.tb) && s.row.isNone) = b2 → ((!stoppedM P s.tb) && thereM s.row) = b3 → s.rdr.isNone = b4 → s.rdr.isSome = b5 →
      f_deeds_in [.whl (eW P), .d (eS s)] = some (.d (.list (((if b1 then [Wd.tick] else []) ++ (if b2 then [Wd.write] else []) ++ (if b3 then [Wd.strike] else []) ++ (if b4 then [Wd.op] else []) ++ (if b5 then [Wd.close] else []) ++ [Wd.pass]).map wD))) := by
    intro b1 b2 b3 b4 b5 e1 e2 e3 e4 e5
    have a1 : sUnp [4, 5, 6] splT (cVar 1) [some (.whl (eW P)), some (.d (eS s)), none, none, none, none, none, none] = some (.inl [some (.whl (eW P)), some (.d (eS s)), none, none, some (.d (eRow s.row)), some (.d (eRdr s.rdr)), some (.d (.int s.tb)), none]) := by simp [eS, splT]
    have a2 : sSet 2 (cV (cNot (cT (cApp f_is_stopped (cCons (cVar 0) (cCons (cVar 1) cNil)))))) [some (.whl (eW P)), some (.d (eS s)), none, none, some (.d (eRow s.row)), some (.d (eRdr s.rdr)), some (.d (.int s.tb)), none] = some (.inl [some (.whl (eW P)), some (.d (eS s)), some (.d (.bool b1)), none, some (.d (eRow s.row)), some (.d (eRdr s.rdr)), some (.d (.int s.tb)), none]) := by
      simp [h1, e1]
    have a3 : sDict 3 [("tick", (cVar 2)), ("write", (cV (cAnd (cT (cVar 2)) (cT (cBin gIs (cVar 4) (cK .none)))))), ("strike", (cV (cAnd (cT (cVar 2)) (cT (cApp f_is_there (cCons (cVar 4) cNil))))))] [some (.whl (eW P)), some (.d (eS s)), some (.d (.bool b1)), none, some (.d (eRow s.row)), some (.d (eRdr s.rdr)), some (.d (.int s.tb)), none]
        = some (.inl [some (.whl (eW P)), some (.d (eS s)), some (.d (.bool b1)), some (.odc [("tick", b1), ("write", b2), ("strike", b3)]), some (.d (eRow s.row)), some (.d (eRdr s.rdr)), some (.d (.int s.tb)), none]) := by
      have ev : evK [("tick", (cVar 2)), ("write", (cV (cAnd (cT (cVar 2)) (cT (cBin gIs (cVar 4) (cK .none)))))), ("strike", (cV (cAnd (cT (cVar 2)) (cT (cApp f_is_there (cCons (cVar 4) cNil))))))] [some (.whl (eW P)), some (.d (eS s)), some (.d (.bool b1)), none, some (.d (eRow s.row)), some (.d (eRdr s.rdr)), some (.d (.int s.tb)), none] = some ([("tick", b1), ("write", b2), ("strike", b3)] : List (Str × Bool)) := by
        rw [e1] at e2 e3
        cases b1 <;> simp [evK, gIs, h2] at e2 e3 ⊢ <;> simp [e2, e3]
      unfold sDict
      rw [ev]
      rfl
    have a4 : ∀ ρ, sSeq (sDput 3 "open" (cBin gIs (cVar 5) (cK .none))) (sSeq (sDput 3 "close" (cBin gIsNot (cVar 5) (cK .none))) (sSeq (sDput 3 "pass" (cK (.bool true))) ρ)) [some (.whl (eW P)), some (.d (eS s)), some (.d (.bool b1)), some (.odc [("tick", b1), ("write", b2), ("strike", b3)]), some (.d (eRow s.row)), some (.d (eRdr s.rdr)), some (.d (.int s.tb)), none]
        = ρ [some (.whl (eW P)), some (.d (eS s)), some (.d (.bool b1)), some (.odc [("tick", b1), ("write", b2), ("strike", b3), ("open", b4), ("close", b5), ("pass", true)]), some (.d (eRow s.row)), some (.d (eRdr s.rdr)), some (.d (.int s.tb)), none] := by
      intro ρ
      rcases hr : s.rdr with _ | ⟨x, k⟩
      · rw [hr] at e4 e5
        obtain rfl : true = b4 := e4
        obtain rfl : false = b5 := e5
        rfl
      · rw [hr] at e4 e5
        obtain rfl : false = b4 := e4
        obtain rfl : true = b5 := e5
        rfl
    refine runF_eq rfl ?_
    show c_deeds_in [some (.whl (eW P)), some (.d (eS s)), none, none, none, none, none, none] = _
    have lc := lc_deeds [some (.whl (eW P)), some (.d (eS s)), some (.d (.bool b1)), some (.odc [("tick", b1), ("write", b2), ("strike", b3), ("open", b4), ("close", b5), ("pass", true)]), some (.d (eRow s.row)), some (.d (eRdr s.rdr)), some (.d (.int s.tb)), none] b1 b2 b3 b4 b5 (fun x => rfl) (fun x => rfl)
    have a5 : cLc (jTup (cK d_DEEDS)) [7] spl1 [7] (cT (cDget 3 (cVar 7))) (cVar 7) [some (.whl (eW P)), some (.d (eS s)), some (.d (.bool b1)), some (.odc [("tick", b1), ("write", b2), ("strike", b3), ("open", b4), ("close", b5), ("pass", true)]), some (.d (eRow s.row)), some (.d (eRdr s.rdr)), some (.d (.int s.tb)), none]
        = some (.d (.list (((if b1 then [Wd.tick] else []) ++ (if b2 then [Wd.write] else []) ++ (if b3 then [Wd.strike] else []) ++ (if b4 then [Wd.op] else []) ++ (if b5 then [Wd.close] else []) ++ [Wd.pass]).map wD))) := cLc_of (ds := [.str "tick", .str "write", .str "strike", .str "open", .str "close", .str "pass"]) rfl (by decide) lc
    unfold c_deeds_in
    rw [ev_sSeq, a1]
    show sSeq _ _ _ = _
    rw [ev_sSeq, a2]
    show sSeq _ _ _ = _
    rw [ev_sSeq, a3]
    show sSeq _ _ _ = _
    rw [a4, ev_ret, a5]
  have := step _ _ _ _ _ rfl rfl rfl rfl rfl
  rw [this]
  rfl
def duesM (s : Sx) : List (Bool × Int) := (thereM s.row, 0) :: (match s.rdr with | none => [] | some (a, k) => [(k, a)])
theorem f_somebody_eq (s : Sx) : f_somebody [.d (eS s)] = some (.d (.list ((duesM s).map fun q => .tuple [.bool q.1, .int q.2]))) := by
  have h2 := f_is_there_eq s.row
  obtain ⟨row, rdr, tb⟩ := s
  simp only at h2
  rcases rdr with _ | ⟨a, k⟩ <;> simp [f_somebody, runF, runS, c_somebody, eS, splT, h2, gTup, gLst, allD, gIs, duesM, gAdd, gIx, jx0, jx1]
/-- ghosts, gone rows -/
def hasM (a b : Bool) (l : List (Bool × Bool)) : Bool := l.any fun q => q.1 == a && q.2 == b
def viewM (P : Pt) (s : Sx) : List (Bool × Bool) := (duesM s).map fun q => (q.1, seesM P s.row q.2)
def overM (P : Pt) (s : Sx) : Bool := stoppedM P s.tb && stoppedM P (passedM P s).tb
theorem eqv_bb (a b c d : Bool) : PyData.eqv (.tuple [.bool a, .bool b]) (.tuple [.bool c, .bool d]) = (a == c && b == d) := by cases a <;> cases b <;> cases c <;> cases d <;> decide +kernel
theorem sh_bb (a b : Bool) : SeqAt.shaped (.tuple [.bool a, .bool b]) = true := by cases a <;> cases b <;> decide +kernel
theorem any_bb (a b : Bool) : ∀ l : List (Bool × Bool), ((l.map fun q => PyData.tuple [.bool q.1, .bool q.2]).any fun z => PyData.eqv z (.tuple [.bool a, .bool b])) = hasM a b l
  | [] => rfl
  | q :: r => by
    have ih := any_bb a b r
    unfold hasM at ih ⊢
    rw [List.map_cons, List.any_cons, List.any_cons, eqv_bb, ih]
theorem view_sh (P : Pt) (s : Sx) : SeqAt.shaped (.list ((viewM P s).map fun q => PyData.tuple [.bool q.1, .bool q.2])) = true := by
  obtain ⟨row, rdr, tb⟩ := s
  unfold viewM duesM
  rcases rdr with _ | ⟨a, k⟩
  · generalize thereM row = x
    simp only [List.map_cons, List.map_nil]
    generalize seesM P row 0 = y
    cases x <;> cases y <;> decide +kernel
  · generalize thereM row = x
    simp only [List.map_cons, List.map_nil]
    generalize seesM P row 0 = y
    generalize seesM P row a = z
    cases x <;> cases y <;> cases z <;> cases k <;> decide +kernel
theorem gin_bb (P : Pt) (s : Sx) (a b : Bool) : gIn (.d (.tuple [.bool a, .bool b])) (.d (.list ((viewM P s).map fun q => PyData.tuple [.bool q.1, .bool q.2]))) = some (.d (.bool (hasM a b (viewM P s)))) := by
  show (if _ ∧ _ then _ else _) = _
  rw [if_pos ⟨sh_bb a b, view_sh P s⟩, any_bb]
end LNm
set_option maxHeartbeats 4000000
/-! What the readings answer on encoded data: what stands broken; the law's own, one state. -/
namespace LNm
open PySem LNi LNt LNp
inductive Ws where
  | early | ghost | gone | stands
  deriving DecidableEq
def xS : Ws → Str
  | .early => "early"
  | .ghost => "ghost"
  | .gone => "gone"
  | .stands => "stands"
def xD (a : Ws) : PyData := .str (xS a)
theorem eqx (a b : Ws) : PyData.eqv (.str (xS a)) (.str (xS b)) = decide (a = b) := by cases a <;> cases b <;> decide +kernel
theorem shx (a : Ws) : SeqAt.shaped (.str (xS a)) = true := by cases a <;> decide +kernel
theorem gqx (a b : Ws) : gEq (.d (.str (xS a))) (.d (.str (xS b))) = some (.d (.bool (decide (a = b)))) := by
  show (if _ ∧ _ then _ else _) = _
  rw [if_pos ⟨shx a, shx b⟩]; exact congrArg (fun b => some (Dv.d (.bool b))) (eqx a b)
theorem gq_stands (a : Ws) : gEq (.d (.str (xS a))) (.d (.str "stands")) = some (.d (.bool (decide (a = .stands)))) := gqx a .stands
theorem gq_ghost (a : Ws) : gEq (.d (.str (xS a))) (.d (.str "ghost")) = some (.d (.bool (decide (a = .ghost)))) := gqx a .ghost
theorem gq_gone (a : Ws) : gEq (.d (.str (xS a))) (.d (.str "gone")) = some (.d (.bool (decide (a = .gone)))) := gqx a .gone
def wishM (P : Pt) (s : Sx) : Ws → Bool
  | .early => false
  | .ghost => hasM false true (viewM P s)
  | .gone => hasM true false (viewM P s)
  | .stands => overM P s
theorem f_stands_broken_eq {P : Pt} (h : PtOk P) (s : Sx) (a : Ws) : f_stands_broken [.whl (eW P), .d (eS s), .d (.str (xS a))] = some (.d (.bool (wishM P s a))) := by
  have h1 := f_is_stopped_eq P s
  have h2 := f_passed_eq h s
  have h3 := f_is_stopped_eq P (passedM P s)
  have h4 := f_somebody_eq s
  have h5 := f_sees_eq h s.row
  have gb := gin_bb P s
  have ix : gIx (.d (eS s)) (.d (.int 0)) = some (.d (eRow s.row)) := rfl
  have lc : cLc (jList (cApp f_somebody (cCons (cVar 1) cNil))) [4, 5] splT [4, 5] (fun _ => some true) (cApp gTup (cCons (cVar 4) (cCons (cApp f_sees (cCons (cVar 0) (cCons (cBin gIx (cVar 1) (cK (.int 0))) (cCons (cVar 5) cNil)))) cNil))) [some (.whl (eW P)), some (.d (eS s)), some (.d (.str (xS a))), none, none, none]
      = some (.d (.list ((viewM P s).map fun q => PyData.tuple [.bool q.1, .bool q.2]))) := by
    refine cLc_of (ds := (duesM s).map fun q => .tuple [.bool q.1, .int q.2]) (by simp [jList, h4]) (by rw [List.length_map]; unfold duesM; split <;> simp) ?_
    unfold viewM duesM
    rcases hr : s.rdr with _ | ⟨x, k⟩ <;> simp [lcGo, splT, wipeD, ix, h5, gTup, allD]
  refine runF_eq rfl ?_
  show c_stands_broken [some (.whl (eW P)), some (.d (eS s)), some (.d (.str (xS a))), none, none, none] = _
  unfold c_stands_broken
  cases a
  · rw [ev_sSeq]
    simp only [ev_sIf, ev_T, ev_bin, ev_k]
    simp [gq_stands, lc, gq_ghost, gq_gone, wishM]
  · simp [gq_stands, lc, gq_ghost, gq_gone, wishM, gTup, allD, gb]
  · simp [gq_stands, lc, gq_ghost, gq_gone, wishM, gTup, allD, gb]
  · cases z : stoppedM P s.tb <;> simp [gq_stands, h1, h2, h3, wishM, overM, z]
/-! ### the law's own -/
theorem px0 (P : Pt) : gIx (.d (eP P)) (.d (.int 0)) = some (.d (.int P.size)) := rfl
theorem px1 (P : Pt) : gIx (.d (eP P)) (.d (.int 1)) = some (.d (.int P.freeze)) := rfl
theorem px2 (P : Pt) : gIx (.d (eP P)) (.d (.int 2)) = some (.d (eO P.stop)) := rfl
theorem px3 (P : Pt) : gIx (.d (eP P)) (.d (.int 3)) = some (.d (eH P.hold)) := rfl
theorem px4 (P : Pt) : gIx (.d (eP P)) (.d (.int 4)) = some (.d (eO P.cut)) := rfl
theorem sx0 (s : Sx) : gIx (.d (eS s)) (.d (.int 0)) = some (.d (eRow s.row)) := rfl
theorem sx1 (s : Sx) : gIx (.d (eS s)) (.d (.int 1)) = some (.d (eRdr s.rdr)) := rfl
theorem sx2 (s : Sx) : gIx (.d (eS s)) (.d (.int 2)) = some (.d (.int s.tb)) := rfl
theorem l_is_ahead_eq {P : Pt} (h : PtOk P) (a p : Int) : f_l_is_ahead [.d (eP P), .d (.int a), .d (.int p)] = some (.d (.bool (aheadM P.size a p))) := by
  simp [f_l_is_ahead, runF, runS, c_l_is_ahead, gSub, gMod, px0, h.pos, gDiv, gLt, aheadM]
theorem l_is_stopped_eq (P : Pt) (s : Sx) : f_l_is_stopped [.d (eP P), .d (eS s)] = some (.d (.bool (stoppedM P s.tb))) := by
  cases h : P.stop <;> simp [f_l_is_stopped, runF, runS, c_l_is_stopped, px2, gIsNot, sx2, gGe, stoppedM, h]
theorem rx0 (a b : Option Int) : gIx (.d (.tuple [eO a, eO b])) (.d (.int 0)) = some (.d (eO a)) := rfl
theorem rx1 (a b : Option Int) : gIx (.d (.tuple [eO a, eO b])) (.d (.int 1)) = some (.d (eO b)) := rfl
theorem kx0 (a b : PyData) : gIx (.d (.tuple [a, b])) (.d (.int 0)) = some (.d a) := rfl
theorem kx1 (a b : PyData) : gIx (.d (.tuple [a, b])) (.d (.int 1)) = some (.d b) := rfl
theorem l_sees_eq {P : Pt} (h : PtOk P) (r : Row) (p : Int) : f_l_sees [.d (eP P), .d (eRow r), .d (.int p)] = some (.d (.bool (seesM P r p))) := by
  have ha := fun a => l_is_ahead_eq h a p
  rcases r with _ | ⟨_ | a, _ | b⟩
  · simp [f_l_sees, runF, runS, c_l_sees, gIs, seesM]
  · simp [f_l_sees, runF, runS, c_l_sees, gIs, gIsNot, seesM, kx0, kx1]
  · simp [f_l_sees, runF, runS, c_l_sees, gIs, gIsNot, seesM, kx0, kx1, ha]
  · cases z : aheadM P.size a p <;> simp [f_l_sees, runF, runS, c_l_sees, gIs, gIsNot, seesM, kx0, kx1, ha, z]
  · cases z : aheadM P.size a p <;> simp [f_l_sees, runF, runS, c_l_sees, gIs, gIsNot, seesM, kx0, kx1, ha, z]
theorem l_aged_eq {P : Pt} (h : PtOk P) (a : Option Int) : f_l_aged [.d (eP P), .d (eO a)] = some (.d (eO (agedM P a))) := by
  cases a <;> simp [f_l_aged, runF, runS, c_l_aged, gIs, agedM, gAdd, gMod, px0, h.pos]
theorem l_aged_int {P : Pt} (h : PtOk P) (a : Int) : f_l_aged [.d (eP P), .d (.int a)] = some (.d (.int ((a + 1) % P.size))) := l_aged_eq h (some a)
theorem l_given_eq {P : Pt} (h : PtOk P) (s : Sx) : f_l_given [.d (eP P), .d (eS s)] = some (.d (eS (givenM P s))) := by
  obtain ⟨row, rdr, tb⟩ := s
  have fin : ∀ (t : Bool), decide (tb < P.size) = t → f_l_given [.d (eP P), .d (eS ⟨row, rdr, tb⟩)] = some (.d (eS (givenM P ⟨row, rdr, tb⟩))) := by
    intro t ht
    have ht2 : (if tb < P.size then tb + 1 else tb) = (if t then tb + 1 else tb) := by
      cases t
      · rw [if_neg (of_decide_eq_false ht), if_neg (by decide)]
      · rw [if_pos (of_decide_eq_true ht), if_pos rfl]
    have es : eS ⟨row, rdr, tb⟩ = .tuple [eRow row, eRdr rdr, .int tb] := rfl
    have eg : eS (givenM P ⟨row, rdr, tb⟩) = .tuple [eRow (givenM P ⟨row, rdr, tb⟩).row, eRdr (givenM P ⟨row, rdr, tb⟩).rdr, .int (if t then tb + 1 else tb)] := by rw [← ht2]; rfl
    rw [eg, es]
    cases hc : P.cut with
    | none =>
      rcases row with _ | ⟨a, b⟩ <;> rcases rdr with _ | ⟨x, k⟩ <;> cases t <;>
        simp [f_l_given, runF, runS, c_l_given, splT, gIsNot, kx0, kx1, l_aged_eq h, l_aged_int h, gTup, allD, px4, hc, px0, gLt, ht, gAdd, givenM]
    | some c =>
      rcases rdr with _ | ⟨x, k⟩
      · rcases row with _ | ⟨a, b⟩ <;> cases t <;>
          simp [f_l_given, runF, runS, c_l_given, splT, gIsNot, kx0, kx1, l_aged_eq h, l_aged_int h, gTup, allD, px4, hc, px0, gLt, ht, gAdd, givenM]
      · by_cases hx : c ≤ (x + 1) % P.size
        · rcases row with _ | ⟨a, b⟩ <;> cases t <;>
            simp [f_l_given, runF, runS, c_l_given, splT, gIsNot, kx0, kx1, l_aged_eq h, l_aged_int h, gTup, allD, px4, hc, px0, gLt, ht, gAdd, givenM, gGe, hx]
        · rcases row with _ | ⟨a, b⟩ <;> cases t <;>
            simp [f_l_given, runF, runS, c_l_given, splT, gIsNot, kx0, kx1, l_aged_eq h, l_aged_int h, gTup, allD, px4, hc, px0, gLt, ht, gAdd, givenM, gGe, hx]
  exact fin _ rfl
end LNm
set_option maxHeartbeats 4000000
/-! What the readings answer on encoded data: the law's own passed, rows, broken. -/
namespace LNm
open PySem LNi LNt LNp
def picsM (P : Pt) (s : Sx) : List Int := match s.rdr with
  | none => [0]
  | some (r, _) => if P.hold then [0, r] else [0]
theorem ripe_pics (P : Pt) (s : Sx) (a : Int) : ripeM P s (some a) = (picsM P s).all (aheadM P.size a) := by
  unfold ripeM picsM
  rcases s.rdr with _ | ⟨r, k⟩
  · simp
  · cases P.hold <;> simp
theorem all_go {P : Pt} (h : PtOk P) (s : Sx) (a : Int) (row rdr tb : Dv) (m : Option Dv) (z : Option Dv) (j : Int) (hj : gIx row (.d (.int j)) = some (.d (.int a))) :
    cApp gAll (cCons (cLc (jList (cVar 5)) [8] spl1 [8] (fun _ => some true) (cApp f_l_is_ahead (cCons (cVar 0) (cCons (cBin gIx (cVar 2) (cK (.int j))) (cCons (cVar 8) cNil))))) cNil)
      [some (.d (eP P)), some (.d (eS s)), some row, some rdr, some tb, some (.d (.list ((picsM P s).map PyData.int))), m, z, none] = some (.d (.bool (ripeM P s (some a)))) := by
  have hrow : (match row with | .d x => some (Dv.d x) | .whl w => some (Dv.whl w) | .tbl w k => some (Dv.tbl w k) | _ => none) = some row := by
    cases row <;> first | rfl | cases hj
  have ha := fun p => l_is_ahead_eq h a p
  rw [ripe_pics]
  have lc : cLc (jList (cVar 5)) [8] spl1 [8] (fun _ => some true) (cApp f_l_is_ahead (cCons (cVar 0) (cCons (cBin gIx (cVar 2) (cK (.int j))) (cCons (cVar 8) cNil))))
      [some (.d (eP P)), some (.d (eS s)), some row, some rdr, some tb, some (.d (.list ((picsM P s).map PyData.int))), m, z, none] = some (.d (.list ((picsM P s).map fun p => PyData.bool (aheadM P.size a p)))) := by
    refine cLc_of (ds := (picsM P s).map PyData.int) (by simp [jList]) (by rw [List.length_map]; unfold picsM; split <;> (try split) <;> simp) ?_
    cases row with
    | d x =>
      unfold picsM
      rcases s.rdr with _ | ⟨r, k⟩
      · simp [lcGo, spl1, wipeD, hj, ha]
      · cases P.hold <;> simp [lcGo, spl1, wipeD, hj, ha]
    | _ => cases hj
  rw [ev_App, ev_Cons, lc]
  simp only [ev_Nil]
  have hb : blsOf ((picsM P s).map fun p => PyData.bool (aheadM P.size a p)) = some ((picsM P s).map (aheadM P.size a)) := by
    generalize picsM P s = l
    induction l with
    | nil => rfl
    | cons p r ih => rw [List.map_cons, List.map_cons, blsOf, ih]
  show (match blsOf _ with | some bs => some (Dv.d (.bool (bs.all id))) | none => none) = _
  rw [hb]
  simp [Function.comp_def, List.all_map]
theorem l_passed_eq {P : Pt} (h : PtOk P) (s : Sx) : f_l_passed [.d (eP P), .d (eS s)] = some (.d (eS (passedM P s))) := by
  obtain ⟨row, rdr, tb⟩ := s
  have ag := fun a z j hj => all_go h ⟨row, rdr, tb⟩ a (.d (eRow row)) (.d (eRdr rdr)) (.d (.int tb)) (some (.d (.int (mostM P ⟨row, rdr, tb⟩)))) z j hj
  refine runF_eq rfl ?_
  show c_l_passed [some (.d (eP P)), some (.d (eS ⟨row, rdr, tb⟩)), none, none, none, none, none, none, none] = _
  unfold c_l_passed
  have a1 : sUnp [2, 3, 4] splT (cVar 1) [some (.d (eP P)), some (.d (eS ⟨row, rdr, tb⟩)), none, none, none, none, none, none, none] = some (.inl [some (.d (eP P)), some (.d (eS ⟨row, rdr, tb⟩)), some (.d (eRow row)), some (.d (eRdr rdr)), some (.d (.int tb)), none, none, none, none]) := by simp [eS, splT]
  rw [ev_sSeq, a1]
  show sSeq _ _ _ = _
  have a2 : ∀ r, sSeq (sPar 5 6 (cCons (cApp gLst (cCons (cK (.int 0)) cNil)) (cCons (cBin gIx (cVar 0) (cK (.int 1))) cNil)))
    (sSeq (sIf (cAnd (cT (cBin gIsNot (cVar 3) (cK .none))) (cT (cBin gEq (cBin gIx (cVar 0) (cK (.int 3))) (cK (.str "yes"))))) (sPar 5 6 (cCons (cApp gLst (cCons (cK (.int 0)) (cCons (cBin gIx (cVar 3) (cK (.int 0))) cNil))) (cCons (cApp gMax (cCons (cBin gIx (cVar 0) (cK (.int 1))) (cCons (cBin gIx (cVar 3) (cK (.int 0))) cNil))) cNil))) sNil) r)
      [some (.d (eP P)), some (.d (eS ⟨row, rdr, tb⟩)), some (.d (eRow row)), some (.d (eRdr rdr)), some (.d (.int tb)), none, none, none, none]
      = r [some (.d (eP P)), some (.d (eS ⟨row, rdr, tb⟩)), some (.d (eRow row)), some (.d (eRdr rdr)), some (.d (.int tb)), some (.d (.list ((picsM P ⟨row, rdr, tb⟩).map PyData.int))), some (.d (.int (mostM P ⟨row, rdr, tb⟩))), none, none] := by
    intro r
    have ge : gEq (.d (eH P.hold)) (.d (.str "yes")) = some (.d (.bool P.hold)) := by
      show (if _ ∧ _ then _ else _) = _
      rw [if_pos ⟨sh_eH _, sh_yes⟩, eqv_hold]
    rcases rdr with _ | ⟨x, k⟩
    · simp [sPar, gLst, allD, px1, gIsNot, picsM, mostM]
    · cases z : P.hold <;> rw [z] at ge <;> simp [sPar, gLst, allD, px1, px3, gIsNot, picsM, mostM, z, ge, kx0, gMax]
  rw [a2]
  have fin : ∀ (row2 : Row), lateM P ⟨row, rdr, tb⟩ = row2 → ∀ z, sRet (cApp gTup (cCons (cVar 2) (cCons (cVar 3) (cCons (cIf (cT (cBin gLt (cVar 4) (cVar 6))) (cVar 4) (cVar 6)) cNil)))) [some (.d (eP P)), some (.d (eS ⟨row, rdr, tb⟩)), some (.d (eRow row2)), some (.d (eRdr rdr)), some (.d (.int tb)), some (.d (.list ((picsM P ⟨row, rdr, tb⟩).map PyData.int))), some (.d (.int (mostM P ⟨row, rdr, tb⟩))), z, none] = some (.inr (.d (eS (passedM P ⟨row, rdr, tb⟩)))) := by
    intro row2 h2 z
    by_cases hm : tb < mostM P ⟨row, rdr, tb⟩ <;> simp [gLt, hm, gTup, allD, passedM, h2, eS]
  rcases row with _ | ⟨a, b⟩
  · simp only [ev_sSeq, ev_sIf, ev_And, ev_T, ev_bin, ev_k]
    have := fin none rfl none
    simp [gIsNot] at this ⊢
    exact this
  · rcases b with _ | b
    · rcases a with _ | a
      · have := fin (some (none, none)) rfl none
        simp [gIsNot, kx0, kx1] at this ⊢
        exact this
      · have g := ag a none 0 rfl
        by_cases hx : P.freeze ≤ a
        · cases zr : ripeM P ⟨some (some a, none), rdr, tb⟩ (some a)
          · have f := fin (some (some a, none)) (by simp [lateM, zr, hx]; rfl) (some (.d (.bool false)))
            rw [zr] at g
            simp only [eRow_some, eO_some, eO_none] at g f ⊢
            rw [ev_sSeq, ev_sIf]
            simp [gIsNot, kx0, kx1, gGe, px1, hx, -ev_App, g] at f ⊢
            exact f
          · have f := fin (some (none, none)) (by simp [lateM, zr, hx]; rfl) (some (.d (.bool true)))
            rw [zr] at g
            simp only [eRow_some, eO_some, eO_none] at g f ⊢
            rw [ev_sSeq, ev_sIf]
            simp [gIsNot, kx0, kx1, gGe, px1, hx, -ev_App, g, ev_App gTup, gTup, allD] at f ⊢
            exact f
        · have f := fin (some (some a, none)) (by simp [lateM, hx]; rfl) none
          simp only [eRow_some, eO_some, eO_none] at f ⊢
          rw [ev_sSeq, ev_sIf]
          simp [gIsNot, kx0, kx1, gGe, px1, hx, -ev_App] at f ⊢
          exact f
    · have gb := ag b none 1 rfl
      cases zb : ripeM P ⟨some (a, some b), rdr, tb⟩ (some b)
      · rw [zb] at gb
        rcases a with _ | a
        · have f := fin (some (none, some b)) (by simp [lateM, zb]) none
          simp only [eRow_some, eO_some, eO_none] at gb f ⊢
          rw [ev_sSeq, ev_sIf]
          simp [gIsNot, kx0, kx1, gGe, px1, -ev_App, gb] at f ⊢
          exact f
        · have g := ag a none 0 rfl
          by_cases hx : P.freeze ≤ a
          · cases zr : ripeM P ⟨some (some a, some b), rdr, tb⟩ (some a)
            · have f := fin (some (some a, some b)) (by simp [lateM, zb, zr, hx]) (some (.d (.bool false)))
              rw [zr] at g
              simp only [eRow_some, eO_some, eO_none] at g gb f ⊢
              rw [ev_sSeq, ev_sIf]
              simp [gIsNot, kx0, kx1, gGe, px1, hx, -ev_App, g, gb] at f ⊢
              exact f
            · have f := fin (some (none, some b)) (by simp [lateM, zb, zr, hx]) (some (.d (.bool true)))
              rw [zr] at g
              simp only [eRow_some, eO_some, eO_none] at g gb f ⊢
              rw [ev_sSeq, ev_sIf]
              simp [gIsNot, kx0, kx1, gGe, px1, hx, -ev_App, g, gb, ev_App gTup, gTup, allD] at f ⊢
              exact f
          · have f := fin (some (some a, some b)) (by simp [lateM, zb, hx]) none
            simp only [eRow_some, eO_some, eO_none] at gb f ⊢
            rw [ev_sSeq, ev_sIf]
            simp [gIsNot, kx0, kx1, gGe, px1, hx, -ev_App, gb] at f ⊢
            exact f
      · rw [zb] at gb
        have f := fin none (by simp [lateM, zb]) none
        simp only [eRow_some, eO_some, eO_none, eRow_none] at gb f ⊢
        rw [ev_sSeq, ev_sIf]
        simp [gIsNot, kx0, kx1, -ev_App, gb] at f ⊢
        exact f
end LNm
set_option maxHeartbeats 4000000
/-! What the readings answer on encoded data: the law's rows and broken. -/
namespace LNm
open PySem LNi LNt LNp
def eRw (q : Wd × Sx) : PyData := .tuple [wD q.1, eS q.2]
def rowsM (P : Pt) (s : Sx) : List (Wd × Sx) := (deedsM P s).map fun w => (w, doneM P s w)
theorem eS_mk (row : Row) (rdr : Rdr) (tb : Int) : eS ⟨row, rdr, tb⟩ = .tuple [eRow row, eRdr rdr, .int tb] := rfl
theorem l_rows_eq {P : Pt} (h : PtOk P) (s : Sx) : f_l_rows [.d (eP P), .d (eS s)] = some (.d (.list ((rowsM P s).map eRw))) := by
  have h1 := l_is_stopped_eq P s
  have h2 := l_given_eq h s
  have h3 := l_passed_eq h s
  obtain ⟨row, rdr, tb⟩ := s
  generalize hg : givenM P ⟨row, rdr, tb⟩ = g at h2
  generalize hq : passedM P ⟨row, rdr, tb⟩ = q at h3
  refine runF_eq rfl ?_
  show c_l_rows [some (.d (eP P)), some (.d (eS ⟨row, rdr, tb⟩)), none, none, none, none, none] = _
  unfold c_l_rows
  have a1 : sUnp [2, 3, 4] splT (cVar 1) [some (.d (eP P)), some (.d (eS ⟨row, rdr, tb⟩)), none, none, none, none, none] = some (.inl [some (.d (eP P)), some (.d (eS ⟨row, rdr, tb⟩)), some (.d (eRow row)), some (.d (eRdr rdr)), some (.d (.int tb)), none, none]) := by simp [eS, splT]
  have a2 : sParOwn 5 6 (cApp f_l_given (cCons (cVar 0) (cCons (cVar 1) cNil))) [some (.d (eP P)), some (.d (eS ⟨row, rdr, tb⟩)), some (.d (eRow row)), some (.d (eRdr rdr)), some (.d (.int tb)), none, none]
      = some (.inl [some (.d (eP P)), some (.d (eS ⟨row, rdr, tb⟩)), some (.d (eRow row)), some (.d (eRdr rdr)), some (.d (.int tb)), some (.own []), some (.d (eS g))]) := by
    simp [sParOwn, h2, isOwn]
  rw [ev_sSeq, a1]
  show sSeq _ _ _ = _
  rw [ev_sSeq, a2]
  show sSeq _ _ _ = _
  have tl : gTail (.d (eS g)) = some (.d (.tuple [eRdr g.rdr, .int g.tb])) := rfl
  have fin : ∀ (l : List PyData), l.length < 50 → sFrz 5 (sRet (cBin gAdd (cVar 5) (cApp gLst (cCons (cApp gTup (cCons (cK (.str "pass")) (cCons (cApp f_l_passed (cCons (cVar 0) (cCons (cVar 1) cNil))) cNil))) cNil)))) [some (.d (eP P)), some (.d (eS ⟨row, rdr, tb⟩)), some (.d (eRow row)), some (.d (eRdr rdr)), some (.d (.int tb)), some (.own l), some (.d (eS g))]
      = some (.inr (.d (.list (l ++ [.tuple [.str "pass", eS q]])))) := by
    intro l hl
    have hl2 : l.length + 1 ≤ 100000 := by omega
    simp [sFrz, h3, gTup, gLst, allD, gAdd, hl2]
  have ap : ∀ (l : List PyData) (y : PyData), l.length < 50 → ∀ x : Sm, x [some (.d (eP P)), some (.d (eS ⟨row, rdr, tb⟩)), some (.d (eRow row)), some (.d (eRdr rdr)), some (.d (.int tb)), some (.own l), some (.d (eS g))] = some (.d y) →
      sApp 5 x [some (.d (eP P)), some (.d (eS ⟨row, rdr, tb⟩)), some (.d (eRow row)), some (.d (eRdr rdr)), some (.d (.int tb)), some (.own l), some (.d (eS g))] = some (.inl [some (.d (eP P)), some (.d (eS ⟨row, rdr, tb⟩)), some (.d (eRow row)), some (.d (eRdr rdr)), some (.d (.int tb)), some (.own (l ++ [y])), some (.d (eS g))]) := by
    intro l y hl x hx
    have hl2 : l.length < 100000 := by omega
    unfold sApp
    simp only [List.getElem?_cons_succ, List.getElem?_cons_zero, hx]
    rw [if_pos hl2]; rfl
  -- the first part: the rows that a table that is not stopped has
  have part1 : ∀ (r : SmS) (l : List (Wd × Sx)), ((if !stoppedM P tb then [Wd.tick] else []) ++ (if !stoppedM P tb && row.isNone then [Wd.write] else []) ++ (if !stoppedM P tb && thereM row then [Wd.strike] else [])).map (fun w => (w, doneM P ⟨row, rdr, tb⟩ w)) = l →
      sSeq (sIf (cNot (cT (cApp f_l_is_stopped (cCons (cVar 0) (cCons (cVar 1) cNil))))) (sSeq (sApp 5 (cApp gTup (cCons (cK (.str "tick")) (cCons (cVar 6) cNil))))
  (sIf (cT (cBin gIs (cVar 2) (cK .none))) (sApp 5 (cApp gTup (cCons (cK (.str "write")) (cCons (cBin gAdd (cApp gTup (cCons (cApp gTup (cCons (cK (.int 0)) (cCons (cK .none) cNil))) cNil)) (cUn gTail (cVar 6))) cNil)))) (sIf (cT (cBin gIs (cBin gIx (cVar 2) (cK (.int 1))) (cK .none))) (sApp 5 (cApp gTup (cCons (cK (.str "strike")) (cCons (cBin gAdd (cApp gTup (cCons (cApp gTup (cCons (cBin gIx (cBin gIx (cVar 6) (cK (.int 0))) (cK (.int 0))) (cCons (cK (.int 0)) cNil))) cNil)) (cUn gTail (cVar 6))) cNil)))) sNil))) sNil) r
        [some (.d (eP P)), some (.d (eS ⟨row, rdr, tb⟩)), some (.d (eRow row)), some (.d (eRdr rdr)), some (.d (.int tb)), some (.own []), some (.d (eS g))]
      = r [some (.d (eP P)), some (.d (eS ⟨row, rdr, tb⟩)), some (.d (eRow row)), some (.d (eRdr rdr)), some (.d (.int tb)), some (.own (l.map eRw)), some (.d (eS g))] := by
    intro r l hl
    subst hl
    cases zs : stoppedM P tb
    · have t1 := ap [] (eRw (.tick, g)) (by decide) (cApp gTup (cCons (cK (.str "tick")) (cCons (cVar 6) cNil))) (by simp [gTup, allD]; rfl)
      rcases row with _ | ⟨a, b⟩
      · have t2 := ap [eRw (.tick, g)] (eRw (.write, { g with row := some (some 0, none) })) (by simp) (cApp gTup (cCons (cK (.str "write")) (cCons (cBin gAdd (cApp gTup (cCons (cApp gTup (cCons (cK (.int 0)) (cCons (cK .none) cNil))) cNil)) (cUn gTail (cVar 6))) cNil))) (by simp [gTup, allD, tl, gAdd]; rfl)
        simp only [eRow_none, List.nil_append, List.cons_append] at t1 t2
        simp [h1, zs, t1, gIs, t2, thereM, doneM, hg]
      · rcases b with _ | b
        · have hrow : g.row = some (agedM P a, none) := by rw [← hg]; rfl
          have t2 := ap [eRw (.tick, g)] (eRw (.strike, { g with row := g.row.map fun q => (q.1, some 0) })) (by simp) (cApp gTup (cCons (cK (.str "strike")) (cCons (cBin gAdd (cApp gTup (cCons (cApp gTup (cCons (cBin gIx (cBin gIx (cVar 6) (cK (.int 0))) (cK (.int 0))) (cCons (cK (.int 0)) cNil))) cNil)) (cUn gTail (cVar 6))) cNil))) (by simp [gTup, allD, tl, gAdd, sx0, hrow, kx0]; rfl)
          simp only [eRow_some, eO_none, List.nil_append, List.cons_append] at t1 t2
          simp [h1, zs, t1, gIs, t2, thereM, doneM, hg, kx1]
        · simp only [eRow_some, eO_some, List.nil_append, List.cons_append] at t1
          simp [h1, zs, t1, gIs, thereM, doneM, hg, kx1]
    · simp [h1, zs]
  rw [part1 _ _ rfl]
  generalize hl : ((if !stoppedM P tb then [Wd.tick] else []) ++ (if !stoppedM P tb && row.isNone then [Wd.write] else []) ++ (if !stoppedM P tb && thereM row then [Wd.strike] else [])) = l1
  have hlen : l1.length ≤ 3 := by rw [← hl]; simp only [List.length_append]; split <;> split <;> split <;> simp
  have rm : rowsM P ⟨row, rdr, tb⟩ = l1.map (fun w => (w, doneM P ⟨row, rdr, tb⟩ w)) ++ ((if rdr.isNone then [Wd.op] else []) ++ (if rdr.isSome then [Wd.close] else [])).map (fun w => (w, doneM P ⟨row, rdr, tb⟩ w)) ++ [(Wd.pass, q)] := by
    unfold rowsM deedsM
    rw [hl, ← hq]
    simp [doneM]
  rw [rm]
  generalize hL : (l1.map (fun w => (w, doneM P ⟨row, rdr, tb⟩ w))).map eRw = L
  have hLl : L.length ≤ 3 := by rw [← hL]; simpa using hlen
  rcases rdr with _ | ⟨x, k⟩
  · have t3 := ap L (eRw (.op, ⟨row, some (0, thereM row), tb⟩)) (by omega) (cApp gTup (cCons (cK (.str "open")) (cCons (cApp gTup (cCons (cVar 2) (cCons (cApp gTup (cCons (cK (.int 0)) (cCons (cV (cAnd (cT (cBin gIsNot (cVar 2) (cK .none))) (cT (cBin gIs (cBin gIx (cVar 2) (cK (.int 1))) (cK .none))))) cNil))) (cCons (cVar 4) cNil)))) cNil))) (by
      rcases row with _ | ⟨a, _ | b⟩ <;> simp [gTup, allD, gIsNot, gIs, kx1, thereM] <;> rfl)
    have f := fin (L ++ [eRw (.op, ⟨row, some (0, thereM row), tb⟩)]) (by simp; omega)
    rw [ev_sSeq, ev_sIf]
    simp only [ev_T, ev_bin, ev_k, ev_var, List.getElem?_cons_succ, List.getElem?_cons_zero, gIs, isNon_eRdr]
    simp only [Option.isNone_none, t3, f]
    rw [List.map_append, List.map_append, hL]
    rfl
  · have t3 := ap L (eRw (.close, ⟨row, none, tb⟩)) (by omega) (cApp gTup (cCons (cK (.str "close")) (cCons (cApp gTup (cCons (cVar 2) (cCons (cK .none) (cCons (cVar 4) cNil)))) cNil))) (by simp [gTup, allD]; rfl)
    have f := fin (L ++ [eRw (.close, ⟨row, none, tb⟩)]) (by simp; omega)
    rw [ev_sSeq, ev_sIf]
    simp only [ev_T, ev_bin, ev_k, ev_var, List.getElem?_cons_succ, List.getElem?_cons_zero, gIs, isNon_eRdr]
    simp only [Option.isNone_some, t3, f]
    rw [List.map_append, List.map_append, hL]
    rfl
end LNm
set_option maxHeartbeats 4000000
/-! What the readings answer on encoded data: the law's broken. -/
namespace LNm
open PySem LNi LNt LNp
def brkM (P : Pt) (s : Sx) : List Ws := (if wishM P s .ghost then [.ghost] else []) ++ (if wishM P s .gone then [.gone] else []) ++ (if wishM P s .stands then [.stands] else [])
def eB (q : Bool × Bool) : PyData := .tuple [.bool q.1, .bool q.2]
theorem l_broken_eq {P : Pt} (h : PtOk P) (s : Sx) : f_l_broken [.d (eP P), .d (eS s)] = some (.d (.list ((brkM P s).map xD))) := by
  have h1 := l_is_stopped_eq P s
  have h2 := l_passed_eq h s
  have h3 := l_is_stopped_eq P (passedM P s)
  have h5 := l_sees_eq h s.row
  have gb := gin_bb P s
  refine runF_eq rfl ?_
  show c_l_broken [some (.d (eP P)), some (.d (eS s)), none, none, none, none, none, none] = _
  unfold c_l_broken
  have a1 : sUnp [5, 6, 7] splT (cVar 1) [some (.d (eP P)), some (.d (eS s)), none, none, none, none, none, none] = some (.inl [some (.d (eP P)), some (.d (eS s)), none, none, none, some (.d (eRow s.row)), some (.d (eRdr s.rdr)), some (.d (.int s.tb))]) := by simp [eS, splT]
  have there : cV (cAnd (cT (cBin gIsNot (cVar 5) (cK .none))) (cT (cBin gIs (cBin gIx (cVar 5) (cK (.int 1))) (cK .none)))) [some (.d (eP P)), some (.d (eS s)), none, none, none, some (.d (eRow s.row)), some (.d (eRdr s.rdr)), some (.d (.int s.tb))] = some (.d (.bool (thereM s.row))) := by
    rcases s.row with _ | ⟨a, _ | b⟩ <;> simp [gIsNot, gIs, kx1, thereM]
  have a2 : sOwn 2 (cCons (cApp gTup (cCons (cV (cAnd (cT (cBin gIsNot (cVar 5) (cK .none))) (cT (cBin gIs (cBin gIx (cVar 5) (cK (.int 1))) (cK .none))))) (cCons (cApp f_l_sees (cCons (cVar 0) (cCons (cVar 5) (cCons (cK (.int 0)) cNil)))) cNil))) cNil)
      [some (.d (eP P)), some (.d (eS s)), none, none, none, some (.d (eRow s.row)), some (.d (eRdr s.rdr)), some (.d (.int s.tb))] = some (.inl [some (.d (eP P)), some (.d (eS s)), some (.own [eB (thereM s.row, seesM P s.row 0)]), none, none, some (.d (eRow s.row)), some (.d (eRdr s.rdr)), some (.d (.int s.tb))]) := by
    unfold sOwn
    rw [ev_Cons, ev_App, ev_Cons, there]
    simp [h5, gTup, allD, isOwn, eB]
  have a3 : ∀ r, sSeq (sIf (cT (cBin gIsNot (cVar 6) (cK .none))) (sApp 2 (cApp gTup (cCons (cBin gIx (cVar 6) (cK (.int 1))) (cCons (cApp f_l_sees (cCons (cVar 0) (cCons (cVar 5) (cCons (cBin gIx (cVar 6) (cK (.int 0))) cNil)))) cNil)))) sNil) r
      [some (.d (eP P)), some (.d (eS s)), some (.own [eB (thereM s.row, seesM P s.row 0)]), none, none, some (.d (eRow s.row)), some (.d (eRdr s.rdr)), some (.d (.int s.tb))]
      = r [some (.d (eP P)), some (.d (eS s)), some (.own ((viewM P s).map eB)), none, none, some (.d (eRow s.row)), some (.d (eRdr s.rdr)), some (.d (.int s.tb))] := by
    intro r
    rcases hr : s.rdr with _ | ⟨x, k⟩
    · simp [gIsNot, viewM, duesM, hr]
    · simp [gIsNot, viewM, duesM, hr, sApp, kx0, kx1, h5, gTup, allD, eB]
  have hz : ∀ l : List Ws, l.length ≤ 3 → (l.map xD).length + 1 ≤ 100000 := fun l hl => by rw [List.length_map]; omega
  rw [ev_sSeq, a1]
  show sSeq _ _ _ = _
  rw [ev_sSeq, a2]
  show sSeq _ _ _ = _
  rw [a3]
  have gb1 := gb false true
  have gb2 := gb true false
  rw [show (fun q : Bool × Bool => PyData.tuple [.bool q.1, .bool q.2]) = eB from rfl] at gb1 gb2
  generalize hV : (viewM P s).map eB = V at gb1 gb2 ⊢
  have w1 : wishM P s .ghost = hasM false true (viewM P s) := rfl
  have w2 : wishM P s .gone = hasM true false (viewM P s) := rfl
  have w3 : wishM P s .stands = (stoppedM P s.tb && stoppedM P (passedM P s).tb) := rfl
  unfold brkM
  rw [w1, w2, w3]
  cases z1 : hasM false true (viewM P s) <;> cases z2 : hasM true false (viewM P s) <;> cases z3 : stoppedM P s.tb <;> cases z4 : stoppedM P (passedM P s).tb <;>
    (rw [z1] at gb1; rw [z2] at gb2; rw [z3] at h1; rw [z4] at h3
     simp [sFrz, gTup, gLst, allD, gb1, gb2, gAdd, h1, h2, h3, xD, xS])
end LNm
set_option maxHeartbeats 4000000
/-! What the readings answer on encoded data: lists of states: what can be done. -/
namespace LNm
open PySem LNi LNt LNp
/-! ### shapes -/
def Shp (n : Nat) (d : PyData) : Prop := d.canLay0 = true ∧ d.depth ≤ n
theorem Shp.sh {n : Nat} {d : PyData} (h : Shp n d) (hn : n ≤ 64) : SeqAt.shaped d = true := by
  unfold SeqAt.shaped
  rw [h.1, Bool.true_and]
  exact decide_eq_true (Nat.le_trans h.2 hn)
theorem Shp.up {n m : Nat} {d : PyData} (h : Shp n d) (hn : n ≤ m) : Shp m d := ⟨h.1, Nat.le_trans h.2 hn⟩
theorem shp_all {n : Nat} : ∀ {ds : List PyData}, (∀ d ∈ ds, Shp n d) → PyData.canLayAll0 ds = true ∧ PyData.depthAll ds ≤ n
  | [], _ => ⟨by simp [PyData.canLayAll0], by simp [PyData.depthAll]⟩
  | d :: r, h => by
    obtain ⟨a, b⟩ := h d (List.mem_cons_self ..)
    obtain ⟨x, y⟩ := shp_all (ds := r) fun e he => h e (List.mem_cons_of_mem _ he)
    exact ⟨by rw [PyData.canLayAll0, a, x]; rfl, by rw [PyData.depthAll]; omega⟩
theorem shp_list {n : Nat} {ds : List PyData} (h : ∀ d ∈ ds, Shp n d) : Shp (n + 1) (.list ds) := by
  obtain ⟨a, b⟩ := shp_all h
  exact ⟨by rw [PyData.canLay0]; exact a, by rw [PyData.depth]; omega⟩
theorem shp_tup {n : Nat} {ds : List PyData} (h : ∀ d ∈ ds, Shp n d) : Shp (n + 1) (.tuple ds) := by
  obtain ⟨a, b⟩ := shp_all h
  exact ⟨by rw [PyData.canLay0]; exact a, by rw [PyData.depth]; omega⟩
theorem shp_int (i : Int) : Shp 0 (.int i) := ⟨by simp [PyData.canLay0], by simp [PyData.depth]⟩
theorem shp_bool (b : Bool) : Shp 0 (.bool b) := ⟨by simp [PyData.canLay0], by simp [PyData.depth]⟩
theorem shp_none : Shp 0 .none := ⟨by simp [PyData.canLay0], by simp [PyData.depth]⟩
theorem shp_w (w : Wd) : Shp 0 (wD w) := ⟨by cases w <;> decide +kernel, by simp [wD, PyData.depth]⟩
theorem shp_x (w : Ws) : Shp 0 (xD w) := ⟨by cases w <;> decide +kernel, by simp [xD, PyData.depth]⟩
theorem shp_O (a : Option Int) : Shp 0 (eO a) := by cases a; exact shp_none; exact shp_int _
theorem mem2 {a b d : PyData} {p : PyData → Prop} (h : d ∈ [a, b]) (ha : p a) (hb : p b) : p d := by
  rcases List.mem_cons.mp h with rfl | h
  · exact ha
  · rw [List.mem_singleton.mp h]; exact hb
theorem shp_Row (r : Row) : Shp 1 (eRow r) := by
  rcases r with _ | ⟨a, b⟩
  · exact shp_none.up (by omega)
  · exact shp_tup fun d hd => mem2 hd (shp_O a) (shp_O b)
theorem shp_Rdr (r : Rdr) : Shp 1 (eRdr r) := by
  rcases r with _ | ⟨a, b⟩
  · exact shp_none.up (by omega)
  · exact shp_tup fun d hd => mem2 hd (shp_int a) (shp_bool b)
theorem shp_S (s : Sx) : Shp 2 (eS s) := shp_tup fun d hd => by
  rcases List.mem_cons.mp hd with rfl | hd
  · exact shp_Row _
  · exact mem2 hd (shp_Rdr _) ((shp_int _).up (by omega))
theorem shp_map {α : Type} {n : Nat} {f : α → PyData} (h : ∀ a, Shp n (f a)) {l : List α} : ∀ d ∈ l.map f, Shp n d := fun d hd => by
  obtain ⟨a, _, rfl⟩ := List.mem_map.mp hd
  exact h a
theorem eqv_self {d : PyData} {n : Nat} (h : Shp n d) : PyData.eqv d d = true := SeqAt.eqv_refl d h.1
theorem gne_self {d : PyData} {n : Nat} (h : Shp n d) (hn : n ≤ 64) : gNe (.d d) (.d d) = some (.d (.bool false)) := by
  show (if _ ∧ _ then _ else _) = _
  rw [if_pos ⟨h.sh hn, h.sh hn⟩, eqv_self h]; rfl
/-! ### is the deed among a state's -/
def hasW (P : Pt) (s : Sx) (w : Wd) : Bool := (deedsM P s).any fun v => decide (v = w)
theorem any_w (w : Wd) (l : List Wd) : ((l.map wD).any fun z => PyData.eqv z (wD w)) = l.any fun v => decide (v = w) := by
  induction l with
  | nil => rfl
  | cons a r ih => rw [List.map_cons, List.any_cons, List.any_cons, ih]; congr 1; exact eqw a w
theorem gin_w (w : Wd) (l : List Wd) : gIn (.d (wD w)) (.d (.list (l.map wD))) = some (.d (.bool (l.any fun v => decide (v = w)))) := by
  show (if _ ∧ _ then _ else _) = _
  rw [if_pos ⟨(shp_w w).sh (by omega), (shp_list (shp_map shp_w)).sh (by omega)⟩, any_w]
/-! ### comprehensions as filter and map -/
theorem lcGo_fm {α : Type} {js : List Nat} {spl : PyData → Option (List PyData)} {b : SmB} {e : Sm} {ρ : En} (f : α → PyData) (p : α → Bool) (g : α → PyData) : ∀ (l : List α), (∀ a ∈ l, ∃ es, spl (f a) = some es ∧ es.length = js.length ∧ b (setAll ρ js (es.map Dv.d)) = some (p a) ∧ (p a = true → e (setAll ρ js (es.map Dv.d)) = some (.d (g a)))) →
    lcGo js spl b e ρ (l.map f) = some ((l.filter p).map g)
  | [], _ => rfl
  | a :: r, h => by
    obtain ⟨es, h1, h2, h3, h4⟩ := h a (List.mem_cons_self ..)
    have ih := lcGo_fm (js := js) (spl := spl) (b := b) (e := e) (ρ := ρ) f p g r fun x hx => h x (List.mem_cons_of_mem _ hx)
    rw [List.map_cons, lcGo, h1]
    simp only [h2, if_true, h3, ih]
    cases z : p a with
    | true => simp only [h4 z]; rw [List.filter_cons, if_pos z]; rfl
    | false => simp only []; rw [List.filter_cons, if_neg (by rw [z]; decide)]
theorem enD_map {α : Type} (f : α → PyData) : ∀ (l : List α) (n : Nat), enD n (l.map f) = (l.zipIdx n).map fun q => .tuple [.int (q.2 : Int), f q.1]
  | [], _ => rfl
  | a :: r, n => by rw [List.map_cons, enD, List.zipIdx_cons, List.map_cons, enD_map f r (n + 1)]
def onesM (P : Pt) (sts : List Sx) (w : Wd) : List PyData := ((sts.zipIdx 0).filter fun q => hasW P q.1 w).map fun q => .tuple [wD w, .int (q.2 : Int)]
def canM (P : Pt) (sts : List Sx) : List PyData := match sts with
  | [] => []
  | s :: _ => (if hasW P s .tick then [wD .tick] else []) ++ onesM P sts .write ++ onesM P sts .strike ++ (([Wd.op, .close, .pass].filter fun w => hasW P s w).map wD)
theorem ones_len (P : Pt) (sts : List Sx) (w : Wd) : (onesM P sts w).length ≤ sts.length := by
  unfold onesM
  rw [List.length_map]
  exact Nat.le_trans (List.length_filter_le _ _) (by rw [List.length_zipIdx]; exact Nat.le_refl _)
theorem at0 {α : Type} (f : α → PyData) (s : α) (r : List α) : L2.atI ((s :: r).map f) 0 = some (f s) := L2.atI_nat (j := 0) rfl
theorem sGo_1 {js : List Nat} {spl : PyData → Option (List PyData)} {cb : SmS} {d : PyData} {ds es : List PyData} {ρ ρ' : En} (h1 : spl d = some es) (h2 : es.length = js.length) (h3 : cb (setAll ρ js (es.map Dv.d)) = some (.inl ρ')) : sGo js spl cb (d :: ds) ρ = sGo js spl cb ds ρ' := by
  rw [sGo, h1]
  simp only []
  rw [if_pos h2, h3]
theorem fst_ix (b : Bool) (s : Sx) (r : List Sx) : gIx (.d (if b then .list ((s :: r).map eS) else .tuple ((s :: r).map eS))) (.d (.int 0)) = some (.d (eS s)) := by
  cases b
  · show (L2.atI ((s :: r).map eS) 0).map Dv.d = _; rw [at0]; rfl
  · show (L2.atI ((s :: r).map eS) 0).map Dv.d = _; rw [at0]; rfl
theorem f_able_eq {P : Pt} (s : Sx) (r : List Sx) (hl : r.length ≤ 100) : f_able [.whl (eW P), .d (.tuple ((s :: r).map eS))] = some (.d (.list (canM P (s :: r)))) := by
  have h1 := f_deeds_in_eq P
  refine runF_eq rfl ?_
  show c_able [some (.whl (eW P)), some (.d (.tuple ((s :: r).map eS))), none, none, none, none] = _
  unfold c_able
  have fs : gIx (.d (.tuple ((s :: r).map eS))) (.d (.int 0)) = some (.d (eS s)) := fst_ix false s r
  have fs2 : gIx (.d (.tuple (eS s :: r.map eS))) (.d (.int 0)) = some (.d (eS s)) := fs
  have g1 := gin_w .tick (deedsM P s)
  have a1 : sSet 2 (cIf (cT (cBin gIn (cK (.str "tick")) (cApp f_deeds_in (cCons (cVar 0) (cCons (cBin gIx (cVar 1) (cK (.int 0))) cNil))))) (cApp gLst (cCons (cK (.str "tick")) cNil)) (cApp gLst cNil))
      [some (.whl (eW P)), some (.d (.tuple ((s :: r).map eS))), none, none, none, none] = some (.inl [some (.whl (eW P)), some (.d (.tuple ((s :: r).map eS))), some (.d (.list (if hasW P s .tick then [wD .tick] else []))), none, none, none]) := by
    have g2 : gIn (.d (.str "tick")) (.d (.list ((deedsM P s).map wD))) = some (.d (.bool (hasW P s .tick))) := g1
    cases z : hasW P s .tick <;> rw [z] at g2 <;> simp only [ev_sSet, ev_If, ev_T, ev_bin, ev_k, ev_App, ev_Cons, ev_var, ev_Nil, List.getElem?_cons_succ, List.getElem?_cons_zero, fs, h1, g2, List.set_cons_succ, List.set_cons_zero] <;> rfl
  rw [ev_sSeq, a1]
  show sSeq _ _ _ = _
  have lc : ∀ (w : Wd) (x : Dv), cLc (jEn false (cVar 1)) [4, 5] splT [4, 5] (cT (cBin gIn (cVar 3) (cApp f_deeds_in (cCons (cVar 0) (cCons (cVar 5) cNil))))) (cApp gTup (cCons (cVar 3) (cCons (cVar 4) cNil)))
      [some (.whl (eW P)), some (.d (.tuple ((s :: r).map eS))), some x, some (.d (wD w)), none, none] = some (.d (.list (onesM P (s :: r) w))) := by
    intro w x
    refine cLc_of (ds := ((s :: r).zipIdx 0).map fun q => .tuple [.int (q.2 : Int), eS q.1]) ?_ (by simp; omega) (lcGo_fm _ _ _ _ fun q _ => ⟨[.int (q.2 : Int), eS q.1], rfl, rfl, ?_, fun _ => ?_⟩)
    · show some (enD 0 ((s :: r).map eS)) = _
      rw [enD_map]
    · have g := gin_w w (deedsM P q.1)
      show (match (match f_deeds_in [.whl (eW P), .d (eS q.1)] with | some y => gIn (.d (wD w)) y | none => none) with | some (Dv.d (.bool k)) => some k | _ => none) = _
      rw [h1]
      simp only [g]; rfl
    · rfl
  have a2 : sFor (jTup (cK d_FOR_ONE)) [3] spl1 (sSet 2 (cBin gAdd (cVar 2) (cLc (jEn false (cVar 1)) [4, 5] splT [4, 5] (cT (cBin gIn (cVar 3) (cApp f_deeds_in (cCons (cVar 0) (cCons (cVar 5) cNil))))) (cApp gTup (cCons (cVar 3) (cCons (cVar 4) cNil))))))
      [some (.whl (eW P)), some (.d (.tuple ((s :: r).map eS))), some (.d (.list (if hasW P s .tick then [wD .tick] else []))), none, none, none] = some (.inl [some (.whl (eW P)), some (.d (.tuple ((s :: r).map eS))), some (.d (.list ((if hasW P s .tick then [wD .tick] else []) ++ onesM P (s :: r) .write ++ onesM P (s :: r) .strike))), some (.d (wD .strike)), none, none]) := by
    have b : ∀ (w : Wd) (l : List PyData) (y : Option Dv), l.length ≤ 1000 → sSet 2 (cBin gAdd (cVar 2) (cLc (jEn false (cVar 1)) [4, 5] splT [4, 5] (cT (cBin gIn (cVar 3) (cApp f_deeds_in (cCons (cVar 0) (cCons (cVar 5) cNil))))) (cApp gTup (cCons (cVar 3) (cCons (cVar 4) cNil)))))
        (setAll [some (.whl (eW P)), some (.d (.tuple ((s :: r).map eS))), some (.d (.list l)), y, none, none] [3] [.d (wD w)]) = some (.inl [some (.whl (eW P)), some (.d (.tuple ((s :: r).map eS))), some (.d (.list (l ++ onesM P (s :: r) w))), some (.d (wD w)), none, none]) := by
      intro w l y hl2
      have o := ones_len P (s :: r) w
      have hz : l.length + (onesM P (s :: r) w).length ≤ 100000 := by simp only [List.length_cons] at o; omega
      show sSet 2 _ [some (.whl (eW P)), some (.d (.tuple ((s :: r).map eS))), some (.d (.list l)), some (.d (wD w)), none, none] = _
      rw [ev_sSet, ev_bin, lc]
      show (match (if l.length + (onesM P (s :: r) w).length ≤ 100000 then some (Dv.d (.list (l ++ onesM P (s :: r) w))) else none) with | some dv => some (Sum.inl _) | none => none) = _
      rw [if_pos hz]
      rfl
    have ht : (if hasW P s .tick then [wD .tick] else ([] : List PyData)).length ≤ 1 := by split <;> simp
    have o := ones_len P (s :: r) .write
    have e1 := b .write (if hasW P s .tick then [wD .tick] else []) none (by omega)
    have e2 := b .strike ((if hasW P s .tick then [wD .tick] else []) ++ onesM P (s :: r) .write) (some (.d (wD .write))) (by rw [List.length_append]; simp only [List.length_cons] at o; omega)
    show (match sGo [3] spl1 _ [wD .write, wD .strike] _ with | some ρ' => some (Sum.inl ρ') | none => none) = _
    rw [sGo_1 rfl rfl e1, sGo_1 rfl rfl e2, sGo]
  rw [ev_sSeq, a2]
  show sRet _ _ = _
  have l3 : cLc (jTup (cUn gTail (cK d_FOR_ALL))) [3] spl1 [3] (cT (cBin gIn (cVar 3) (cApp f_deeds_in (cCons (cVar 0) (cCons (cBin gIx (cVar 1) (cK (.int 0))) cNil))))) (cVar 3)
      [some (.whl (eW P)), some (.d (.tuple ((s :: r).map eS))), some (.d (.list ((if hasW P s .tick then [wD .tick] else []) ++ onesM P (s :: r) .write ++ onesM P (s :: r) .strike))), some (.d (wD .strike)), none, none] = some (.d (.list (([Wd.op, .close, .pass].filter fun w => hasW P s w).map wD))) := by
    refine cLc_of (ds := [Wd.op, .close, .pass].map wD) rfl (by decide) (lcGo_fm _ _ _ _ fun w _ => ⟨[wD w], rfl, rfl, ?_, fun _ => rfl⟩)
    have g := gin_w w (deedsM P s)
    simp only [ev_T, ev_bin, ev_App, ev_Cons, ev_var, ev_Nil, List.map_cons, List.map_nil, setAll_cons, setAll_nil, wipeD, List.set_cons_succ, List.set_cons_zero, List.getElem?_cons_succ, List.getElem?_cons_zero, ev_k, fs2, h1, g]; rfl
  rw [ev_ret, ev_bin, l3]
  have ht : (if hasW P s .tick then [wD .tick] else ([] : List PyData)).length ≤ 1 := by split <;> simp
  have o1 := ones_len P (s :: r) .write
  have o2 := ones_len P (s :: r) .strike
  have o3 : (([Wd.op, .close, .pass].filter fun w => hasW P s w).map wD).length ≤ 3 := by rw [List.length_map]; exact List.length_filter_le _ _
  have hz : ((if hasW P s .tick then [wD .tick] else []) ++ onesM P (s :: r) .write ++ onesM P (s :: r) .strike).length + (([Wd.op, .close, .pass].filter fun w => hasW P s w).map wD).length ≤ 100000 := by
    simp only [List.length_append, List.length_cons] at *; omega
  show (match (if _ ≤ 100000 then some (Dv.d (.list (_ ++ _))) else none) with | some dv => some (Sum.inr dv) | none => none) = _
  rw [if_pos hz]
  rfl
end LNm
set_option maxHeartbeats 4000000
/-! What the readings answer on encoded data: what the law says can be done; what is seen, read, broken. -/
namespace LNm
open PySem LNi LNt LNp
def namesD (P : Pt) (s : Sx) : PyData := .list ((deedsM P s).map wD)
theorem f_ix0 {α : Type} (b : Bool) (f : α → PyData) (s : α) (r : List α) : gIx (.d (if b then .list ((s :: r).map f) else .tuple ((s :: r).map f))) (.d (.int 0)) = some (.d (f s)) := by
  cases b
  · show (L2.atI ((s :: r).map f) 0).map Dv.d = _; rw [at0]; rfl
  · show (L2.atI ((s :: r).map f) 0).map Dv.d = _; rw [at0]; rfl
theorem filter_all {α : Type} (l : List α) : l.filter (fun _ => true) = l := List.filter_eq_self.mpr fun _ _ => rfl
theorem l_can_eq {P : Pt} (h : PtOk P) (s : Sx) (r : List Sx) (hl : r.length ≤ 100) : f_l_can [.d (eP P), .d (.list ((s :: r).map eS))] = some (.d (.list (canM P (s :: r)))) := by
  have h1 := l_rows_eq h
  refine runF_eq rfl ?_
  show c_l_can [some (.d (eP P)), some (.d (.list ((s :: r).map eS))), none, none, none, none, none, none, none] = _
  unfold c_l_can
  have inner : ∀ (q : Sx) (a b c d : Option Dv) (z : Option Dv), cLc (jList (cApp f_l_rows (cCons (cVar 0) (cCons (cVar 5) cNil)))) [6] spl1 [6] (fun _ => some true) (cBin gIx (cVar 6) (cK (.int 0)))
      [some (.d (eP P)), a, b, c, d, some (.d (eS q)), z, none, none] = some (.d (namesD P q)) := by
    intro q a b c d z
    refine (cLc_of (ds := (rowsM P q).map eRw) ?_ ?_ (lcGo_fm eRw (fun _ => true) (fun x => wD x.1) (rowsM P q) fun x _ => ⟨[eRw x], rfl, rfl, rfl, fun _ => rfl⟩)).trans ?_
    · simp [jList, h1]
    · rw [List.length_map]; unfold rowsM deedsM; simp only [List.length_map, List.length_append]; split <;> split <;> split <;> split <;> split <;> simp
    · rw [filter_all]
      unfold rowsM namesD
      rw [List.map_map]; rfl
  have a1 : sSet 2 (cLc (jList (cVar 1)) [5] spl1 [5] (fun _ => some true) (cLc (jList (cApp f_l_rows (cCons (cVar 0) (cCons (cVar 5) cNil)))) [6] spl1 [6] (fun _ => some true) (cBin gIx (cVar 6) (cK (.int 0)))))
      [some (.d (eP P)), some (.d (.list ((s :: r).map eS))), none, none, none, none, none, none, none] = some (.inl [some (.d (eP P)), some (.d (.list ((s :: r).map eS))), some (.d (.list ((s :: r).map (namesD P)))), none, none, none, none, none, none]) := by
    have lc := cLc_of (c := jList (cVar 1)) (js := [5]) (vs := [5]) (spl := spl1) (b := fun _ => some true) (e := cLc (jList (cApp f_l_rows (cCons (cVar 0) (cCons (cVar 5) cNil)))) [6] spl1 [6] (fun _ => some true) (cBin gIx (cVar 6) (cK (.int 0)))) (ρ := [some (.d (eP P)), some (.d (.list ((s :: r).map eS))), none, none, none, none, none, none, none])
      (ds := (s :: r).map eS) rfl (by simp; omega) (lcGo_fm eS (fun _ => true) (namesD P) (s :: r) fun q _ => ⟨[eS q], rfl, rfl, rfl, fun _ => inner q _ _ _ _ _⟩)
    rw [filter_all] at lc
    rw [ev_sSet, lc]; rfl
  rw [ev_sSeq, a1]
  show sSeq _ _ _ = _
  have fs : gIx (.d (.list ((s :: r).map (namesD P)))) (.d (.int 0)) = some (.d (namesD P s)) := f_ix0 true (namesD P) s r
  generalize hE : (s :: r).map (namesD P) = E at fs
  generalize hS : (s :: r).map eS = S
  have g1 : gIn (.d (.str "tick")) (.d (namesD P s)) = some (.d (.bool (hasW P s .tick))) := gin_w .tick (deedsM P s)
  have a2 : sSet 3 (cIf (cT (cBin gIn (cK (.str "tick")) (cBin gIx (cVar 2) (cK (.int 0))))) (cApp gLst (cCons (cK (.str "tick")) cNil)) (cApp gLst cNil))
      [some (.d (eP P)), some (.d (.list S)), some (.d (.list E)), none, none, none, none, none, none] = some (.inl [some (.d (eP P)), some (.d (.list S)), some (.d (.list E)), some (.d (.list (if hasW P s .tick then [wD .tick] else []))), none, none, none, none, none]) := by
    cases z : hasW P s .tick <;> rw [z] at g1 <;> simp only [ev_sSet, ev_If, ev_T, ev_bin, ev_k, ev_App, ev_Cons, ev_var, ev_Nil, List.getElem?_cons_succ, List.getElem?_cons_zero, fs, g1, List.set_cons_succ, List.set_cons_zero] <;> rfl
  rw [ev_sSeq, a2]
  show sSeq _ _ _ = _
  have lc : ∀ (w : Wd) (x : Dv), cLc (jEn true (cVar 2)) [7, 8] splT [7, 8] (cT (cBin gIn (cVar 4) (cVar 8))) (cApp gTup (cCons (cVar 4) (cCons (cVar 7) cNil)))
      [some (.d (eP P)), some (.d (.list S)), some (.d (.list E)), some x, some (.d (wD w)), none, none, none, none] = some (.d (.list (onesM P (s :: r) w))) := by
    intro w x
    subst hE
    refine cLc_of (ds := ((s :: r).zipIdx 0).map fun q => .tuple [.int (q.2 : Int), namesD P q.1]) ?_ (by simp; omega) (lcGo_fm _ _ _ _ fun q _ => ⟨[.int (q.2 : Int), namesD P q.1], rfl, rfl, ?_, fun _ => ?_⟩)
    · show some (enD 0 ((s :: r).map (namesD P))) = _
      rw [enD_map]
    · have g : gIn (.d (wD w)) (.d (namesD P q.1)) = some (.d (.bool (hasW P q.1 w))) := gin_w w (deedsM P q.1)
      show (match gIn (.d (wD w)) (.d (namesD P q.1)) with | some (Dv.d (.bool k)) => some k | _ => none) = _
      rw [g]
    · rfl
  have a3 : sFor (jTup (cApp gTup (cCons (cK (.str "write")) (cCons (cK (.str "strike")) cNil)))) [4] spl1 (sSet 3 (cBin gAdd (cVar 3) (cLc (jEn true (cVar 2)) [7, 8] splT [7, 8] (cT (cBin gIn (cVar 4) (cVar 8))) (cApp gTup (cCons (cVar 4) (cCons (cVar 7) cNil))))))
      [some (.d (eP P)), some (.d (.list S)), some (.d (.list E)), some (.d (.list (if hasW P s .tick then [wD .tick] else []))), none, none, none, none, none] = some (.inl [some (.d (eP P)), some (.d (.list S)), some (.d (.list E)), some (.d (.list ((if hasW P s .tick then [wD .tick] else []) ++ onesM P (s :: r) .write ++ onesM P (s :: r) .strike))), some (.d (wD .strike)), none, none, none, none]) := by
    have b : ∀ (w : Wd) (l : List PyData) (y : Option Dv), l.length ≤ 1000 → sSet 3 (cBin gAdd (cVar 3) (cLc (jEn true (cVar 2)) [7, 8] splT [7, 8] (cT (cBin gIn (cVar 4) (cVar 8))) (cApp gTup (cCons (cVar 4) (cCons (cVar 7) cNil)))))
        (setAll [some (.d (eP P)), some (.d (.list S)), some (.d (.list E)), some (.d (.list l)), y, none, none, none, none] [4] [.d (wD w)]) = some (.inl [some (.d (eP P)), some (.d (.list S)), some (.d (.list E)), some (.d (.list (l ++ onesM P (s :: r) w))), some (.d (wD w)), none, none, none, none]) := by
      intro w l y hl2
      have o := ones_len P (s :: r) w
      have hz : l.length + (onesM P (s :: r) w).length ≤ 100000 := by simp only [List.length_cons] at o; omega
      show sSet 3 _ [some (.d (eP P)), some (.d (.list S)), some (.d (.list E)), some (.d (.list l)), some (.d (wD w)), none, none, none, none] = _
      rw [ev_sSet, ev_bin, lc]
      show (match (if l.length + (onesM P (s :: r) w).length ≤ 100000 then some (Dv.d (.list (l ++ onesM P (s :: r) w))) else none) with | some dv => some (Sum.inl _) | none => none) = _
      rw [if_pos hz]
      rfl
    have ht : (if hasW P s .tick then [wD .tick] else ([] : List PyData)).length ≤ 1 := by split <;> simp
    have o := ones_len P (s :: r) .write
    have e1 := b .write (if hasW P s .tick then [wD .tick] else []) none (by omega)
    have e2 := b .strike ((if hasW P s .tick then [wD .tick] else []) ++ onesM P (s :: r) .write) (some (.d (wD .write))) (by rw [List.length_append]; simp only [List.length_cons] at o; omega)
    show (match sGo [4] spl1 _ [wD .write, wD .strike] _ with | some ρ' => some (Sum.inl ρ') | none => none) = _
    rw [sGo_1 rfl rfl e1, sGo_1 rfl rfl e2, sGo]
  rw [ev_sSeq, a3]
  show sRet _ _ = _
  have l3 : cLc (jTup (cApp gTup (cCons (cK (.str "open")) (cCons (cK (.str "close")) (cCons (cK (.str "pass")) cNil))))) [4] spl1 [4] (cT (cBin gIn (cVar 4) (cBin gIx (cVar 2) (cK (.int 0))))) (cVar 4)
      [some (.d (eP P)), some (.d (.list S)), some (.d (.list E)), some (.d (.list ((if hasW P s .tick then [wD .tick] else []) ++ onesM P (s :: r) .write ++ onesM P (s :: r) .strike))), some (.d (wD .strike)), none, none, none, none] = some (.d (.list (([Wd.op, .close, .pass].filter fun w => hasW P s w).map wD))) := by
    refine cLc_of (ds := [Wd.op, .close, .pass].map wD) rfl (by decide) (lcGo_fm _ _ _ _ fun w _ => ⟨[wD w], rfl, rfl, ?_, fun _ => rfl⟩)
    have g : gIn (.d (wD w)) (.d (namesD P s)) = some (.d (.bool (hasW P s w))) := gin_w w (deedsM P s)
    simp only [ev_T, ev_bin, ev_var, List.map_cons, List.map_nil, setAll_cons, setAll_nil, wipeD, List.set_cons_succ, List.set_cons_zero, List.getElem?_cons_succ, List.getElem?_cons_zero, ev_k, fs, g]
  rw [ev_ret, ev_bin, l3]
  have ht : (if hasW P s .tick then [wD .tick] else ([] : List PyData)).length ≤ 1 := by split <;> simp
  have o1 := ones_len P (s :: r) .write
  have o2 := ones_len P (s :: r) .strike
  have o3 : (([Wd.op, .close, .pass].filter fun w => hasW P s w).map wD).length ≤ 3 := by rw [List.length_map]; exact List.length_filter_le _ _
  have hz : ((if hasW P s .tick then [wD .tick] else []) ++ onesM P (s :: r) .write ++ onesM P (s :: r) .strike).length + (([Wd.op, .close, .pass].filter fun w => hasW P s w).map wD).length ≤ 100000 := by
    simp only [List.length_append, List.length_cons] at *; omega
  show (match (if _ ≤ 100000 then some (Dv.d (.list (_ ++ _))) else none) with | some dv => some (Sum.inr dv) | none => none) = _
  rw [if_pos hz]
  rfl
end LNm
set_option maxHeartbeats 4000000
/-! What the readings answer on encoded data: the table read; the law's stands. -/
namespace LNm
open PySem LNi LNt LNp
def eK (sts : List Sx) (notes olds : List PyData) (fl : Int) : PyData := .tuple [.tuple (sts.map eS), .tuple notes, .tuple olds, .int fl]
variable {P : Pt} {sts : List Sx} {notes olds : List PyData} {fl : Int}
theorem k0 : gIx (.d (eK sts notes olds fl)) (.d (.int 0)) = some (.d (.tuple (sts.map eS))) := rfl
theorem k1 : gIx (.d (eK sts notes olds fl)) (.d (.int 1)) = some (.d (.tuple notes)) := rfl
theorem f_now_eq {w : Whl} : f_now [.tbl w (eK sts notes olds fl)] = some (.d (.list (sts.map eS))) := rfl
theorem f_journal_eq {w : Whl} : f_journal [.tbl w (eK sts notes olds fl)] = some (.d (.list notes)) := rfl
theorem f_len_eq {w : Whl} : f_len [.tbl w (eK sts notes olds fl)] = some (.d (.int notes.length)) := rfl
theorem f_can_eq (s : Sx) (r : List Sx) (hl : r.length ≤ 100) : f_can [.tbl (eW P) (eK (s :: r) notes olds fl)] = some (.d (.list (canM P (s :: r)))) := by
  refine runF_eq rfl ?_
  show sRet (cApp f_able (cCons (cUn gBase (cVar 0)) (cCons (cBin gIx (cUn gKept (cVar 0)) (cK (.int 0))) cNil))) [some (.tbl (eW P) (eK (s :: r) notes olds fl))] = _
  rw [ev_ret]
  show (match f_able [.whl (eW P), .d (.tuple ((s :: r).map eS))] with | some dv => some (Sum.inr dv) | none => none) = _
  rw [f_able_eq s r hl]
def seenM (P : Pt) (sts : List Sx) (p : Int) : List PyData := ((sts.zipIdx 0).filter fun q => seesM P q.1.row p).map fun q => .int (q.2 : Int)
theorem seen_len (p : Int) : (seenM P sts p).length ≤ sts.length := by
  unfold seenM
  rw [List.length_map]
  exact Nat.le_trans (List.length_filter_le _ _) (by rw [List.length_zipIdx]; exact Nat.le_refl _)
theorem f_seen_eq (h : PtOk P) (hl : sts.length ≤ 100) : f_seen [.tbl (eW P) (eK sts notes olds fl)] = some (.d (.list (seenM P sts 0))) := by
  refine runF_eq rfl ?_
  show sRet _ [some (.tbl (eW P) (eK sts notes olds fl)), none, none] = _
  have lc : cLc (jEn false (cBin gIx (cUn gKept (cVar 0)) (cK (.int 0)))) [1, 2] splT [1, 2] (cT (cApp f_sees (cCons (cUn gBase (cVar 0)) (cCons (cBin gIx (cVar 2) (cK (.int 0))) (cCons (cK (.int 0)) cNil))))) (cVar 1) [some (.tbl (eW P) (eK sts notes olds fl)), none, none] = some (.d (.list (seenM P sts 0))) := by
    refine cLc_of (ds := (sts.zipIdx 0).map fun q => .tuple [.int (q.2 : Int), eS q.1]) ?_ (by simp; omega) (lcGo_fm _ _ _ _ fun q _ => ⟨[.int (q.2 : Int), eS q.1], rfl, rfl, ?_, fun _ => rfl⟩)
    · show some (enD 0 (sts.map eS)) = _
      rw [enD_map]
    · show (match f_sees [.whl (eW P), .d (eRow q.1.row), .d (.int 0)] with | some (Dv.d (.bool k)) => some k | _ => none) = _
      rw [f_sees_eq h]
  rw [ev_ret, lc]
def readM (P : Pt) (sts : List Sx) : PyData := match sts with
  | [] => .none
  | s :: _ => match s.rdr with
    | none => .none
    | some (a, _) => .list (seenM P sts a)
theorem f_read_eq (h : PtOk P) (s : Sx) (r : List Sx) (hl : r.length ≤ 50) : f_read [.tbl (eW P) (eK (s :: r) notes olds fl)] = some (.d (readM P (s :: r))) := by
  refine runF_eq rfl ?_
  show c_read [some (.tbl (eW P) (eK (s :: r) notes olds fl)), none, none, none, none] = _
  unfold c_read
  have a1 : sSet 1 (cBin gIx (cUn gKept (cVar 0)) (cK (.int 0))) [some (.tbl (eW P) (eK (s :: r) notes olds fl)), none, none, none, none] = some (.inl [some (.tbl (eW P) (eK (s :: r) notes olds fl)), some (.d (.tuple ((s :: r).map eS))), none, none, none]) := rfl
  rw [ev_sSeq, a1]
  show sSeq _ _ _ = _
  have fs : gIx (.d (.tuple ((s :: r).map eS))) (.d (.int 0)) = some (.d (eS s)) := fst_ix false s r
  have lc : ∀ a : Int, cLc (jEn false (cVar 1)) [3, 4] splT [3, 4] (cT (cApp f_sees (cCons (cUn gBase (cVar 0)) (cCons (cBin gIx (cVar 4) (cK (.int 0))) (cCons (cVar 2) cNil))))) (cVar 3) [some (.tbl (eW P) (eK (s :: r) notes olds fl)), some (.d (.tuple ((s :: r).map eS))), some (.d (.int a)), none, none] = some (.d (.list (seenM P (s :: r) a))) := by
    intro a
    refine cLc_of (ds := ((s :: r).zipIdx 0).map fun q => .tuple [.int (q.2 : Int), eS q.1]) ?_ (by simp; omega) (lcGo_fm _ _ _ _ fun q _ => ⟨[.int (q.2 : Int), eS q.1], rfl, rfl, ?_, fun _ => rfl⟩)
    · show some (enD 0 ((s :: r).map eS)) = _
      rw [enD_map]
    · show (match f_sees [.whl (eW P), .d (eRow q.1.row), .d (.int a)] with | some (Dv.d (.bool k)) => some k | _ => none) = _
      rw [f_sees_eq h]
  generalize hS : (s :: r).map eS = S at fs lc
  generalize eK (s :: r) notes olds fl = k at lc
  rcases hr : s.rdr with _ | ⟨a, kk⟩
  · have e1 : gIx (.d (eS s)) (.d (.int 1)) = some (.d .none) := by rw [sx1, hr]; rfl
    simp [fs, e1, gIs, readM, hr]
  · have e1 : gIx (.d (eS s)) (.d (.int 1)) = some (.d (.tuple [.int a, .bool kk])) := by rw [sx1, hr]; rfl
    simp [fs, e1, gIs, readM, hr, kx0, lc]
/-- number and wish, for what is broken -/
def badOf (P : Pt) (q : Sx × Nat) : List PyData := (brkM P q.1).map fun w => .tuple [.int (q.2 : Int), xD w]
def badM (P : Pt) : List (Sx × Nat) → List PyData
  | [] => []
  | q :: r => badOf P q ++ badM P r
theorem brk_len (s : Sx) : (brkM P s).length ≤ 3 := by unfold brkM; simp only [List.length_append]; split <;> split <;> split <;> simp
theorem brk_filter (s : Sx) : [Ws.early, .ghost, .gone, .stands].filter (wishM P s) = brkM P s := by
  unfold brkM
  have : wishM P s .early = false := rfl
  cases h1 : wishM P s .ghost <;> cases h2 : wishM P s .gone <;> cases h3 : wishM P s .stands <;> simp [List.filter, this, h1, h2, h3]
theorem f_broken_eq (h : PtOk P) (hl : sts.length ≤ 100) : f_broken [.tbl (eW P) (eK sts notes olds fl)] = some (.d (.list (badM P (sts.zipIdx 0)))) := by
  have h1 := f_stands_broken_eq h
  refine runF_eq rfl ?_
  show c_broken [some (.tbl (eW P) (eK sts notes olds fl)), none, none, none, none] = _
  unfold c_broken
  have a1 : sSet 1 (cApp gLst cNil) [some (.tbl (eW P) (eK sts notes olds fl)), none, none, none, none] = some (.inl [some (.tbl (eW P) (eK sts notes olds fl)), some (.d (.list [])), none, none, none]) := rfl
  rw [ev_sSeq, a1]
  show sSeq _ _ _ = _
  have lc : ∀ (q : Sx × Nat) (l : PyData) (z : Option Dv), cLc (jTup (cK d_WISHES)) [4] spl1 [4] (cT (cApp f_stands_broken (cCons (cUn gBase (cVar 0)) (cCons (cVar 3) (cCons (cVar 4) cNil))))) (cApp gTup (cCons (cVar 2) (cCons (cVar 4) cNil)))
      [some (.tbl (eW P) (eK sts notes olds fl)), some (.d l), some (.d (.int (q.2 : Int))), some (.d (eS q.1)), z] = some (.d (.list (badOf P q))) := by
    intro q l z
    refine (cLc_of (ds := [Ws.early, .ghost, .gone, .stands].map xD) rfl (by decide) (lcGo_fm xD (wishM P q.1) (fun w => .tuple [.int (q.2 : Int), xD w]) [Ws.early, .ghost, .gone, .stands] fun w _ => ⟨[xD w], rfl, rfl, ?_, fun _ => rfl⟩)).trans ?_
    · show (match f_stands_broken [.whl (eW P), .d (eS q.1), .d (.str (xS w))] with | some (Dv.d (.bool k)) => some k | _ => none) = _
      rw [h1]
    · rw [brk_filter]; rfl
  have b : ∀ (q : Sx × Nat) (l : List PyData) (x y z : Option Dv), l.length ≤ 10000 → sSet 1 (cBin gAdd (cVar 1) (cLc (jTup (cK d_WISHES)) [4] spl1 [4] (cT (cApp f_stands_broken (cCons (cUn gBase (cVar 0)) (cCons (cVar 3) (cCons (cVar 4) cNil))))) (cApp gTup (cCons (cVar 2) (cCons (cVar 4) cNil)))))
      (setAll [some (.tbl (eW P) (eK sts notes olds fl)), some (.d (.list l)), x, y, z] [2, 3] [.d (.int (q.2 : Int)), .d (eS q.1)]) = some (.inl [some (.tbl (eW P) (eK sts notes olds fl)), some (.d (.list (l ++ badOf P q))), some (.d (.int (q.2 : Int))), some (.d (eS q.1)), z]) := by
    intro q l x y z hl2
    have o := brk_len (P := P) q.1
    have hz : l.length + (badOf P q).length ≤ 100000 := by unfold badOf; rw [List.length_map]; omega
    show sSet 1 _ [some (.tbl (eW P) (eK sts notes olds fl)), some (.d (.list l)), some (.d (.int (q.2 : Int))), some (.d (eS q.1)), z] = _
    rw [ev_sSet, ev_bin, lc]
    show (match (if l.length + (badOf P q).length ≤ 100000 then some (Dv.d (.list (l ++ badOf P q))) else none) with | some dv => some (Sum.inl _) | none => none) = _
    rw [if_pos hz]
    rfl
  have go : ∀ (qs : List (Sx × Nat)) (l : List PyData) (x y z : Option Dv), l.length + 3 * qs.length ≤ 10000 → ∃ x' y', sGo [2, 3] splT (sSet 1 (cBin gAdd (cVar 1) (cLc (jTup (cK d_WISHES)) [4] spl1 [4] (cT (cApp f_stands_broken (cCons (cUn gBase (cVar 0)) (cCons (cVar 3) (cCons (cVar 4) cNil))))) (cApp gTup (cCons (cVar 2) (cCons (cVar 4) cNil))))))
      (qs.map fun q => .tuple [.int (q.2 : Int), eS q.1]) [some (.tbl (eW P) (eK sts notes olds fl)), some (.d (.list l)), x, y, z] = some [some (.tbl (eW P) (eK sts notes olds fl)), some (.d (.list (l ++ badM P qs))), x', y', z] := by
    intro qs
    induction qs with
    | nil => intro l x y z _; exact ⟨x, y, by rw [List.map_nil, sGo, badM, List.append_nil]⟩
    | cons q qs ih =>
      intro l x y z hz
      rw [List.length_cons] at hz
      have o := brk_len (P := P) q.1
      have ob : (badOf P q).length ≤ 3 := by unfold badOf; rw [List.length_map]; exact o
      obtain ⟨x', y', e⟩ := ih (l ++ badOf P q) (some (.d (.int (q.2 : Int)))) (some (.d (eS q.1))) z (by rw [List.length_append]; omega)
      refine ⟨x', y', ?_⟩
      rw [List.map_cons, sGo_1 (es := [.int (q.2 : Int), eS q.1]) rfl rfl (b q l x y z (by omega)), e, badM, List.append_assoc]
  obtain ⟨x', y', e⟩ := go (sts.zipIdx 0) [] none none none (by rw [List.length_nil, List.length_zipIdx]; omega)
  have a2 : sFor (jEn false (cBin gIx (cUn gKept (cVar 0)) (cK (.int 0)))) [2, 3] splT (sSet 1 (cBin gAdd (cVar 1) (cLc (jTup (cK d_WISHES)) [4] spl1 [4] (cT (cApp f_stands_broken (cCons (cUn gBase (cVar 0)) (cCons (cVar 3) (cCons (cVar 4) cNil))))) (cApp gTup (cCons (cVar 2) (cCons (cVar 4) cNil))))))
      [some (.tbl (eW P) (eK sts notes olds fl)), some (.d (.list [])), none, none, none] = some (.inl [some (.tbl (eW P) (eK sts notes olds fl)), some (.d (.list (badM P (sts.zipIdx 0)))), x', y', none]) := by
    show (match sGo [2, 3] splT _ (enD 0 (sts.map eS)) _ with | some ρ' => some (Sum.inl ρ') | none => none) = _
    rw [enD_map, e, List.nil_append]
  rw [ev_sSeq, a2]
  rfl
end LNm
set_option maxHeartbeats 4000000
/-! What the readings answer on encoded data: the law's stands. -/
namespace LNm
open PySem LNi LNt LNp
variable {P : Pt} {notes olds : List PyData} {fl : Int}
theorem rg_zip {α : Type} (l : List α) (n : Nat) : (l.zipIdx n).map (fun q => PyData.int (q.2 : Int)) = (List.range' n l.length).map fun (i : Nat) => PyData.int (i : Int) := by
  induction l generalizing n with
  | nil => rfl
  | cons a r ih => rw [List.zipIdx_cons, List.map_cons, ih, List.length_cons, List.range'_succ]; rfl
theorem gRg_zip {α : Type} (l : List α) (hl : l.length ≤ 100) : gRg (.d (.int l.length)) = some (.d (.list ((l.zipIdx 0).map fun q => PyData.int (q.2 : Int)))) := by
  show (if _ ∧ _ then _ else _) = _
  rw [if_pos ⟨by omega, by omega⟩, rg_zip]
  have : rgD (l.length : Int) = (List.range' 0 l.length).map fun (i : Nat) => PyData.int (i : Int) := by
    unfold rgD
    rw [List.range_eq_range']
    rfl
  rw [this]
theorem zip_at {α : Type} {l : List α} {q : α × Nat} (h : q ∈ l.zipIdx 0) : l[q.2]? = some q.1 := by
  obtain ⟨a, i⟩ := q
  exact List.mem_zipIdx_iff_getElem?.mp h
theorem ix_zip {α : Type} (f : α → PyData) {l : List α} {q : α × Nat} (h : q ∈ l.zipIdx 0) : gIx (.d (.list (l.map f))) (.d (.int (q.2 : Int))) = some (.d (f q.1)) := by
  show (L2.atI (l.map f) (q.2 : Int)).map Dv.d = _
  rw [L2.atI_nat (v := f q.1) (by rw [List.getElem?_map, zip_at h]; rfl)]; rfl
theorem shp_seen (sts : List Sx) (p : Int) : Shp 1 (.list (seenM P sts p)) := shp_list (shp_map fun q => shp_int _)
theorem shp_read (sts : List Sx) : Shp 1 (readM P sts) := by
  unfold readM
  split
  · exact shp_none.up (by omega)
  · split
    · exact shp_none.up (by omega)
    · exact shp_seen _ _
theorem shp_can (sts : List Sx) : Shp 2 (.list (canM P sts)) := by
  refine shp_list fun d hd => ?_
  have ones : ∀ (l : List Sx) (w : Wd), d ∈ onesM P l w → Shp 1 d := fun l w h => by
    unfold onesM at h
    obtain ⟨q, _, rfl⟩ := List.mem_map.mp h
    exact shp_tup fun e he => mem2 he (shp_w w) (shp_int _)
  unfold canM at hd
  split at hd
  · cases hd
  · rename_i s r
    rcases List.mem_append.mp hd with hd | hd
    · rcases List.mem_append.mp hd with hd | hd
      · rcases List.mem_append.mp hd with hd | hd
        · split at hd
          · rw [List.mem_singleton.mp hd]; exact (shp_w _).up (by omega)
          · cases hd
        · exact ones _ _ hd
      · exact ones _ _ hd
    · obtain ⟨w, _, rfl⟩ := List.mem_map.mp hd
      exact (shp_w _).up (by omega)
theorem shp_bad (l : List (Sx × Nat)) : ∀ d ∈ badM P l, Shp 1 d := by
  induction l with
  | nil => intro d hd; cases hd
  | cons q r ih =>
    intro d hd
    rcases List.mem_append.mp hd with hd | hd
    · obtain ⟨w, _, rfl⟩ := List.mem_map.mp hd
      exact shp_tup fun e he => mem2 he (shp_int _) (shp_x w)
    · exact ih d hd
/-- a deed that is kept -/
def NoteOk (notes : List PyData) : Prop := ∀ d ∈ notes, Shp 1 d
theorem can_len (s : Sx) (r : List Sx) (hl : r.length ≤ 100) : (canM P (s :: r)).length < 1000 := by
  have ht : (if hasW P s .tick then [wD .tick] else ([] : List PyData)).length ≤ 1 := by split <;> simp
  have o1 := ones_len P (s :: r) .write
  have o2 := ones_len P (s :: r) .strike
  have o3 : (([Wd.op, .close, .pass].filter fun w => hasW P s w).map wD).length ≤ 3 := by rw [List.length_map]; exact List.length_filter_le _ _
  unfold canM
  simp only [List.length_append, List.length_cons] at *; omega
theorem lenT_eq {w : Whl} {k : PyData} (n : Nat) (hn : n < 90000) (e : f_len [.tbl w k] = some (.d (.int n))) : gLenT f_len [.tbl w k] = some (.d (.int n)) := by
  rw [gLenT, e]
  have e2 : (2 : Int) ^ 63 = 9223372036854775808 := by decide
  exact if_pos ⟨by omega, by rw [e2]; omega⟩
theorem or_no {a b : SmB} {ρ : En} (h1 : a ρ = some false) (h2 : b ρ = some false) : cOr a b ρ = some false := by rw [ev_Or, h1]; exact h2
theorem sIf_no {t : SmB} {a R : SmS} {ρ : En} (h1 : t ρ = some false) : sSeq (sIf t a sNil) R ρ = R ρ := by rw [ev_sSeq, ev_sIf, h1]; rfl
theorem cmpLen {g h : List Dv → Option Dv} {i j : Nat} {ρ : En} {x y : Dv} {n m : Dv} (h1 : g [x] = some n) (h2 : h [y] = some m) (h3 : gNe n m = some (.d (.bool false))) (hx : cVar i ρ = some x := by rfl) (hy : cVar j ρ = some y := by rfl) : cT (cBin gNe (cApp g (cCons (cVar i) cNil)) (cApp h (cCons (cVar j) cNil))) ρ = some false := by
  rw [ev_T, ev_bin, ev_App, ev_Cons, hx, ev_Nil]
  simp only [h1]
  rw [ev_App, ev_Cons, hy, ev_Nil]
  simp only [h2, h3]
theorem l_stands_eq (h : PtOk P) (s : Sx) (r : List Sx) (O : PyData) (hl : r.length ≤ 40) (hn : NoteOk notes) (hnl : notes.length < 90000) :
    f_l_stands [.tbl (eW P) (eK (s :: r) notes olds fl), .d (eP P), .d (.list [.list ((s :: r).map eS), .list notes, O])] = some (.d (.bool true)) := by
  have e1 : f_now [.tbl (eW P) (eK (s :: r) notes olds fl)] = some (.d (.list ((s :: r).map eS))) := f_now_eq
  have e2 : f_journal [.tbl (eW P) (eK (s :: r) notes olds fl)] = some (.d (.list notes)) := f_journal_eq
  have e3 : f_len [.tbl (eW P) (eK (s :: r) notes olds fl)] = some (.d (.int notes.length)) := f_len_eq
  have e4 := f_can_eq (P := P) (notes := notes) (olds := olds) (fl := fl) s r (by omega)
  have e5 := f_seen_eq (P := P) (sts := s :: r) (notes := notes) (olds := olds) (fl := fl) h (by rw [List.length_cons]; omega)
  have e6 := f_read_eq (P := P) (notes := notes) (olds := olds) (fl := fl) h s r (by omega)
  have e7 := f_broken_eq (P := P) (sts := s :: r) (notes := notes) (olds := olds) (fl := fl) h (by rw [List.length_cons]; omega)
  have e8 := l_can_eq h s r (by omega)
  have fs : gIx (.d (.list ((s :: r).map eS))) (.d (.int 0)) = some (.d (eS s)) := f_ix0 true eS s r
  have rg := gRg_zip (s :: r) (by rw [List.length_cons]; omega)
  have ln : ((s :: r).map eS).length = (s :: r).length := List.length_map ..
  have hz : ∀ q ∈ (s :: r).zipIdx 0, gIx (.d (.list ((s :: r).map eS))) (.d (.int (q.2 : Int))) = some (.d (eS q.1)) := fun q hq => ix_zip eS hq
  have zl : ((s :: r).zipIdx 0).length = (s :: r).length := List.length_zipIdx
  have sl : ∀ p, (seenM P (s :: r) p).length ≤ (s :: r).length := fun p => seen_len p
  have cl := can_len (P := P) s r (by omega)
  have bs := f_sees
  have snd := e1
  have se : ∀ (q : Sx × Nat) (p : Int), f_l_sees [.d (eP P), .d (eRow q.1.row), .d (.int p)] = some (.d (.bool (seesM P q.1.row p))) := fun q p => l_sees_eq h q.1.row p
  have br : ∀ q : Sx × Nat, f_l_broken [.d (eP P), .d (eS q.1)] = some (.d (.list ((brkM P q.1).map xD))) := fun q => l_broken_eq h q.1
  have ng1 : gNe (.d (.list ((s :: r).map eS))) (.d (.list ((s :: r).map eS))) = some (.d (.bool false)) := gne_self (shp_list (shp_map shp_S)) (by omega)
  have ng2 : gNe (.d (.list notes)) (.d (.list notes)) = some (.d (.bool false)) := gne_self (shp_list hn) (by omega)
  have ng3 : gNe (.d (.int notes.length)) (.d (.int notes.length)) = some (.d (.bool false)) := gne_self (shp_int _) (by omega)
  have ng4 : gNe (.d (.list (canM P (s :: r)))) (.d (.list (canM P (s :: r)))) = some (.d (.bool false)) := gne_self (shp_can _) (by omega)
  have ng5 : gNe (.d (.list (seenM P (s :: r) 0))) (.d (.list (seenM P (s :: r) 0))) = some (.d (.bool false)) := gne_self (shp_seen _ _) (by omega)
  have ng6 : gNe (.d (readM P (s :: r))) (.d (readM P (s :: r))) = some (.d (.bool false)) := gne_self (shp_read _) (by omega)
  have ng7 : gNe (.d (.list (badM P ((s :: r).zipIdx 0)))) (.d (.list (badM P ((s :: r).zipIdx 0)))) = some (.d (.bool false)) := gne_self (shp_list (shp_bad _)) (by omega)
  have hr6 : ∀ a kk, s.rdr = some (a, kk) → readM P (s :: r) = .list (seenM P (s :: r) a) := fun a kk hh => by unfold readM; simp only [hh]
  have hr7 : s.rdr = none → readM P (s :: r) = .none := fun hh => by unfold readM; simp only [hh]
  -- abstract the lists
  have seenLc : ∀ (S : PyData) (t l : Dv) (du ba nh : Option Dv) (no ol nu : Dv) (rd : Option Dv) (wi : Option Dv) (cp : Sm) (p : Int), (∀ q ∈ (s :: r).zipIdx 0, gIx (.d S) (.d (.int (q.2 : Int))) = some (.d (eS q.1))) → nu = .d (.list (((s :: r).zipIdx 0).map fun q => PyData.int (q.2 : Int))) →
      (∀ x, cp [some t, some (.d (eP P)), some l, du, ba, x, some (.d S), some no, some ol, some nu, rd, wi] = some (.d (.int p))) →
      cLc (jList (cVar 9)) [5] spl1 [5] (cT (cApp f_l_sees (cCons (cVar 1) (cCons (cBin gIx (cBin gIx (cVar 6) (cVar 5)) (cK (.int 0))) (cCons cp cNil))))) (cVar 5)
        [some t, some (.d (eP P)), some l, du, ba, nh, some (.d S), some no, some ol, some nu, rd, wi] = some (.d (.list (seenM P (s :: r) p))) := by
    intro S t l du ba nh no ol nu rd wi cp p hS hnu hcp
    refine cLc_of (ds := ((s :: r).zipIdx 0).map fun q => PyData.int (q.2 : Int)) (by rw [hnu]; rfl) (by rw [List.length_map, zl, List.length_cons]; omega) (lcGo_fm _ _ _ _ fun q hq => ⟨[PyData.int (q.2 : Int)], rfl, rfl, ?_, fun _ => rfl⟩)
    have g1 := hS q hq
    have g2 : gIx (.d (eS q.1)) (.d (.int 0)) = some (.d (eRow q.1.row)) := rfl
    show cT _ [some t, some (.d (eP P)), some l, du, ba, some (.d (.int (q.2 : Int))), some (.d S), some no, some ol, some nu, rd, wi] = _
    simp only [ev_T, ev_App, ev_Cons, ev_Nil, ev_bin, ev_var, ev_k, List.getElem?_cons_succ, List.getElem?_cons_zero, g1, g2, hcp, se]
  have badLc : ∀ (S : PyData) (t l : Dv) (du ba nh : Option Dv) (no ol nu : Dv) (rd : Option Dv) (wi : Option Dv), (∀ q ∈ (s :: r).zipIdx 0, gIx (.d S) (.d (.int (q.2 : Int))) = some (.d (eS q.1))) → ∀ q ∈ (s :: r).zipIdx 0,
      cLc (jList (cApp f_l_broken (cCons (cVar 1) (cCons (cBin gIx (cVar 6) (cVar 5)) cNil)))) [11] spl1 [11] (fun _ => some true) (cApp gTup (cCons (cVar 5) (cCons (cVar 11) cNil)))
        [some t, some (.d (eP P)), some l, du, ba, some (.d (.int (q.2 : Int))), some (.d S), some no, some ol, some nu, rd, wi] = some (.d (.list (badOf P q))) := by
    intro S t l du ba nh no ol nu rd wi hS q hq
    have g1 := hS q hq
    refine (cLc_of (ds := (brkM P q.1).map xD) ?_ (by rw [List.length_map]; have := brk_len (P := P) q.1; omega) (lcGo_fm xD (fun _ => true) (fun w => .tuple [.int (q.2 : Int), xD w]) (brkM P q.1) fun w _ => ⟨[xD w], rfl, rfl, rfl, fun _ => rfl⟩)).trans ?_
    · show jList _ [some t, some (.d (eP P)), some l, du, ba, some (.d (.int (q.2 : Int))), some (.d S), some no, some ol, some nu, rd, wi] = _
      simp only [jList, ev_App, ev_Cons, ev_Nil, ev_bin, ev_var, List.getElem?_cons_succ, List.getElem?_cons_zero, g1, br]
    · rw [filter_all]; rfl
  have ei : gIx (.d (eS s)) (.d (.int 1)) = some (.d (eRdr s.rdr)) := rfl
  have zmem : (s :: r).zipIdx 0 = (s :: r).zipIdx 0 := rfl
  generalize hK : eK (s :: r) notes olds fl = k at e1 e2 e3 e4 e5 e6 e7
  generalize hZ : (s :: r).zipIdx 0 = Z at rg hz zl seenLc badLc ng7 e7
  have zl2 : Z.length ≤ 50 := by rw [zl, List.length_cons]; omega
  generalize hS : PyData.list ((s :: r).map eS) = S at e1 e8 fs hz ng1
  generalize hC : canM P (s :: r) = Cn at e4 e8 ng4 cl
  have hcr : readM P (s :: r) = readM P (s :: r) := rfl
  have snn : (PyData.list ((s :: r).map eS)) = S := hS
  refine runF_eq rfl ?_
  show c_l_stands [some (.tbl (eW P) k), some (.d (eP P)), some (.d (.list [S, .list notes, O])), none, none, none, none, none, none, none, none, none] = _
  unfold c_l_stands
  have a1 : sUnp [6, 7, 8] splL (cVar 2) [some (.tbl (eW P) k), some (.d (eP P)), some (.d (.list [S, .list notes, O])), none, none, none, none, none, none, none, none, none] = some (.inl [some (.tbl (eW P) k), some (.d (eP P)), some (.d (.list [S, .list notes, O])), none, none, none, some (.d S), some (.d (.list notes)), some (.d O), none, none, none]) := rfl
  rw [ev_sSeq, a1]
  show sSeq _ _ _ = _
  have a2 : ∀ R, sSeq (sIf (cOr (cT (cBin gNe (cUn (gSelf (lst f_now)) (cVar 0)) (cVar 6))) (cOr (cT (cBin gNe (cUn (gSelf (lst f_journal)) (cVar 0)) (cVar 7))) (cT (cBin gNe (cApp (gLenT f_len) (cCons (cVar 0) cNil)) (cApp gLen (cCons (cVar 7) cNil)))))) (sRet (cK (.bool false))) sNil) R
      [some (.tbl (eW P) k), some (.d (eP P)), some (.d (.list [S, .list notes, O])), none, none, none, some (.d S), some (.d (.list notes)), some (.d O), none, none, none] = R [some (.tbl (eW P) k), some (.d (eP P)), some (.d (.list [S, .list notes, O])), none, none, none, some (.d S), some (.d (.list notes)), some (.d O), none, none, none] := by
    intro R
    have f1 : lst f_now [.tbl (eW P) k] = some (.d S) := by rw [lst, e1, ← hS]
    have f2 : lst f_journal [.tbl (eW P) k] = some (.d (.list notes)) := by rw [lst, e2]
    have f3 : gLenT f_len [.tbl (eW P) k] = some (.d (.int notes.length)) := lenT_eq _ hnl e3
    clear e3 e5 e6 e7 e8 seenLc badLc
    have c1 : cT (cBin gNe (cUn (gSelf (lst f_now)) (cVar 0)) (cVar 6)) [some (.tbl (eW P) k), some (.d (eP P)), some (.d (.list [S, .list notes, O])), none, none, none, some (.d S), some (.d (.list notes)), some (.d O), none, none, none] = some false := by
      show (match (match lst f_now [.tbl (eW P) k] with | some x => gNe x (.d S) | none => none) with | some (Dv.d (.bool k)) => some k | _ => none) = _
      rw [f1]; simp only [ng1]
    have c2 : cT (cBin gNe (cUn (gSelf (lst f_journal)) (cVar 0)) (cVar 7)) [some (.tbl (eW P) k), some (.d (eP P)), some (.d (.list [S, .list notes, O])), none, none, none, some (.d S), some (.d (.list notes)), some (.d O), none, none, none] = some false := by
      show (match (match lst f_journal [.tbl (eW P) k] with | some x => gNe x (.d (.list notes)) | none => none) with | some (Dv.d (.bool k)) => some k | _ => none) = _
      rw [f2]; simp only [ng2]
    have c3 : cT (cBin gNe (cApp (gLenT f_len) (cCons (cVar 0) cNil)) (cApp gLen (cCons (cVar 7) cNil))) [some (.tbl (eW P) k), some (.d (eP P)), some (.d (.list [S, .list notes, O])), none, none, none, some (.d S), some (.d (.list notes)), some (.d O), none, none, none] = some false :=
      cmpLen f3 rfl ng3
    exact sIf_no (or_no c1 (or_no c2 c3))
  rw [a2]
  have a3 : ∀ R, sSeq (sIf (cT (cBin gNe (cUn (gSelf (lst f_can)) (cVar 0)) (cApp f_l_can (cCons (cVar 1) (cCons (cVar 6) cNil))))) (sRet (cK (.bool false))) sNil) R
      [some (.tbl (eW P) k), some (.d (eP P)), some (.d (.list [S, .list notes, O])), none, none, none, some (.d S), some (.d (.list notes)), some (.d O), none, none, none] = R [some (.tbl (eW P) k), some (.d (eP P)), some (.d (.list [S, .list notes, O])), none, none, none, some (.d S), some (.d (.list notes)), some (.d O), none, none, none] := by
    intro R
    have f1 : lst f_can [.tbl (eW P) k] = some (.d (.list Cn)) := by rw [lst, e4]
    simp only [ev_sSeq, ev_sIf, ev_T, ev_bin, ev_un, ev_var, ev_App, ev_Cons, ev_Nil, List.getElem?_cons_succ, List.getElem?_cons_zero, gSelf, f1, e8, ng4, ev_sNil]
  rw [a3]
  have a4 : sUnp [9, 10] splT (cApp gTup (cCons (cUn gRg (cApp gLen (cCons (cVar 6) cNil))) (cCons (cBin gIx (cBin gIx (cVar 6) (cK (.int 0))) (cK (.int 1))) cNil)))
      [some (.tbl (eW P) k), some (.d (eP P)), some (.d (.list [S, .list notes, O])), none, none, none, some (.d S), some (.d (.list notes)), some (.d O), none, none, none] = some (.inl [some (.tbl (eW P) k), some (.d (eP P)), some (.d (.list [S, .list notes, O])), none, none, none, some (.d S), some (.d (.list notes)), some (.d O), some (.d (.list (Z.map fun q => PyData.int (q.2 : Int)))), some (.d (eRdr s.rdr)), none]) := by
    have f1 : gLen [.d S] = some (.d (.int (s :: r).length)) := by rw [← hS, gLen, ln]
    simp only [ev_sUnp, ev_App, ev_Cons, ev_Nil, ev_un, ev_bin, ev_var, ev_k, List.getElem?_cons_succ, List.getElem?_cons_zero, f1, rg, fs, ei]
    rfl
  rw [ev_sSeq, a4]
  show sSeq _ _ _ = _
  have a5 : ∀ R, sSeq (sIf (cT (cBin gNe (cUn (gSelf f_seen) (cVar 0)) (cLc (jList (cVar 9)) [5] spl1 [5] (cT (cApp f_l_sees (cCons (cVar 1) (cCons (cBin gIx (cBin gIx (cVar 6) (cVar 5)) (cK (.int 0))) (cCons (cK (.int 0)) cNil))))) (cVar 5)))) (sRet (cK (.bool false))) sNil) R
      [some (.tbl (eW P) k), some (.d (eP P)), some (.d (.list [S, .list notes, O])), none, none, none, some (.d S), some (.d (.list notes)), some (.d O), some (.d (.list (Z.map fun q => PyData.int (q.2 : Int)))), some (.d (eRdr s.rdr)), none] = R [some (.tbl (eW P) k), some (.d (eP P)), some (.d (.list [S, .list notes, O])), none, none, none, some (.d S), some (.d (.list notes)), some (.d O), some (.d (.list (Z.map fun q => PyData.int (q.2 : Int)))), some (.d (eRdr s.rdr)), none] := by
    intro R
    have f1 := seenLc S (.tbl (eW P) k) (.d (.list [S, .list notes, O])) none none none (.d (.list notes)) (.d O) _ (some (.d (eRdr s.rdr))) none (cK (.int 0)) 0 hz rfl (fun _ => rfl)
    simp only [ev_sSeq, ev_sIf, ev_T, ev_bin, ev_un, f1]
    simp only [ev_var, List.getElem?_cons_succ, List.getElem?_cons_zero, gSelf, e5, ng5, ev_sNil]
  rw [a5]
  have a6 : sSet 3 (cK .none) [some (.tbl (eW P) k), some (.d (eP P)), some (.d (.list [S, .list notes, O])), none, none, none, some (.d S), some (.d (.list notes)), some (.d O), some (.d (.list (Z.map fun q => PyData.int (q.2 : Int)))), some (.d (eRdr s.rdr)), none] = some (.inl [some (.tbl (eW P) k), some (.d (eP P)), some (.d (.list [S, .list notes, O])), some (.d .none), none, none, some (.d S), some (.d (.list notes)), some (.d O), some (.d (.list (Z.map fun q => PyData.int (q.2 : Int)))), some (.d (eRdr s.rdr)), none]) := rfl
  rw [ev_sSeq, a6]
  show sSeq _ _ _ = _
  have a7 : ∀ R, sSeq (sIf (cT (cBin gIsNot (cVar 10) (cK .none))) (sSet 3 (cLc (jList (cVar 9)) [5] spl1 [5] (cT (cApp f_l_sees (cCons (cVar 1) (cCons (cBin gIx (cBin gIx (cVar 6) (cVar 5)) (cK (.int 0))) (cCons (cBin gIx (cVar 10) (cK (.int 0))) cNil))))) (cVar 5))) sNil) R
      [some (.tbl (eW P) k), some (.d (eP P)), some (.d (.list [S, .list notes, O])), some (.d .none), none, none, some (.d S), some (.d (.list notes)), some (.d O), some (.d (.list (Z.map fun q => PyData.int (q.2 : Int)))), some (.d (eRdr s.rdr)), none] = R [some (.tbl (eW P) k), some (.d (eP P)), some (.d (.list [S, .list notes, O])), some (.d (readM P (s :: r))), none, none, some (.d S), some (.d (.list notes)), some (.d O), some (.d (.list (Z.map fun q => PyData.int (q.2 : Int)))), some (.d (eRdr s.rdr)), none] := by
    intro R
    rcases hrd : s.rdr with _ | ⟨a, kk⟩
    · rw [hr7 hrd]
      rfl
    · rw [hr6 a kk hrd]
      have f1 := seenLc S (.tbl (eW P) k) (.d (.list [S, .list notes, O])) (some (.d .none)) none none (.d (.list notes)) (.d O) _ (some (.d (eRdr (some (a, kk))))) none (cBin gIx (cVar 10) (cK (.int 0))) a hz rfl (fun _ => rfl)
      have f2 : cT (cBin gIsNot (cVar 10) (cK .none)) [some (.tbl (eW P) k), some (.d (eP P)), some (.d (.list [S, .list notes, O])), some (.d .none), none, none, some (.d S), some (.d (.list notes)), some (.d O), some (.d (.list (Z.map fun q => PyData.int (q.2 : Int)))), some (.d (eRdr (some (a, kk)))), none] = some true := rfl
      rw [ev_sSeq, ev_sIf, f2]
      simp only [ev_sSet, f1, List.set_cons_succ, List.set_cons_zero]
  rw [a7]
  have a8 : ∀ R, sSeq (sIf (cT (cBin gNe (cUn (gSelf f_read) (cVar 0)) (cVar 3))) (sRet (cK (.bool false))) sNil) R
      [some (.tbl (eW P) k), some (.d (eP P)), some (.d (.list [S, .list notes, O])), some (.d (readM P (s :: r))), none, none, some (.d S), some (.d (.list notes)), some (.d O), some (.d (.list (Z.map fun q => PyData.int (q.2 : Int)))), some (.d (eRdr s.rdr)), none] = R [some (.tbl (eW P) k), some (.d (eP P)), some (.d (.list [S, .list notes, O])), some (.d (readM P (s :: r))), none, none, some (.d S), some (.d (.list notes)), some (.d O), some (.d (.list (Z.map fun q => PyData.int (q.2 : Int)))), some (.d (eRdr s.rdr)), none] := by
    intro R
    simp only [ev_sSeq, ev_sIf, ev_T, ev_bin, ev_un, ev_var, List.getElem?_cons_succ, List.getElem?_cons_zero, gSelf, e6, ng6, ev_sNil]
  rw [a8]
  have a9 : sSet 4 (cApp gLst cNil) [some (.tbl (eW P) k), some (.d (eP P)), some (.d (.list [S, .list notes, O])), some (.d (readM P (s :: r))), none, none, some (.d S), some (.d (.list notes)), some (.d O), some (.d (.list (Z.map fun q => PyData.int (q.2 : Int)))), some (.d (eRdr s.rdr)), none] = some (.inl [some (.tbl (eW P) k), some (.d (eP P)), some (.d (.list [S, .list notes, O])), some (.d (readM P (s :: r))), some (.d (.list [])), none, some (.d S), some (.d (.list notes)), some (.d O), some (.d (.list (Z.map fun q => PyData.int (q.2 : Int)))), some (.d (eRdr s.rdr)), none]) := rfl
  rw [ev_sSeq, a9]
  show sSeq _ _ _ = _
  have go : ∀ (qs : List (Sx × Nat)) (l : List PyData) (x : Option Dv), (∀ q ∈ qs, q ∈ Z) → l.length + 3 * qs.length ≤ 10000 → ∃ x', sGo [5] spl1 (sSet 4 (cBin gAdd (cVar 4) (cLc (jList (cApp f_l_broken (cCons (cVar 1) (cCons (cBin gIx (cVar 6) (cVar 5)) cNil)))) [11] spl1 [11] (fun _ => some true) (cApp gTup (cCons (cVar 5) (cCons (cVar 11) cNil))))))
      (qs.map fun q => PyData.int (q.2 : Int)) [some (.tbl (eW P) k), some (.d (eP P)), some (.d (.list [S, .list notes, O])), some (.d (readM P (s :: r))), some (.d (.list l)), x, some (.d S), some (.d (.list notes)), some (.d O), some (.d (.list (Z.map fun q => PyData.int (q.2 : Int)))), some (.d (eRdr s.rdr)), none] = some [some (.tbl (eW P) k), some (.d (eP P)), some (.d (.list [S, .list notes, O])), some (.d (readM P (s :: r))), some (.d (.list (l ++ badM P qs))), x', some (.d S), some (.d (.list notes)), some (.d O), some (.d (.list (Z.map fun q => PyData.int (q.2 : Int)))), some (.d (eRdr s.rdr)), none] := by
    intro qs
    induction qs with
    | nil => intro l x _ _; exact ⟨x, by rw [List.map_nil, sGo, badM, List.append_nil]⟩
    | cons q qs ih =>
      intro l x hq hz2
      rw [List.length_cons] at hz2
      have o := brk_len (P := P) q.1
      have ob : (badOf P q).length ≤ 3 := by unfold badOf; rw [List.length_map]; exact o
      have hz3 : l.length + (badOf P q).length ≤ 100000 := by omega
      obtain ⟨x', e⟩ := ih (l ++ badOf P q) (some (.d (.int (q.2 : Int)))) (fun q' h' => hq q' (List.mem_cons_of_mem _ h')) (by rw [List.length_append]; omega)
      refine ⟨x', ?_⟩
      have f1 := badLc S (.tbl (eW P) k) (.d (.list [S, .list notes, O])) (some (.d (readM P (s :: r)))) (some (.d (.list l))) none (.d (.list notes)) (.d O) (.d (.list (Z.map fun q => PyData.int (q.2 : Int)))) (some (.d (eRdr s.rdr))) none hz q (hq q (List.mem_cons_self ..))
      have f2 : gAdd (.d (.list l)) (.d (.list (badOf P q))) = some (.d (.list (l ++ badOf P q))) := by
        show (if l.length + (badOf P q).length ≤ 100000 then some (Dv.d (.list (l ++ badOf P q))) else none) = _
        rw [if_pos hz3]
      rw [List.map_cons, sGo_1 (es := [.int (q.2 : Int)]) (ρ' := [some (.tbl (eW P) k), some (.d (eP P)), some (.d (.list [S, .list notes, O])), some (.d (readM P (s :: r))), some (.d (.list (l ++ badOf P q))), some (.d (.int (q.2 : Int))), some (.d S), some (.d (.list notes)), some (.d O), some (.d (.list (Z.map fun q => PyData.int (q.2 : Int)))), some (.d (eRdr s.rdr)), none]) rfl rfl ?_, e, badM, List.append_assoc]
      show sSet 4 _ [some (.tbl (eW P) k), some (.d (eP P)), some (.d (.list [S, .list notes, O])), some (.d (readM P (s :: r))), some (.d (.list l)), some (.d (.int (q.2 : Int))), some (.d S), some (.d (.list notes)), some (.d O), some (.d (.list (Z.map fun q => PyData.int (q.2 : Int)))), some (.d (eRdr s.rdr)), none] = _
      rw [ev_sSet, ev_bin, f1]
      simp only [ev_var, List.getElem?_cons_succ, List.getElem?_cons_zero, f2, List.set_cons_succ, List.set_cons_zero]
  obtain ⟨x', e⟩ := go Z [] none (fun _ h => h) (by rw [List.length_nil]; omega)
  have a10 : sFor (jList (cVar 9)) [5] spl1 (sSet 4 (cBin gAdd (cVar 4) (cLc (jList (cApp f_l_broken (cCons (cVar 1) (cCons (cBin gIx (cVar 6) (cVar 5)) cNil)))) [11] spl1 [11] (fun _ => some true) (cApp gTup (cCons (cVar 5) (cCons (cVar 11) cNil))))))
      [some (.tbl (eW P) k), some (.d (eP P)), some (.d (.list [S, .list notes, O])), some (.d (readM P (s :: r))), some (.d (.list [])), none, some (.d S), some (.d (.list notes)), some (.d O), some (.d (.list (Z.map fun q => PyData.int (q.2 : Int)))), some (.d (eRdr s.rdr)), none] = some (.inl [some (.tbl (eW P) k), some (.d (eP P)), some (.d (.list [S, .list notes, O])), some (.d (readM P (s :: r))), some (.d (.list (badM P Z))), x', some (.d S), some (.d (.list notes)), some (.d O), some (.d (.list (Z.map fun q => PyData.int (q.2 : Int)))), some (.d (eRdr s.rdr)), none]) := by
    show (match sGo [5] spl1 _ (Z.map fun q => PyData.int (q.2 : Int)) _ with | some ρ' => some (Sum.inl ρ') | none => none) = _
    rw [e, List.nil_append]
  rw [ev_sSeq, a10]
  show sSeq _ _ _ = _
  rw [ev_sSeq, ev_sIf]
  have t1 : sThrow (cUn (gSelf f_now) (cVar 0)) [some (.tbl (eW P) k), some (.d (eP P)), some (.d (.list [S, .list notes, O])), some (.d (readM P (s :: r))), some (.d (.list (badM P Z))), x', some (.d S), some (.d (.list notes)), some (.d O), some (.d (.list (Z.map fun q => PyData.int (q.2 : Int)))), some (.d (eRdr s.rdr)), none] = some (.inl [some (.tbl (eW P) k), some (.d (eP P)), some (.d (.list [S, .list notes, O])), some (.d (readM P (s :: r))), some (.d (.list (badM P Z))), x', some (.d S), some (.d (.list notes)), some (.d O), some (.d (.list (Z.map fun q => PyData.int (q.2 : Int)))), some (.d (eRdr s.rdr)), none]) := by
    unfold sThrow
    simp only [ev_un, ev_var, List.getElem?_cons_zero, gSelf, e1]
    rw [← hS]
    simp only []
    rw [if_pos (by rw [ln, List.length_cons]; omega)]
  have t2 : sThrow (cUn (gSelf f_journal) (cVar 0)) [some (.tbl (eW P) k), some (.d (eP P)), some (.d (.list [S, .list notes, O])), some (.d (readM P (s :: r))), some (.d (.list (badM P Z))), x', some (.d S), some (.d (.list notes)), some (.d O), some (.d (.list (Z.map fun q => PyData.int (q.2 : Int)))), some (.d (eRdr s.rdr)), none] = some (.inl [some (.tbl (eW P) k), some (.d (eP P)), some (.d (.list [S, .list notes, O])), some (.d (readM P (s :: r))), some (.d (.list (badM P Z))), x', some (.d S), some (.d (.list notes)), some (.d O), some (.d (.list (Z.map fun q => PyData.int (q.2 : Int)))), some (.d (eRdr s.rdr)), none]) := by
    unfold sThrow
    simp only [ev_un, ev_var, List.getElem?_cons_zero, gSelf, e2]
    rw [if_pos (by omega)]
  have t3 : sThrow (cUn (gSelf f_can) (cVar 0)) [some (.tbl (eW P) k), some (.d (eP P)), some (.d (.list [S, .list notes, O])), some (.d (readM P (s :: r))), some (.d (.list (badM P Z))), x', some (.d S), some (.d (.list notes)), some (.d O), some (.d (.list (Z.map fun q => PyData.int (q.2 : Int)))), some (.d (eRdr s.rdr)), none] = some (.inl [some (.tbl (eW P) k), some (.d (eP P)), some (.d (.list [S, .list notes, O])), some (.d (readM P (s :: r))), some (.d (.list (badM P Z))), x', some (.d S), some (.d (.list notes)), some (.d O), some (.d (.list (Z.map fun q => PyData.int (q.2 : Int)))), some (.d (eRdr s.rdr)), none]) := by
    unfold sThrow
    simp only [ev_un, ev_var, List.getElem?_cons_zero, gSelf, e4]
    rw [if_pos (by omega)]
  simp only [ev_T, ev_bin, ev_un, ev_var, List.getElem?_cons_succ, List.getElem?_cons_zero, gSelf, e7, ng7, ev_sNil]
  rw [ev_sSeq, t1]
  simp only []
  rw [ev_sSeq, t2]
  simp only []
  rw [ev_sSeq, t3]
  rfl
end LNm
set_option maxHeartbeats 4000000
/-! What the readings answer on encoded data: deeds as words, or a word with a number. -/
namespace LNm
open PySem LNi LNt LNp
inductive Dd where
  | all (w : Wd) | one (w : Wd) (i : Int)
  deriving DecidableEq
def eD : Dd → PyData
  | .all w => .str (wS w)
  | .one w i => .tuple [.str (wS w), .int i]
theorem eqi (i j : Int) : PyData.eqv (.int i) (.int j) = decide (i = j) := by
  show (i == j) = _
  rfl
theorem eqd (a b : Dd) : PyData.eqv (eD a) (eD b) = decide (a = b) := by
  have hw : ∀ u v : Wd, (wS u == wS v) = decide (u = v) := eqw
  cases a <;> cases b <;> simp [eD, PyData.eqv, hw, PyData.eqvAll]
  rfl
theorem shp_D (d : Dd) : Shp 1 (eD d) := by
  cases d with
  | all w => exact (shp_w w).up (by omega)
  | one w i => exact shp_tup fun d hd => mem2 hd (shp_w w) (shp_int i)
variable {P : Pt}
def onesD (P : Pt) (sts : List Sx) (w : Wd) : List Dd := ((sts.zipIdx 0).filter fun q => hasW P q.1 w).map fun q => .one w q.2
def canD (P : Pt) (sts : List Sx) : List Dd := match sts with
  | [] => []
  | s :: _ => (if hasW P s .tick then [.all .tick] else []) ++ onesD P sts .write ++ onesD P sts .strike ++ (([Wd.op, .close, .pass].filter fun w => hasW P s w).map .all)
theorem canM_D (sts : List Sx) : canM P sts = (canD P sts).map eD := by
  unfold canM canD
  cases sts with
  | nil => rfl
  | cons s r =>
    simp only [List.map_append, List.map_map]
    congr 1
    · congr 1
      · congr 1
        · split <;> rfl
        · unfold onesM onesD; rw [List.map_map]; rfl
      · unfold onesM onesD; rw [List.map_map]; rfl
theorem any_d (d : Dd) (l : List Dd) : ((l.map eD).any fun z => PyData.eqv z (eD d)) = decide (d ∈ l) := by
  induction l with
  | nil => simp
  | cons a r ih => rw [List.map_cons, List.any_cons, ih, eqd]; simp [eq_comm]
theorem gin_d (d : Dd) (l : List Dd) : gIn (.d (eD d)) (.d (.list (l.map eD))) = some (.d (.bool (decide (d ∈ l)))) := by
  show (if _ ∧ _ then _ else _) = _
  rw [if_pos ⟨(shp_D d).sh (by omega), (shp_list (shp_map shp_D)).sh (by omega)⟩, any_d]
theorem f_is_whole_int (i a b : Int) : f_is_whole [.d (.int i), .d (.int a), .d (.int b)] = some (.d (.bool (decide (a ≤ i) && decide (i ≤ b)))) := by
  have h1 : gIsi "int" (.d (.int i)) = some (.d (.bool true)) := by rfl
  have h2 : gIsi "bool" (.d (.int i)) = some (.d (.bool false)) := by rfl
  by_cases h : a ≤ i <;> simp [f_is_whole, runF, runS, c_is_whole, h1, h2, cChain, gLe, h]
theorem f_is_whole_bool (k : Bool) (a b : Dv) : f_is_whole [.d (.bool k), a, b] = some (.d (.bool false)) := by
  have h1 : gIsi "int" (.d (.bool k)) = some (.d (.bool true)) := by rfl
  have h2 : gIsi "bool" (.d (.bool k)) = some (.d (.bool true)) := by rfl
  simp [f_is_whole, runF, runS, c_is_whole, h1, h2]
theorem not_all (w : Wd) (sts : List Sx) (h : w = .write ∨ w = .strike) : Dd.all w ∉ canD P sts := by
  unfold canD
  split
  · exact List.not_mem_nil
  · simp only [List.mem_append, not_or]
    refine ⟨⟨⟨?_, ?_⟩, ?_⟩, ?_⟩
    · split
      · rcases h with rfl | rfl <;> simp
      · exact List.not_mem_nil
    · simp [onesD]
    · simp [onesD]
    · rcases h with rfl | rfl <;> simp
theorem one_mem (w : Wd) (i : Int) (sts : List Sx) (h : Dd.one w i ∈ canD P sts) : (w = .write ∨ w = .strike) ∧ ∃ q ∈ sts.zipIdx 0, (q.2 : Int) = i ∧ hasW P q.1 w = true := by
  unfold canD at h
  split at h
  · cases h
  · simp only [List.mem_append] at h
    rcases h with ((h | h) | h) | h
    · split at h <;> simp at h
    · simp only [onesD, List.mem_map, List.mem_filter] at h
      obtain ⟨q, ⟨h1, h2⟩, e⟩ := h
      cases e
      exact ⟨.inl rfl, q, h1, rfl, h2⟩
    · simp only [onesD, List.mem_map, List.mem_filter] at h
      obtain ⟨q, ⟨h1, h2⟩, e⟩ := h
      cases e
      exact ⟨.inr rfl, q, h1, rfl, h2⟩
    · simp at h
theorem one_range (w : Wd) (i : Int) (sts : List Sx) (h : Dd.one w i ∈ canD P sts) : 0 ≤ i ∧ i < sts.length := by
  obtain ⟨_, q, hq, rfl, _⟩ := one_mem w i sts h
  have := zip_at hq
  have l := (List.getElem?_eq_some_iff.mp this).1
  omega
theorem all_mem (w : Wd) (s : Sx) (r : List Sx) (h : Dd.all w ∈ canD P (s :: r)) : w ≠ .strike ∧ w ≠ .write ∧ hasW P s w = true := by
  refine ⟨fun e => not_all w _ (.inr e) h, fun e => not_all w _ (.inl e) h, ?_⟩
  unfold canD at h
  simp only [List.mem_append] at h
  rcases h with ((h | h) | h) | h
  · split at h
    · rename_i z; simp at h; rw [h]; exact z
    · cases h
  · simp [onesD] at h
  · simp [onesD] at h
  · simp only [List.mem_map, List.mem_filter] at h
    obtain ⟨v, ⟨_, z⟩, e⟩ := h
    cases e; exact z
theorem forall_in (w : Wd) : gIn (.d (.str (wS w))) (.d d_FOR_ALL) = some (.d (.bool (decide (w ≠ .write ∧ w ≠ .strike)))) := by
  show (if flatD (.str (wS w)) = true ∧ [wD .tick, wD .op, wD .close, wD .pass].all flatD = true then some (Dv.d (.bool (([Wd.tick, .op, .close, .pass].map wD).any fun z => PyData.eqv z (wD w)))) else none) = _
  rw [if_pos ⟨rfl, rfl⟩, any_w]
  cases w <;> rfl
theorem f_can_do_eq (s : Sx) (r : List Sx) (hl : r.length ≤ 100) (d : Dd) : f_can_do [.whl (eW P), .d (.tuple ((s :: r).map eS)), .d (eD d)] = some (.d (.bool (decide (d ∈ canD P (s :: r))))) := by
  have ha : lst f_able [.whl (eW P), .d (.tuple ((s :: r).map eS))] = some (.d (.list ((canD P (s :: r)).map eD))) := by
    unfold lst; rw [f_able_eq s r hl, canM_D]
  have hg := gin_d d (canD P (s :: r))
  have hlen : gLen [.d (.tuple ((s :: r).map eS))] = some (.d (.int ((s :: r).length : Nat))) := by rw [gLen, List.length_map]
  have rg := fun w i => one_range (P := P) w i (s :: r)
  have na := fun w => not_all (P := P) w (s :: r)
  generalize canD P (s :: r) = cs at ha hg rg na
  generalize (s :: r).map eS = S at ha hlen
  refine runF_eq rfl ?_
  show c_can_do [some (.whl (eW P)), some (.d (.tuple S)), some (.d (eD d))] = _
  unfold c_can_do
  cases d with
  | all w =>
    have h1 : gIsi "str" (.d (eD (.all w))) = some (.d (.bool true)) := rfl
    have h2 : gIn (.d (eD (.all w))) (.d d_FOR_ALL) = some (.d (.bool (decide (w ≠ .write ∧ w ≠ .strike)))) := forall_in w
    by_cases hw : w ≠ .write ∧ w ≠ .strike
    · simp [h1, h2, hw, ha, hg]
    · have : Dd.all w ∉ cs := na w (by
        by_cases h : w = .write
        · exact .inl h
        · exact .inr (Classical.byContradiction fun z => hw ⟨h, z⟩))
      rw [decide_eq_false hw] at h2
      simp [h1, h2, this]
  | one w i =>
    have h1 : gIsi "str" (.d (eD (.one w i))) = some (.d (.bool false)) := rfl
    have h2 : gIsi "tuple" (.d (eD (.one w i))) = some (.d (.bool true)) := rfl
    have h3 : gLen [.d (eD (.one w i))] = some (.d (.int 2)) := rfl
    have h4 : gNe (.d (.int 2)) (.d (.int 2)) = some (.d (.bool false)) := gne_self (shp_int _) (by omega)
    have h5 : gIx (.d (eD (.one w i))) (.d (.int 0)) = some (.d (.str (wS w))) := rfl
    have h6 : gIsi "str" (.d (.str (wS w))) = some (.d (.bool true)) := rfl
    have h7 : gIx (.d (eD (.one w i))) (.d (.int 1)) = some (.d (.int i)) := rfl
    have h8 := f_is_whole_int i 0 (((s :: r).length : Nat) - 1 : Int)
    have hs : gSub (.d (.int ((s :: r).length : Nat))) (.d (.int 1)) = some (.d (.int (((s :: r).length : Nat) - 1 : Int))) := rfl
    by_cases hi : 0 ≤ i ∧ i ≤ ((s :: r).length : Nat) - 1
    · rw [decide_eq_true hi.1, decide_eq_true hi.2] at h8
      simp only [ev_sSeq, ev_sIf, ev_ret, ev_V, ev_And, ev_Or, ev_Not, ev_T, ev_un, ev_bin, ev_App, ev_Cons, ev_Nil, ev_var, ev_k, ev_sNil, List.getElem?_cons_succ, List.getElem?_cons_zero, h1, h2, h3, h4, h5, h6, h7, hlen, hs, h8, ha, hg, Bool.not_true, Bool.and_self]
    · have : Dd.one w i ∉ cs := fun h => hi (by have := rg w i h; omega)
      have hf : (decide (0 ≤ i) && decide (i ≤ ((s :: r).length : Nat) - 1)) = false := by
        rw [← Bool.decide_and]; exact decide_eq_false hi
      rw [hf] at h8
      simp only [ev_sSeq, ev_sIf, ev_ret, ev_V, ev_And, ev_Or, ev_Not, ev_T, ev_un, ev_bin, ev_App, ev_Cons, ev_Nil, ev_var, ev_k, ev_sNil, List.getElem?_cons_succ, List.getElem?_cons_zero, h1, h2, h3, h4, h5, h6, h7, hlen, hs, h8, Bool.not_true, decide_eq_false this]
/-- what no deed is -/
theorem f_can_do_none (S : PyData) : f_can_do [.whl (eW P), .d S, .d .none] = some (.d (.bool false)) := rfl
theorem f_can_do_int (S : PyData) (i : Int) : f_can_do [.whl (eW P), .d S, .d (.int i)] = some (.d (.bool false)) := rfl
theorem f_can_do_single (S : PyData) : f_can_do [.whl (eW P), .d S, .d (.tuple [.str "write"])] = some (.d (.bool false)) := by
  have h4 : gNe (.d (.int 1)) (.d (.int 2)) = some (.d (.bool true)) := by
    show (if SeqAt.shaped (.int 1) = true ∧ SeqAt.shaped (.int 2) = true then some (Dv.d (.bool (!PyData.eqv (.int 1) (.int 2)))) else none) = _
    rw [if_pos ⟨(shp_int 1).sh (by omega), (shp_int 2).sh (by omega)⟩, eqi]
    rfl
  have h1 : gIsi "str" (.d (.tuple [.str "write"])) = some (.d (.bool false)) := rfl
  have h2 : gIsi "tuple" (.d (.tuple [.str "write"])) = some (.d (.bool true)) := rfl
  have h3 : gLen [.d (.tuple [.str "write"])] = some (.d (.int 1)) := rfl
  simp [f_can_do, runF, runS, c_can_do, h1, h2, h3, h4]
theorem f_can_do_bool (S : List PyData) (w : Wd) (k : Bool) : f_can_do [.whl (eW P), .d (.tuple S), .d (.tuple [.str (wS w), .bool k])] = some (.d (.bool false)) := by
  have h1 : gIsi "str" (.d (.tuple [.str (wS w), .bool k])) = some (.d (.bool false)) := rfl
  have h2 : gIsi "tuple" (.d (.tuple [.str (wS w), .bool k])) = some (.d (.bool true)) := rfl
  have h3 : gLen [.d (.tuple [.str (wS w), .bool k])] = some (.d (.int 2)) := rfl
  have h4 : gNe (.d (.int 2)) (.d (.int 2)) = some (.d (.bool false)) := gne_self (shp_int _) (by omega)
  have h5 : gIx (.d (.tuple [.str (wS w), .bool k])) (.d (.int 0)) = some (.d (.str (wS w))) := rfl
  have h6 : gIsi "str" (.d (.str (wS w))) = some (.d (.bool true)) := rfl
  have h7 : gIx (.d (.tuple [.str (wS w), .bool k])) (.d (.int 1)) = some (.d (.bool k)) := rfl
  have hl : gLen [.d (.tuple S)] = some (.d (.int S.length)) := rfl
  have hs : gSub (.d (.int S.length)) (.d (.int 1)) = some (.d (.int (S.length - 1))) := rfl
  simp [f_can_do, runF, runS, c_can_do, h1, h2, h3, h4, h5, h6, h7, hl, hs, f_is_whole_bool]
end LNm
set_option maxHeartbeats 4000000
/-! What the readings answer on encoded data: what is behind a deed. -/
namespace LNm
open PySem LNi LNt LNp
variable {P : Pt}
def behindM (P : Pt) (sts : List Sx) : Dd → List Sx
  | .all w => sts.map fun s => doneM P s w
  | .one w i => (sts.zipIdx 0).map fun q => doneM P q.1 (if (q.2 : Int) = i then w else .tick)
/-- all states share the table and the reader's age -/
structure Al (P : Pt) (sts : List Sx) : Prop where
  ex : ∃ (tb : Int) (ra : Option Int), tb ≤ P.size ∧ ∀ s ∈ sts, s.tb = tb ∧ s.rdr.map (·.1) = ra
theorem behind_len (sts : List Sx) (d : Dd) : (behindM P sts d).length = sts.length := by
  cases d with
  | all w => exact List.length_map ..
  | one w i => unfold behindM; rw [List.length_map, List.length_zipIdx]
/-- the table and the reader's age behind a deed -/
def tbM (P : Pt) (tb : Int) (ra : Option Int) : Wd → Int
  | .pass => let m := match ra with | none => P.freeze | some r => if P.hold then (if r > P.freeze then r else P.freeze) else P.freeze
    if tb < m then tb else m
  | .op => tb
  | .close => tb
  | _ => if tb < P.size then tb + 1 else tb
def raM (P : Pt) (ra : Option Int) : Wd → Option Int
  | .pass => ra
  | .op => some 0
  | .close => none
  | _ => match ra with
    | none => none
    | some a => match P.cut with
      | none => some ((a + 1) % P.size)
      | some c => if c ≤ (a + 1) % P.size then none else some ((a + 1) % P.size)
theorem done_tb (s : Sx) (w : Wd) : (doneM P s w).tb = tbM P s.tb (s.rdr.map (·.1)) w := by
  cases w <;> try rfl
  obtain ⟨row, rdr, tb⟩ := s
  rcases rdr with _ | ⟨r, k⟩ <;> rfl
theorem done_ra (s : Sx) (w : Wd) : (doneM P s w).rdr.map (·.1) = raM P (s.rdr.map (·.1)) w := by
  obtain ⟨row, rdr, tb⟩ := s
  cases w <;> rcases rdr with _ | ⟨r, k⟩ <;> try rfl
  all_goals
    simp only [doneM, givenM, raM, Option.map_some]
    cases P.cut with
    | none => rfl
    | some c => by_cases hz : c ≤ (r + 1) % P.size <;> simp [hz]
theorem tb_le {tb : Int} {ra : Option Int} (w : Wd) (h : tb ≤ P.size) : tbM P tb ra w ≤ P.size := by
  cases w <;> simp only [tbM]
  all_goals first | (split <;> omega) | omega | skip
theorem al_behind {sts : List Sx} (h : Al P sts) (d : Dd) (hd : ∀ w i, d = .one w i → w = .write ∨ w = .strike) : Al P (behindM P sts d) := by
  obtain ⟨tb, ra, h1, h2⟩ := h.ex
  cases d with
  | all w =>
    refine ⟨tbM P tb ra w, raM P ra w, tb_le w h1, fun s hs => ?_⟩
    obtain ⟨s0, m, rfl⟩ := List.mem_map.mp hs
    obtain ⟨a, b⟩ := h2 s0 m
    exact ⟨by rw [done_tb, a, b], by rw [done_ra, b]⟩
  | one w i =>
    refine ⟨tbM P tb ra .tick, raM P ra .tick, tb_le .tick h1, fun s hs => ?_⟩
    obtain ⟨q, m, rfl⟩ := List.mem_map.mp hs
    have hm : q.1 ∈ sts := List.mem_of_getElem? (zip_at m)
    obtain ⟨a, b⟩ := h2 q.1 hm
    rcases hd w i rfl with rfl | rfl
    · refine ⟨by rw [done_tb, a, b]; split <;> rfl, by rw [done_ra, b]; split <;> rfl⟩
    · refine ⟨by rw [done_tb, a, b]; split <;> rfl, by rw [done_ra, b]; split <;> rfl⟩
/-! ### the program's -/
theorem geq_ii (n i : Int) : gEq (.d (.int n)) (.d (.int i)) = some (.d (.bool (decide (n = i)))) := by
  show (if SeqAt.shaped (.int n) = true ∧ SeqAt.shaped (.int i) = true then some (Dv.d (.bool (PyData.eqv (.int n) (.int i)))) else none) = _
  rw [if_pos ⟨(shp_int n).sh (by omega), (shp_int i).sh (by omega)⟩, eqi]
theorem has_strike {s : Sx} (h : hasW P s .strike = true) : s.row.isSome = true := by
  unfold hasW at h
  rw [List.any_eq_true] at h
  obtain ⟨w, hw, e⟩ := h
  obtain rfl : w = .strike := by simpa using e
  unfold deedsM at hw
  rcases hr : s.row with _ | r
  · simp [hr, thereM] at hw
  · rfl
theorem done_ok (h : PtOk P) {sts : List Sx} (al : Al P sts) {d : Dd} (hd : d ∈ canD P sts) :
    (∀ w, d = .all w → ∀ s ∈ sts, f_done [.whl (eW P), .d (eS s), .d (.str (wS w))] = some (.d (eS (doneM P s w)))) ∧
    (∀ w i, d = .one w i → ∀ q ∈ sts.zipIdx 0, f_done [.whl (eW P), .d (eS q.1), .d (.str (wS (if (q.2 : Int) = i then w else .tick)))] = some (.d (eS (doneM P q.1 (if (q.2 : Int) = i then w else .tick))))) := by
  obtain ⟨tb, ra, h1, h2⟩ := al.ex
  refine ⟨fun w e s hs => f_done_eq h s (by rw [(h2 s hs).1]; exact h1) w fun z => ?_, fun w i e q hq => f_done_eq h q.1 (by rw [(h2 q.1 (List.mem_of_getElem? (zip_at hq))).1]; exact h1) _ fun z => ?_⟩
  · subst e z
    exact absurd hd (not_all .strike sts (.inr rfl))
  · subst e
    by_cases hi : (q.2 : Int) = i
    · rw [if_pos hi] at z
      subst z
      obtain ⟨_, q2, m2, e2, w2⟩ := one_mem _ _ _ hd
      have a := zip_at hq
      have b := zip_at m2
      have : q2.2 = q.2 := by omega
      rw [this, a] at b
      rw [Option.some.inj b]
      exact has_strike w2
    · rw [if_neg hi] at z; cases z
theorem f_all_behind_eq (h : PtOk P) {sts : List Sx} (al : Al P sts) (hl : sts.length ≤ 100) {d : Dd} (hd : d ∈ canD P sts) :
    f_all_behind [.whl (eW P), .d (.tuple (sts.map eS)), .d (eD d)] = some (.d (.tuple ((behindM P sts d).map eS))) := by
  obtain ⟨k1, k2⟩ := done_ok h al hd
  refine runF_eq rfl ?_
  show c_all_behind [some (.whl (eW P)), some (.d (.tuple (sts.map eS))), some (.d (eD d)), none, none, none] = _
  unfold c_all_behind
  cases d with
  | all w =>
    have lc : cLc (jTup (cVar 1)) [5] spl1 [5] (fun _ => some true) (cApp f_done (cCons (cVar 0) (cCons (cVar 5) (cCons (cVar 2) cNil)))) [some (.whl (eW P)), some (.d (.tuple (sts.map eS))), some (.d (eD (.all w))), none, none, none] = some (.d (.list ((behindM P sts (.all w)).map eS))) := by
      refine (cLc_of (ds := sts.map eS) rfl (by rw [List.length_map]; omega) (lcGo_fm eS (fun _ => true) (fun s => eS (doneM P s w)) sts fun s hs => ⟨[eS s], rfl, rfl, rfl, fun _ => ?_⟩)).trans ?_
      · show f_done [.whl (eW P), .d (eS s), .d (.str (wS w))] = _
        exact k1 w rfl s hs
      · rw [filter_all]; unfold behindM; rw [List.map_map]; rfl
    have t1 : cT (cUn (gIsi "str") (cVar 2)) [some (.whl (eW P)), some (.d (.tuple (sts.map eS))), some (.d (eD (.all w))), none, none, none] = some true := rfl
    rw [ev_sSeq, ev_sIf, t1]
    simp only []
    rw [ev_ret, ev_App, ev_Cons, lc]
    rfl
  | one w i =>
    have t1 : cT (cUn (gIsi "str") (cVar 2)) [some (.whl (eW P)), some (.d (.tuple (sts.map eS))), some (.d (eD (.one w i))), none, none, none] = some false := rfl
    rw [sIf_no t1]
    have a1 : sOwn 3 cNil [some (.whl (eW P)), some (.d (.tuple (sts.map eS))), some (.d (eD (.one w i))), none, none, none] = some (.inl [some (.whl (eW P)), some (.d (.tuple (sts.map eS))), some (.d (eD (.one w i))), some (.own []), none, none]) := rfl
    rw [ev_sSeq, a1]
    show sSeq _ _ _ = _
    have go : ∀ (qs : List (Sx × Nat)) (l : List PyData) (x y : Option Dv), (∀ q ∈ qs, q ∈ sts.zipIdx 0) → l.length + qs.length ≤ 1000 → ∃ x' y', sGo [4, 5] splT (sApp 3 (cApp f_done (cCons (cVar 0) (cCons (cVar 5) (cCons (cIf (cT (cBin gEq (cVar 4) (cBin gIx (cVar 2) (cK (.int 1))))) (cBin gIx (cVar 2) (cK (.int 0))) (cK (.str "tick"))) cNil)))))
        (qs.map fun q => .tuple [.int (q.2 : Int), eS q.1]) [some (.whl (eW P)), some (.d (.tuple (sts.map eS))), some (.d (eD (.one w i))), some (.own l), x, y] = some [some (.whl (eW P)), some (.d (.tuple (sts.map eS))), some (.d (eD (.one w i))), some (.own (l ++ qs.map fun q => eS (doneM P q.1 (if (q.2 : Int) = i then w else .tick)))), x', y'] := by
      intro qs
      induction qs with
      | nil => intro l x y _ _; exact ⟨x, y, by rw [List.map_nil, List.map_nil, sGo, List.append_nil]⟩
      | cons q qs ih =>
        intro l x y hq hz
        rw [List.length_cons] at hz
        obtain ⟨x', y', e⟩ := ih (l ++ [eS (doneM P q.1 (if (q.2 : Int) = i then w else .tick))]) (some (.d (.int (q.2 : Int)))) (some (.d (eS q.1))) (fun q' h' => hq q' (List.mem_cons_of_mem _ h')) (by rw [List.length_append, List.length_singleton]; omega)
        refine ⟨x', y', ?_⟩
        have kk := k2 w i rfl q (hq q (List.mem_cons_self ..))
        have g1 : gIx (.d (eD (.one w i))) (.d (.int 1)) = some (.d (.int i)) := rfl
        have g0 : gIx (.d (eD (.one w i))) (.d (.int 0)) = some (.d (.str (wS w))) := rfl
        have gq := geq_ii (q.2 : Int) i
        rw [List.map_cons, List.map_cons, sGo_1 (es := [.int (q.2 : Int), eS q.1]) (ρ' := [some (.whl (eW P)), some (.d (.tuple (sts.map eS))), some (.d (eD (.one w i))), some (.own (l ++ [eS (doneM P q.1 (if (q.2 : Int) = i then w else .tick))])), some (.d (.int (q.2 : Int))), some (.d (eS q.1))]) rfl rfl ?_, e, List.append_assoc]
        · rfl
        · show sApp 3 _ [some (.whl (eW P)), some (.d (.tuple (sts.map eS))), some (.d (eD (.one w i))), some (.own l), some (.d (.int (q.2 : Int))), some (.d (eS q.1))] = _
          have arg : cApp f_done (cCons (cVar 0) (cCons (cVar 5) (cCons (cIf (cT (cBin gEq (cVar 4) (cBin gIx (cVar 2) (cK (.int 1))))) (cBin gIx (cVar 2) (cK (.int 0))) (cK (.str "tick"))) cNil)))
              [some (.whl (eW P)), some (.d (.tuple (sts.map eS))), some (.d (eD (.one w i))), some (.own l), some (.d (.int (q.2 : Int))), some (.d (eS q.1))] = some (.d (eS (doneM P q.1 (if (q.2 : Int) = i then w else .tick)))) := by
            by_cases hi : (q.2 : Int) = i
            · rw [decide_eq_true hi] at gq
              rw [if_pos hi] at kk ⊢
              simp only [ev_App, ev_Cons, ev_Nil, ev_If, ev_T, ev_bin, ev_k, ev_var, List.getElem?_cons_succ, List.getElem?_cons_zero, g1, g0, gq, kk]
            · rw [decide_eq_false hi] at gq
              rw [if_neg hi] at kk ⊢
              simp only [ev_App, ev_Cons, ev_Nil, ev_If, ev_T, ev_bin, ev_k, ev_var, List.getElem?_cons_succ, List.getElem?_cons_zero, g1, gq]
              exact kk
          unfold sApp
          simp only [List.getElem?_cons_succ, List.getElem?_cons_zero]
          rw [arg]
          simp only []
          rw [if_pos (by omega)]
          rfl
    obtain ⟨x', y', e⟩ := go (sts.zipIdx 0) [] none none (fun _ h => h) (by rw [List.length_nil, List.length_zipIdx]; omega)
    have a2 : sFor (jEn false (cVar 1)) [4, 5] splT (sApp 3 (cApp f_done (cCons (cVar 0) (cCons (cVar 5) (cCons (cIf (cT (cBin gEq (cVar 4) (cBin gIx (cVar 2) (cK (.int 1))))) (cBin gIx (cVar 2) (cK (.int 0))) (cK (.str "tick"))) cNil)))))
        [some (.whl (eW P)), some (.d (.tuple (sts.map eS))), some (.d (eD (.one w i))), some (.own []), none, none] = some (.inl [some (.whl (eW P)), some (.d (.tuple (sts.map eS))), some (.d (eD (.one w i))), some (.own ((behindM P sts (.one w i)).map eS)), x', y']) := by
      show (match sGo [4, 5] splT _ (enD 0 (sts.map eS)) _ with | some ρ' => some (Sum.inl ρ') | none => none) = _
      rw [enD_map, e, List.nil_append]
      unfold behindM; rw [List.map_map]; rfl
    rw [ev_sSeq, a2]
    rfl
/-! ### the law's -/
theorem deeds_nodup (s : Sx) : ((deedsM P s).map wS).Nodup := by
  have : ∀ b1 b2 b3 b4 b5 : Bool, (((if b1 then [Wd.tick] else []) ++ (if b2 then [Wd.write] else []) ++ (if b3 then [Wd.strike] else []) ++ (if b4 then [Wd.op] else []) ++ (if b5 then [Wd.close] else []) ++ [Wd.pass]).map wS).Nodup := by
    intro b1 b2 b3 b4 b5
    cases b1 <;> cases b2 <;> cases b3 <;> cases b4 <;> cases b5 <;> decide +kernel
  unfold deedsM
  exact this _ _ _ _ _
theorem pairs_map (l : List Wd) (g : Wd → Sx) : pairsD (l.map fun w => eRw (w, g w)) = some (l.map fun w => (wS w, eS (g w))) := by
  induction l with
  | nil => rfl
  | cons a r ih =>
    rw [List.map_cons, List.map_cons]
    show (match pairsD (r.map fun w => eRw (w, g w)) with | some l => some ((wS a, eS (g a)) :: l) | none => none) = _
    rw [ih]
theorem look_w {α : Type} (l : List Wd) (g : Wd → α) (w : Wd) (h : w ∈ l) : (l.map fun v => (wS v, g v)).lookup (wS w) = some (g w) := by
  have hw : ∀ u v : Wd, (wS u == wS v) = decide (u = v) := eqw
  induction l with
  | nil => cases h
  | cons a r ih =>
    rw [List.map_cons, List.lookup_cons, hw]
    by_cases e : w = a
    · subst e; simp
    · rw [decide_eq_false e]
      exact ih ((List.mem_cons.mp h).resolve_left e)
theorem dict_rows (s : Sx) (w : Wd) (h : hasW P s w = true) : gDictAt (.d (.list ((rowsM P s).map eRw))) (.d (.str (wS w))) = some (.d (eS (doneM P s w))) := by
  have hm : w ∈ deedsM P s := by
    unfold hasW at h
    rw [List.any_eq_true] at h
    obtain ⟨v, hv, e⟩ := h
    obtain rfl : v = w := by simpa using e
    exact hv
  have e1 : (rowsM P s).map eRw = (deedsM P s).map fun v => eRw (v, doneM P s v) := by unfold rowsM; rw [List.map_map]; rfl
  show (match pairsD ((rowsM P s).map eRw) with
    | some (l : List (Str × PyData)) => if (l.map (fun x : Str × PyData => x.1)).Nodup then (l.lookup (wS w)).map Dv.d else none
    | none => none) = _
  rw [e1, pairs_map (deedsM P s) (doneM P s)]
  simp only []
  have e2 : ((deedsM P s).map fun v => (wS v, eS (doneM P s v))).map (·.1) = (deedsM P s).map wS := by rw [List.map_map]; rfl
  rw [e2, if_pos (deeds_nodup s), look_w _ (fun v => eS (doneM P s v)) w hm]
  rfl
theorem hasw_iff (s : Sx) (w : Wd) : hasW P s w = match w with
  | .tick => !stoppedM P s.tb
  | .write => !stoppedM P s.tb && s.row.isNone
  | .strike => !stoppedM P s.tb && thereM s.row
  | .op => s.rdr.isNone
  | .close => s.rdr.isSome
  | .pass => true := by
  unfold hasW deedsM
  have : ∀ b1 b2 b3 b4 b5 : Bool, ((((if b1 then [Wd.tick] else []) ++ (if b2 then [Wd.write] else []) ++ (if b3 then [Wd.strike] else []) ++ (if b4 then [Wd.op] else []) ++ (if b5 then [Wd.close] else []) ++ [Wd.pass])).any fun v => decide (v = w)) = match w with
    | .tick => b1
    | .write => b2
    | .strike => b3
    | .op => b4
    | .close => b5
    | .pass => true := by
    intro b1 b2 b3 b4 b5
    cases b1 <;> cases b2 <;> cases b3 <;> cases b4 <;> cases b5 <;> cases w <;> rfl
  rw [this]
theorem has_all {sts : List Sx} (al : Al P sts) {d : Dd} (hd : d ∈ canD P sts) :
    (∀ w, d = .all w → ∀ s ∈ sts, hasW P s w = true) ∧ (∀ w i, d = .one w i → ∀ q ∈ sts.zipIdx 0, hasW P q.1 (if (q.2 : Int) = i then w else .tick) = true) := by
  obtain ⟨tb, ra, h1, h2⟩ := al.ex
  refine ⟨fun w e s hs => ?_, fun w i e q hq => ?_⟩
  · subst e
    cases sts with
    | nil => cases hs
    | cons s0 r =>
      obtain ⟨n1, n2, g⟩ := all_mem w s0 r hd
      obtain ⟨a1, a2⟩ := h2 s0 (List.mem_cons_self ..)
      obtain ⟨b1, b2⟩ := h2 s hs
      have rn : s.rdr.isNone = s0.rdr.isNone := by
        have := b2.trans a2.symm
        cases x : s.rdr <;> cases y : s0.rdr <;> rw [x, y] at this <;> first | rfl | cases this
      have rs : s.rdr.isSome = s0.rdr.isSome := by
        have := b2.trans a2.symm
        cases x : s.rdr <;> cases y : s0.rdr <;> rw [x, y] at this <;> first | rfl | cases this
      rw [hasw_iff] at g ⊢
      cases w <;> first | exact absurd rfl n1 | exact absurd rfl n2 | skip
      · simp only [a1, b1] at g ⊢; exact g
      · simp only [] at g ⊢; rw [rn]; exact g
      · simp only [] at g ⊢; rw [rs]; exact g
      · rfl
  · subst e
    obtain ⟨hw, q2, m2, e2, w2⟩ := one_mem _ _ _ hd
    by_cases hi : (q.2 : Int) = i
    · rw [if_pos hi]
      have a := zip_at hq
      have b := zip_at m2
      have : q2.2 = q.2 := by omega
      rw [this, a] at b
      rw [Option.some.inj b]
      exact w2
    · rw [if_neg hi, hasw_iff]
      simp only []
      rw [hasw_iff] at w2
      have t1 := (h2 q.1 (List.mem_of_getElem? (zip_at hq))).1
      have t2 := (h2 q2.1 (List.mem_of_getElem? (zip_at m2))).1
      rw [t2] at w2
      rw [t1]
      rcases hw with rfl | rfl
      · simp only [Bool.and_eq_true] at w2; exact w2.1
      · simp only [Bool.and_eq_true] at w2; exact w2.1
theorem l_behind_eq (h : PtOk P) {sts : List Sx} (al : Al P sts) (hl : sts.length ≤ 100) {d : Dd} (hd : d ∈ canD P sts) :
    f_l_behind [.d (eP P), .d (.list (sts.map eS)), .d (eD d)] = some (.d (.list ((behindM P sts d).map eS))) := by
  obtain ⟨k1, k2⟩ := has_all al hd
  have hr := l_rows_eq h
  refine runF_eq rfl ?_
  show c_l_behind [some (.d (eP P)), some (.d (.list (sts.map eS))), some (.d (eD d)), none, none, none, none] = _
  unfold c_l_behind
  have a1 : sOwn 3 cNil [some (.d (eP P)), some (.d (.list (sts.map eS))), some (.d (eD d)), none, none, none, none] = some (.inl [some (.d (eP P)), some (.d (.list (sts.map eS))), some (.d (eD d)), some (.own []), none, none, none]) := rfl
  rw [ev_sSeq, a1]
  show sSeq _ _ _ = _
  -- the word for one state
  let wd : Sx × Nat → Wd := fun q => match d with | .all w => w | .one w i => if (q.2 : Int) = i then w else .tick
  have hwd : ∀ q ∈ sts.zipIdx 0, hasW P q.1 (wd q) = true := by
    intro q hq
    cases d with
    | all w => exact k1 w rfl q.1 (List.mem_of_getElem? (zip_at hq))
    | one w i => exact k2 w i rfl q hq
  have hb : behindM P sts d = (sts.zipIdx 0).map fun q => doneM P q.1 (wd q) := by
    cases d with
    | all w =>
      show (sts.map fun s => doneM P s w) = (sts.zipIdx 0).map fun q => doneM P q.1 w
      have : sts = (sts.zipIdx 0).map (·.1) := by rw [List.zipIdx_map_fst]
      conv => lhs; rw [this]
      rw [List.map_map]; rfl
    | one w i => rfl
  have word : ∀ (q : Sx × Nat) (l : List PyData) (x : Option Dv) (R : SmS), sSeq (sSet 6 (cVar 2)) (sSeq (sIf (cT (cUn (gIsi "tuple") (cVar 2))) (sSet 6 (cIf (cT (cBin gEq (cBin gIx (cVar 2) (cK (.int 1))) (cVar 4))) (cBin gIx (cVar 2) (cK (.int 0))) (cK (.str "tick")))) sNil) R)
      [some (.d (eP P)), some (.d (.list (sts.map eS))), some (.d (eD d)), some (.own l), some (.d (.int (q.2 : Int))), some (.d (eS q.1)), x] = R [some (.d (eP P)), some (.d (.list (sts.map eS))), some (.d (eD d)), some (.own l), some (.d (.int (q.2 : Int))), some (.d (eS q.1)), some (.d (.str (wS (wd q))))] := by
    intro q l x R
    cases d with
    | all w => rfl
    | one w i =>
      have g1 : gIx (.d (eD (.one w i))) (.d (.int 1)) = some (.d (.int i)) := rfl
      have g0 : gIx (.d (eD (.one w i))) (.d (.int 0)) = some (.d (.str (wS w))) := rfl
      have g2 : gIsi "tuple" (.d (eD (.one w i))) = some (.d (.bool true)) := rfl
      have gq := geq_ii i (q.2 : Int)
      show _ = R [_, _, _, _, _, _, some (.d (.str (wS (if (q.2 : Int) = i then w else .tick))))]
      by_cases hi : (q.2 : Int) = i
      · rw [decide_eq_true hi.symm] at gq
        rw [if_pos hi]
        simp only [ev_sSeq, ev_sSet, ev_sIf, ev_If, ev_T, ev_un, ev_bin, ev_k, ev_var, List.getElem?_cons_succ, List.getElem?_cons_zero, List.set_cons_succ, List.set_cons_zero, g0, g1, g2, gq]
      · rw [decide_eq_false fun z => hi z.symm] at gq
        rw [if_neg hi]
        simp only [ev_sSeq, ev_sSet, ev_sIf, ev_If, ev_T, ev_un, ev_bin, ev_k, ev_var, List.getElem?_cons_succ, List.getElem?_cons_zero, List.set_cons_succ, List.set_cons_zero, g1, g2, gq]
        rfl
  have go : ∀ (qs : List (Sx × Nat)) (l : List PyData) (x y z : Option Dv), (∀ q ∈ qs, q ∈ sts.zipIdx 0) → l.length + qs.length ≤ 1000 → ∃ x' y' z', sGo [4, 5] splT (sSeq (sSet 6 (cVar 2))
  (sSeq (sIf (cT (cUn (gIsi "tuple") (cVar 2))) (sSet 6 (cIf (cT (cBin gEq (cBin gIx (cVar 2) (cK (.int 1))) (cVar 4))) (cBin gIx (cVar 2) (cK (.int 0))) (cK (.str "tick")))) sNil)
  (sApp 3 (cBin gDictAt (cApp f_l_rows (cCons (cVar 0) (cCons (cVar 5) cNil))) (cVar 6)))))
      (qs.map fun q => .tuple [.int (q.2 : Int), eS q.1]) [some (.d (eP P)), some (.d (.list (sts.map eS))), some (.d (eD d)), some (.own l), x, y, z] = some [some (.d (eP P)), some (.d (.list (sts.map eS))), some (.d (eD d)), some (.own (l ++ qs.map fun q => eS (doneM P q.1 (wd q)))), x', y', z'] := by
    intro qs
    induction qs with
    | nil => intro l x y z _ _; exact ⟨x, y, z, by rw [List.map_nil, List.map_nil, sGo, List.append_nil]⟩
    | cons q qs ih =>
      intro l x y z hq hz
      rw [List.length_cons] at hz
      obtain ⟨x', y', z', e⟩ := ih (l ++ [eS (doneM P q.1 (wd q))]) (some (.d (.int (q.2 : Int)))) (some (.d (eS q.1))) (some (.d (.str (wS (wd q))))) (fun q' h' => hq q' (List.mem_cons_of_mem _ h')) (by rw [List.length_append, List.length_singleton]; omega)
      refine ⟨x', y', z', ?_⟩
      have dr := dict_rows q.1 (wd q) (hwd q (hq q (List.mem_cons_self ..)))
      rw [List.map_cons, List.map_cons, sGo_1 (es := [.int (q.2 : Int), eS q.1]) (ρ' := [some (.d (eP P)), some (.d (.list (sts.map eS))), some (.d (eD d)), some (.own (l ++ [eS (doneM P q.1 (wd q))])), some (.d (.int (q.2 : Int))), some (.d (eS q.1)), some (.d (.str (wS (wd q))))]) rfl rfl ?_, e, List.append_assoc]
      · rfl
      · show sSeq _ _ [some (.d (eP P)), some (.d (.list (sts.map eS))), some (.d (eD d)), some (.own l), some (.d (.int (q.2 : Int))), some (.d (eS q.1)), z] = _
        rw [word]
        have arg : cBin gDictAt (cApp f_l_rows (cCons (cVar 0) (cCons (cVar 5) cNil))) (cVar 6) [some (.d (eP P)), some (.d (.list (sts.map eS))), some (.d (eD d)), some (.own l), some (.d (.int (q.2 : Int))), some (.d (eS q.1)), some (.d (.str (wS (wd q))))] = some (.d (eS (doneM P q.1 (wd q)))) := by
          simp only [ev_bin, ev_App, ev_Cons, ev_Nil, ev_var, List.getElem?_cons_succ, List.getElem?_cons_zero, hr, dr]
        unfold sApp
        simp only [List.getElem?_cons_succ, List.getElem?_cons_zero]
        rw [arg]
        simp only []
        rw [if_pos (by omega)]
        rfl
  obtain ⟨x', y', z', e⟩ := go (sts.zipIdx 0) [] none none none (fun _ h => h) (by rw [List.length_nil, List.length_zipIdx]; omega)
  have a2 : sFor (jEn true (cVar 1)) [4, 5] splT (sSeq (sSet 6 (cVar 2))
  (sSeq (sIf (cT (cUn (gIsi "tuple") (cVar 2))) (sSet 6 (cIf (cT (cBin gEq (cBin gIx (cVar 2) (cK (.int 1))) (cVar 4))) (cBin gIx (cVar 2) (cK (.int 0))) (cK (.str "tick")))) sNil)
  (sApp 3 (cBin gDictAt (cApp f_l_rows (cCons (cVar 0) (cCons (cVar 5) cNil))) (cVar 6)))))
      [some (.d (eP P)), some (.d (.list (sts.map eS))), some (.d (eD d)), some (.own []), none, none, none] = some (.inl [some (.d (eP P)), some (.d (.list (sts.map eS))), some (.d (eD d)), some (.own ((behindM P sts d).map eS)), x', y', z']) := by
    show (match sGo [4, 5] splT _ (enD 0 (sts.map eS)) _ with | some ρ' => some (Sum.inl ρ') | none => none) = _
    rw [enD_map, e, List.nil_append, hb, List.map_map]
    rfl
  rw [ev_sSeq, a2]
  rfl
end LNm
set_option maxHeartbeats 4000000
/-! More readings: xs[:n], int(i), sum(ints). -/
namespace LNi
open PySem PySem.Spec PyProof.Rows L2 HotX L2H LNa LNb
section
variable {X : Cx} {C : Cs X.K}
def gTo (n : Nat) : Dv → Option Dv
  | .d (.list ds) => some (.d (.list (ds.take n)))
  | _ => none
theorem i_to {a : Expr} {c1 : Sm} {pos p2 : Pos} {j n : Nat} {p3 : Pos} (ha : PE X a (tI X.K C c1)) : PE X (.Subscript a (.Slice none (some (.Constant (.int n) j p3)) none p2) pos) (tI X.K C (cUn (gTo n) c1)) :=
  PE.imp (pe_slice sl_list ha po_none (po_some pe_int)) fun σ H Q h => by
    have hr : GU X.K C (fun x H Q => rSlL X.K x none (some (n : Int)) H Q) (gTo n) := by
      intro x F H d1 d e r1 h Q q
      unfold gTo at h
      split at h
      · rename_i ds
        cases h
        cases (show Dr X.K F x (.list ds) from r1) with
        | lst h1 t1 =>
          rename_i a vs
          have e1 : cutV vs none (some (n : Int)) = vs.take n := by
            unfold cutV
            rw [HT.sIx_nat, HT.sIx_none]
            simp [List.take_eq_take_iff]
          refine ⟨_, _, rfl, SqL.of (e _ _ h1), fun p hp => ?_⟩
          rw [e1]
          exact new_lst e hp (t1.take n) q
      · cases h
    have k := un_go hr h
    obtain ⟨F, ρ, dv, e, rp, hc, q⟩ := k
    exact ⟨F, ρ, dv, e, rp, hc, fun v H1 F1 f1 r1 => ⟨n, rfl, q v H1 F1 f1 r1⟩⟩
def gInt : List Dv → Option Dv
  | [.d (.int i)] => some (.d (.int i))
  | _ => none
theorem gl_int : GL X.K C (fun xs H Q => (∃ i, xs = [.int i] ∧ Q (.int i) H) ∨ ∃ k, xs = [.bl k] ∧ Q (.int (if k then 1 else 0)) H) gInt := fun vs F H ds d e r h Q q => by
  unfold gInt at h
  split at h
  · rename_i i
    cases h
    obtain ⟨v, rfl, a⟩ := rda1 r
    cases (show Dr X.K F v (.int i) from a)
    exact .inl ⟨i, rfl, q _ H F (Fr.rfl' e) (Dr.int i)⟩
  · cases h
def intsOf : List PyData → Option (List Int)
  | [] => some []
  | .int b :: r => (match intsOf r with | some bs => some (b :: bs) | none => none)
  | _ => none
theorem intsOf_v {F : Hp} : ∀ {vs : List V} {ds : List PyData} {ns : List Int}, DrAll X.K F vs ds → intsOf ds = some ns → vs = ns.map V.int
  | _, _, _, .nil, h => by cases h; rfl
  | _, _, _, .cons (d := d) (ds := ds) a t, h => by
    cases d <;> try (cases h; done)
    rename_i i
    cases a
    rw [intsOf] at h
    cases h2 : intsOf ds with
    | none => rw [h2] at h; cases h
    | some bs =>
      rw [h2] at h
      cases h
      rw [intsOf_v t h2, List.map_cons]
def gSum : List Dv → Option Dv
  | [.d (.list ds)] => (match intsOf ds with | some ns => some (.d (.int ns.sum)) | none => none)
  | _ => none
theorem gl_sum : GL X.K C (rSum X.K) gSum := fun vs F H ds d e r h Q q => by
  unfold gSum at h
  split at h
  · rename_i ys
    split at h
    · rename_i ns hb
      cases h
      obtain ⟨v, rfl, a⟩ := rda1 r
      cases (show Dr X.K F v (.list ys) from a) with
      | lst h1 t1 =>
        obtain rfl := intsOf_v t1 hb
        exact ⟨_, ns, rfl, SqL.of (e _ _ h1), q _ H F (Fr.rfl' e) (Dr.int _)⟩
    · cases h
  · cases h
end
end LNi
namespace LNt
open PySem PySem.Spec PyProof.Rows L2
theorem b_sum : bootBuiltins "sum" = some (.builtin "sum") := by decide +kernel
end LNt
set_option maxHeartbeats 4000000
namespace LNp
open PySem PySem.Spec PyProof.Rows L2 L2H LNb LNi LNt
abbrev N_all_for : List Str := ["size", "name"]
theorem s_all_for : FnScope N_all_for ["size", "name"] (defScope (top 12)) := ⟨rfl, rfl, rfl, by decide +kernel, rfl, by decide +kernel, by decide +kernel⟩
def c_all_for : SmS := (sSeq (sIf (cT (cBin gEq (cVar 1) (cK (.str "hold")))) (sRet (cApp gTup (cCons (cK (.str "no")) (cCons (cK (.str "yes")) cNil)))) sNil)
  (sSeq (sIf (cT (cBin gEq (cVar 1) (cK (.str "freeze")))) sNever sNil)
  sNever))
def f_all_for : List Dv → Option Dv := runF c_all_for 2 2
theorem t_all_for {P : Program} {w : World} {K : PySem.W.Frag} {mg : Str → Option Value} {base : Heap} {C : Cs K} {f : Addr} (T : Tx K mg C) (F : FdS K "all_for" "all_for" (top 12) f) :
    ∃ fd, Binds K fd ["size", "name"] [] ∧ FnW P w K mg base C8.CX0 1 f fd ["size", "name"] (spD K C f_all_for) :=
  fd_D F s_all_for (fun _ _ _ _ _ _ us hl => match us, hl with | [_, _], _ => rfl) fun cdv cm pn A outer s H E hw hr =>
    (is_cons (is_if (it_cmp (op_eqD (hu2_ofH hr)) go_eq (iv 1) i_str (nomark _)) (is_one (is_ret (i_tup (ia_cons i_str (ia_cons i_str ia_nil))))) is_nil)
    (is_cons (is_if (it_cmp (op_eqD (hu2_ofH hr)) go_eq (iv 1) i_str (nomark _)) (is_one is_never1) is_nil)
    (is_one is_never1)))
abbrev N_can_be : List Str := ["size", "name", "value"]
theorem s_can_be : FnScope N_can_be ["size", "name", "value"] (defScope (top 13)) := ⟨rfl, rfl, rfl, by decide +kernel, rfl, by decide +kernel, by decide +kernel⟩
def c_can_be : SmS := (sSeq (sIf (cT (cBin gEq (cVar 1) (cK (.str "hold")))) (sRet (cV (cAnd (cT (cUn (gIsi "str") (cVar 2))) (cT (cBin gIn (cVar 2) (cApp f_all_for (cCons (cVar 0) (cCons (cVar 1) cNil)))))))) sNil)
  (sSeq (sIf (cT (cBin gEq (cVar 1) (cK (.str "freeze")))) (sRet (cApp f_is_whole (cCons (cVar 2) (cCons (cK (.int 0)) (cCons (cBin gDiv (cVar 0) (cK (.int 2))) cNil))))) sNil)
  (sRet (cV (cOr (cT (cBin gIs (cVar 2) (cK .none))) (cT (cApp f_is_whole (cCons (cVar 2) (cCons (cK (.int 1)) (cCons (cVar 0) cNil))))))))))
def f_can_be : List Dv → Option Dv := runF c_can_be 3 3
theorem t_can_be {P : Program} {w : World} {K : PySem.W.Frag} {mg : Str → Option Value} {base : Heap} {C : Cs K} {f : Addr} (T : Tx K mg C) (F : FdS K "can_be" "can_be" (top 13) f) (D_all_for : Dfn P w K mg base C "all_for" 1 f_all_for) (D_is_whole : Dfn P w K mg base C "is_whole" 1 f_is_whole) :
    ∃ fd, Binds K fd ["size", "name", "value"] [] ∧ FnW P w K mg base C8.CX0 2 f fd ["size", "name", "value"] (spD K C f_can_be) :=
  fd_D F s_can_be (fun _ _ _ _ _ _ us hl => match us, hl with | [_, _, _], _ => rfl) fun cdv cm pn A outer s H E hw hr =>
    (is_cons (is_if (it_cmp (op_eqD (hu2_ofH hr)) go_eq (iv 1) i_str (nomark _)) (is_one (is_ret (iv_and (i_isi (iv 2) (by rfl) T.f_isinstance b_isinstance (by rfl) T.f_str b_str) (iv_one (i_cmp (op_inA (hu_ofH hr)) go_in (iv 2) (i_call D_all_for hr hw (by rfl) (ia_cons (iv 0) (ia_cons (iv 1) ia_nil))) (by with_unfolding_all rfl)))))) is_nil)
    (is_cons (is_if (it_cmp (op_eqD (hu2_ofH hr)) go_eq (iv 1) i_str (nomark _)) (is_one (is_ret (i_call D_is_whole hr hw (by rfl) (ia_cons (iv 2) (ia_cons i_int (ia_cons (i_op op_fdiv go_div (iv 0) i_int) ia_nil)))))) is_nil)
    (is_one (is_ret (iv_or (i_cmp op_isN go_is (iv 2) i_non (nomark _)) (iv_one (i_call D_is_whole hr hw (by rfl) (ia_cons (iv 2) (ia_cons i_int (ia_cons (iv 0) ia_nil))))))))))
abbrev N_l_number : List Str := ["_law_script", "_law_index", "_law_cells", "_law_cell", "_law_total", "_law_blend", "_law_low", "_law_high"]
theorem s_l_number : FnScope N_l_number ["_law_script", "_law_index"] (defScope (top 44)) := ⟨rfl, rfl, rfl, by decide +kernel, rfl, by decide +kernel, by decide +kernel⟩
def c_l_number : SmS := (sSeq (sSet 2 (cIf (cT (cBin gNe (cVar 0) (cApp gLst cNil))) (cUn (gTo 63) (cVar 0)) (cApp gLst (cCons (cK (.int 5)) cNil))))
  (sSeq (sSet 3 (cBin gAdd (cBin gIx (cVar 2) (cBin gMod (cApp gInt (cCons (cVar 1) cNil)) (cApp gLen (cCons (cVar 2) cNil)))) (cBin gMul (cK (.int 13)) (cBin gDiv (cVar 1) (cApp gLen (cCons (cVar 2) cNil))))))
  (sSeq (sPar 6 7 (cCons (cBin gMod (cApp gInt (cCons (cVar 3) cNil)) (cK (.int 1000003))) (cCons (cBin gMod (cApp gInt (cCons (cBin gDiv (cVar 3) (cK (.int 1000003))) cNil)) (cK (.int 999983))) cNil)))
  (sSeq (sSet 4 (cBin gMod (cApp gInt (cCons (cApp gSum (cCons (cVar 2) cNil)) cNil)) (cK (.int 65521))))
  (sSeq (sSet 5 (cBin gMod (cApp gInt (cCons (cBin gAdd (cBin gAdd (cBin gMul (cBin gAdd (cVar 6) (cBin gMul (cK (.int 977)) (cVar 1))) (cK (.int 48271))) (cBin gMul (cK (.int 31)) (cVar 7))) (cVar 4)) cNil)) (cK (.int 2147483647))))
  (sRet (cBin gAdd (cBin gMul (cBin gMod (cApp gInt (cCons (cBin gMul (cVar 5) (cBin gAdd (cBin gAdd (cVar 5) (cBin gMul (cK (.int 31)) (cVar 1))) (cK (.int 7)))) cNil)) (cK (.int 2147483629))) (cK (.int 65537))) (cVar 7))))))))
def f_l_number : List Dv → Option Dv := runF c_l_number 2 8
theorem t_l_number {P : Program} {w : World} {K : PySem.W.Frag} {mg : Str → Option Value} {base : Heap} {C : Cs K} {f : Addr} (T : Tx K mg C) (F : FdS K "_law_number" "_law_number" (top 44) f) :
    ∃ fd, Binds K fd ["_law_script", "_law_index"] [] ∧ FnOk P w K mg base C8.CX0 1 f fd ["_law_script", "_law_index"] (spD K C f_l_number) :=
  fd_C F s_l_number (fun _ _ _ _ _ _ us hl => match us, hl with | [_, _], _ => rfl) fun cdv A outer s H E hw hc hr =>
    (is_cons (is_set (i := 2) s_l_number.nd rfl (by first | exact .inl rfl | exact .inr rfl) (i_if (it_cmp (op_neD (hu2_ofH hr)) go_ne (iv 0) (i_lst ia_nil) (nomark _)) (i_to (n := 63) (iv 0)) (i_lst (ia_cons i_int ia_nil))))
    (is_cons (is_set (i := 3) s_l_number.nd rfl (by first | exact .inl rfl | exact .inr rfl) (i_op op_addA go_add (i_ix (iv 2) (i_op op_mod go_mod (i_callTy (call_int1) gl_int (by rfl) T.f_int b_int (ia_cons (iv 1) ia_nil)) (i_callB (call_len_seq) gl_len (by rfl) T.f_len b_len (ia_cons (iv 2) ia_nil)))) (i_op op_mul go_mul i_int (i_op op_fdiv go_div (iv 1) (i_callB (call_len_seq) gl_len (by rfl) T.f_len b_len (ia_cons (iv 2) ia_nil))))))
    (is_cons (is_par (i := 6) (j := 7) hw s_l_number.nd rfl rfl rfl rfl (ia_cons (i_op op_mod go_mod (i_callTy (call_int1) gl_int (by rfl) T.f_int b_int (ia_cons (iv 3) ia_nil)) i_int) (ia_cons (i_op op_mod go_mod (i_callTy (call_int1) gl_int (by rfl) T.f_int b_int (ia_cons (i_op op_fdiv go_div (iv 3) i_int) ia_nil)) i_int) ia_nil)))
    (is_cons (is_set (i := 4) s_l_number.nd rfl (by first | exact .inl rfl | exact .inr rfl) (i_op op_mod go_mod (i_callTy (call_int1) gl_int (by rfl) T.f_int b_int (ia_cons (i_callB (cr_sum hc) gl_sum (by rfl) T.f_sum b_sum (ia_cons (iv 2) ia_nil)) ia_nil)) i_int))
    (is_cons (is_set (i := 5) s_l_number.nd rfl (by first | exact .inl rfl | exact .inr rfl) (i_op op_mod go_mod (i_callTy (call_int1) gl_int (by rfl) T.f_int b_int (ia_cons (i_op op_addA go_add (i_op op_addA go_add (i_op op_mul go_mul (i_op op_addA go_add (iv 6) (i_op op_mul go_mul i_int (iv 1))) i_int) (i_op op_mul go_mul i_int (iv 7))) (iv 4)) ia_nil)) i_int))
    (is_one (is_ret (i_op op_addA go_add (i_op op_mul go_mul (i_op op_mod go_mod (i_callTy (call_int1) gl_int (by rfl) T.f_int b_int (ia_cons (i_op op_mul go_mul (iv 5) (i_op op_addA go_add (i_op op_addA go_add (iv 5) (i_op op_mul go_mul i_int (iv 1))) i_int)) ia_nil)) i_int) i_int) (iv 7)))))))))
end LNp
set_option maxHeartbeats 4000000
/-! The law's number: some whole number. -/
namespace LNm
open PySem LNi LNt LNp
theorem ints_map (l : List Int) : intsOf (l.map PyData.int) = some l := by
  induction l with
  | nil => rfl
  | cons a r ih => rw [List.map_cons, intsOf, ih]
theorem n_mod (i j : Int) (h : 0 < j) : gMod (.d (.int i)) (.d (.int j)) = some (.d (.int (i % j))) := if_pos h
theorem n_div (i j : Int) (h : 0 < j) (h2 : j < 1073741824) : gDiv (.d (.int i)) (.d (.int j)) = some (.d (.int (i / j))) := if_pos ⟨h, h2⟩
theorem n_mul (i j : Int) (h : 0 ≤ i) (h2 : i < 18446744073709551616) : gMul (.d (.int i)) (.d (.int j)) = some (.d (.int (i * j))) := by
  have e : (2 : Int) ^ 64 = 18446744073709551616 := by decide
  exact if_pos ⟨by rw [e]; omega, by rw [e]; exact h2⟩
theorem n_add (i j : Int) : gAdd (.d (.int i)) (.d (.int j)) = some (.d (.int (i + j))) := rfl
theorem n_int (i : Int) : gInt [.d (.int i)] = some (.d (.int i)) := rfl
theorem n_sum (l : List Int) : gSum [.d (.list (l.map PyData.int))] = some (.d (.int l.sum)) := by
  show (match intsOf (l.map PyData.int) with | some ns => some (Dv.d (.int ns.sum)) | none => none) = _
  rw [ints_map]
theorem n_at (l : List Int) (i : Int) (h0 : 0 ≤ i) (h1 : i < l.length) : ∃ c, gIx (.d (.list (l.map PyData.int))) (.d (.int i)) = some (.d (.int c)) := by
  obtain ⟨j, rfl⟩ := Int.eq_ofNat_of_zero_le h0
  have hi : j < l.length := by omega
  refine ⟨l[j], ?_⟩
  show (L2.atI (l.map PyData.int) (j : Int)).map Dv.d = _
  rw [L2.atI_nat (v := .int l[j]) (by rw [List.getElem?_map, List.getElem?_eq_getElem hi]; rfl)]
  rfl
def c_l_rest : SmS := (sSeq (sSet 3 (cBin gAdd (cBin gIx (cVar 2) (cBin gMod (cApp gInt (cCons (cVar 1) cNil)) (cApp gLen (cCons (cVar 2) cNil)))) (cBin gMul (cK (.int 13)) (cBin gDiv (cVar 1) (cApp gLen (cCons (cVar 2) cNil))))))
  (sSeq (sPar 6 7 (cCons (cBin gMod (cApp gInt (cCons (cVar 3) cNil)) (cK (.int 1000003))) (cCons (cBin gMod (cApp gInt (cCons (cBin gDiv (cVar 3) (cK (.int 1000003))) cNil)) (cK (.int 999983))) cNil)))
  (sSeq (sSet 4 (cBin gMod (cApp gInt (cCons (cApp gSum (cCons (cVar 2) cNil)) cNil)) (cK (.int 65521))))
  (sSeq (sSet 5 (cBin gMod (cApp gInt (cCons (cBin gAdd (cBin gAdd (cBin gMul (cBin gAdd (cVar 6) (cBin gMul (cK (.int 977)) (cVar 1))) (cK (.int 48271))) (cBin gMul (cK (.int 31)) (cVar 7))) (cVar 4)) cNil)) (cK (.int 2147483647))))
  (sRet (cBin gAdd (cBin gMul (cBin gMod (cApp gInt (cCons (cBin gMul (cVar 5) (cBin gAdd (cBin gAdd (cVar 5) (cBin gMul (cK (.int 31)) (cVar 1))) (cK (.int 7)))) cNil)) (cK (.int 2147483629))) (cK (.int 65537))) (cVar 7)))))))
theorem l_rest_ex (x0 : Option Dv) (l : List Int) (hl0 : l ≠ []) (hl1 : l.length ≤ 63) (k : Int) (hk : 0 ≤ k) (hk2 : k < 1099511627776) : ∃ n, c_l_rest [x0, some (.d (.int k)), some (.d (.list (l.map .int))), none, none, none, none, none] = some (.inr (.d (.int n))) := by
  unfold c_l_rest
  have hlp : 0 < l.length := List.length_pos_iff.mpr hl0
  have gl : gLen [.d (.list (l.map PyData.int))] = some (.d (.int (l.length : Nat))) := by rw [gLen, List.length_map]
  -- the cell
  obtain ⟨c, hc⟩ := n_at l (k % (l.length : Nat)) (Int.emod_nonneg _ (by omega)) (Int.emod_lt_of_pos _ (by omega))
  have m1 := n_mod k (l.length : Nat) (by omega)
  have d1 := n_div k (l.length : Nat) (by omega) (by omega)
  have u1 := n_mul 13 (k / (l.length : Nat)) (by omega) (by omega)
  have a2 : sSet 3 (cBin gAdd (cBin gIx (cVar 2) (cBin gMod (cApp gInt (cCons (cVar 1) cNil)) (cApp gLen (cCons (cVar 2) cNil)))) (cBin gMul (cK (.int 13)) (cBin gDiv (cVar 1) (cApp gLen (cCons (cVar 2) cNil)))))
      [x0, some (.d (.int k)), some (.d (.list (l.map .int))), none, none, none, none, none] = some (.inl [x0, some (.d (.int k)), some (.d (.list (l.map .int))), some (.d (.int (c + 13 * (k / (l.length : Nat))))), none, none, none, none]) := by
    simp only [ev_sSet, ev_bin, ev_var, ev_App, ev_Cons, ev_Nil, ev_k, List.getElem?_cons_succ, List.getElem?_cons_zero, n_int, gl, m1, hc, d1, u1, n_add, List.set_cons_succ, List.set_cons_zero]
  rw [ev_sSeq, a2]
  show ∃ n, sSeq _ _ _ = _
  generalize c + 13 * (k / (l.length : Nat)) = x
  have m2 := n_mod x 1000003 (by omega)
  have d2 := n_div x 1000003 (by omega) (by omega)
  have m3 := n_mod (x / 1000003) 999983 (by omega)
  have lo : 0 ≤ x % 1000003 ∧ x % 1000003 < 1000003 := ⟨Int.emod_nonneg _ (by omega), Int.emod_lt_of_pos _ (by omega)⟩
  have hi : 0 ≤ (x / 1000003) % 999983 ∧ (x / 1000003) % 999983 < 999983 := ⟨Int.emod_nonneg _ (by omega), Int.emod_lt_of_pos _ (by omega)⟩
  have a3 : sPar 6 7 (cCons (cBin gMod (cApp gInt (cCons (cVar 3) cNil)) (cK (.int 1000003))) (cCons (cBin gMod (cApp gInt (cCons (cBin gDiv (cVar 3) (cK (.int 1000003))) cNil)) (cK (.int 999983))) cNil))
      [x0, some (.d (.int k)), some (.d (.list (l.map .int))), some (.d (.int x)), none, none, none, none] = some (.inl [x0, some (.d (.int k)), some (.d (.list (l.map .int))), some (.d (.int x)), none, none, some (.d (.int (x % 1000003))), some (.d (.int ((x / 1000003) % 999983)))]) := by
    unfold sPar
    simp only [ev_bin, ev_var, ev_App, ev_Cons, ev_Nil, ev_k, List.getElem?_cons_succ, List.getElem?_cons_zero, n_int, m2, d2, m3, List.set_cons_succ, List.set_cons_zero]
  rw [ev_sSeq, a3]
  show ∃ n, sSeq _ _ _ = _
  generalize x % 1000003 = low at lo
  generalize (x / 1000003) % 999983 = high at hi
  have m4 := n_mod l.sum 65521 (by omega)
  have sm := n_sum l
  have a4 : sSet 4 (cBin gMod (cApp gInt (cCons (cApp gSum (cCons (cVar 2) cNil)) cNil)) (cK (.int 65521)))
      [x0, some (.d (.int k)), some (.d (.list (l.map .int))), some (.d (.int x)), none, none, some (.d (.int low)), some (.d (.int high))] = some (.inl [x0, some (.d (.int k)), some (.d (.list (l.map .int))), some (.d (.int x)), some (.d (.int (l.sum % 65521))), none, some (.d (.int low)), some (.d (.int high))]) := by
    simp only [ev_sSet, ev_bin, ev_var, ev_App, ev_Cons, ev_Nil, ev_k, List.getElem?_cons_succ, List.getElem?_cons_zero, n_int, sm, m4, List.set_cons_succ, List.set_cons_zero]
  rw [ev_sSeq, a4]
  show ∃ n, sSeq _ _ _ = _
  generalize l.sum % 65521 = tot
  have u2 := n_mul 977 k (by omega) (by omega)
  have u3 := n_mul (low + 977 * k) 48271 (by omega) (by omega)
  have u4 := n_mul 31 high (by omega) (by omega)
  have m5 := n_mod ((low + 977 * k) * 48271 + 31 * high + tot) 2147483647 (by omega)
  have bl : 0 ≤ ((low + 977 * k) * 48271 + 31 * high + tot) % 2147483647 ∧ ((low + 977 * k) * 48271 + 31 * high + tot) % 2147483647 < 2147483647 := ⟨Int.emod_nonneg _ (by omega), Int.emod_lt_of_pos _ (by omega)⟩
  have a5 : sSet 5 (cBin gMod (cApp gInt (cCons (cBin gAdd (cBin gAdd (cBin gMul (cBin gAdd (cVar 6) (cBin gMul (cK (.int 977)) (cVar 1))) (cK (.int 48271))) (cBin gMul (cK (.int 31)) (cVar 7))) (cVar 4)) cNil)) (cK (.int 2147483647)))
      [x0, some (.d (.int k)), some (.d (.list (l.map .int))), some (.d (.int x)), some (.d (.int tot)), none, some (.d (.int low)), some (.d (.int high))] = some (.inl [x0, some (.d (.int k)), some (.d (.list (l.map .int))), some (.d (.int x)), some (.d (.int tot)), some (.d (.int (((low + 977 * k) * 48271 + 31 * high + tot) % 2147483647))), some (.d (.int low)), some (.d (.int high))]) := by
    simp only [ev_sSet, ev_bin, ev_var, ev_App, ev_Cons, ev_Nil, ev_k, List.getElem?_cons_succ, List.getElem?_cons_zero, n_int, n_add, u2, u3, u4, m5, List.set_cons_succ, List.set_cons_zero]
  rw [ev_sSeq, a5]
  show ∃ n, sRet _ _ = _
  generalize ((low + 977 * k) * 48271 + 31 * high + tot) % 2147483647 = b at bl
  have u5 := n_mul 31 k (by omega) (by omega)
  have u6 := n_mul b (b + 31 * k + 7) (by omega) (by omega)
  have m6 := n_mod (b * (b + 31 * k + 7)) 2147483629 (by omega)
  have bm : 0 ≤ (b * (b + 31 * k + 7)) % 2147483629 ∧ (b * (b + 31 * k + 7)) % 2147483629 < 2147483629 := ⟨Int.emod_nonneg _ (by omega), Int.emod_lt_of_pos _ (by omega)⟩
  have u7 := n_mul ((b * (b + 31 * k + 7)) % 2147483629) 65537 (by omega) (by omega)
  refine ⟨(b * (b + 31 * k + 7)) % 2147483629 * 65537 + high, ?_⟩
  simp only [ev_ret, ev_bin, ev_var, ev_App, ev_Cons, ev_Nil, ev_k, List.getElem?_cons_succ, List.getElem?_cons_zero, n_int, n_add, u5, u6, m6, u7]
end LNm
set_option maxHeartbeats 4000000
/-! The rules of a drawn wheel are right. -/
namespace LNm
open PySem LNi LNt LNp
/-- drawn parts -/
structure PtD (P : Pt) : Prop extends PtOk P where
  freeze : 0 ≤ P.freeze ∧ P.freeze ≤ P.size / 2
  stop : ∀ k, P.stop = some k → 1 ≤ k ∧ k ≤ P.size
  cut : ∀ k, P.cut = some k → 1 ≤ k ∧ k ≤ P.size
theorem rule_in (P : Pt) (h : PtD P) : f_can_be [.d (.int P.size), .d (.str "freeze"), .d (.int P.freeze)] = some (.d (.bool true)) ∧ f_can_be [.d (.int P.size), .d (.str "stop"), .d (eO P.stop)] = some (.d (.bool true)) ∧
    f_can_be [.d (.int P.size), .d (.str "hold"), .d (eH P.hold)] = some (.d (.bool true)) ∧ f_can_be [.d (.int P.size), .d (.str "cut"), .d (eO P.cut)] = some (.d (.bool true)) := by
  have hs := h.size
  have q : ∀ a b : Str, SeqAt.shaped (.str a) = true → SeqAt.shaped (.str b) = true → gEq (.d (.str a)) (.d (.str b)) = some (.d (.bool (a == b))) := fun a b x y => by
    show (if SeqAt.shaped (.str a) = true ∧ SeqAt.shaped (.str b) = true then some (Dv.d (.bool (PyData.eqv (.str a) (.str b)))) else none) = _
    rw [if_pos ⟨x, y⟩]; rfl
  have s1 : SeqAt.shaped (.str "freeze") = true := by decide +kernel
  have s2 : SeqAt.shaped (.str "stop") = true := by decide +kernel
  have s3 : SeqAt.shaped (.str "hold") = true := by decide +kernel
  have s4 : SeqAt.shaped (.str "cut") = true := by decide +kernel
  have fh := q "freeze" "hold" s1 s3
  have ff := q "freeze" "freeze" s1 s1
  have sh := q "stop" "hold" s2 s3
  have sf := q "stop" "freeze" s2 s1
  have hh := q "hold" "hold" s3 s3
  have ch := q "cut" "hold" s4 s3
  have cf := q "cut" "freeze" s4 s1
  rw [show (("freeze" : Str) == ("hold" : Str)) = false by decide +kernel] at fh
  rw [show (("freeze" : Str) == ("freeze" : Str)) = true by decide +kernel] at ff
  rw [show (("stop" : Str) == ("hold" : Str)) = false by decide +kernel] at sh
  rw [show (("stop" : Str) == ("freeze" : Str)) = false by decide +kernel] at sf
  rw [show (("hold" : Str) == ("hold" : Str)) = true by decide +kernel] at hh
  rw [show (("cut" : Str) == ("hold" : Str)) = false by decide +kernel] at ch
  rw [show (("cut" : Str) == ("freeze" : Str)) = false by decide +kernel] at cf
  have w1 := f_is_whole_int P.freeze 0 (P.size / 2)
  rw [decide_eq_true h.freeze.1, decide_eq_true h.freeze.2] at w1
  have d1 : gDiv (.d (.int P.size)) (.d (.int 2)) = some (.d (.int (P.size / 2))) := n_div _ _ (by omega) (by omega)
  have wk : ∀ k, 1 ≤ k → k ≤ P.size → f_is_whole [.d (.int k), .d (.int 1), .d (.int P.size)] = some (.d (.bool true)) := fun k a b => by
    have := f_is_whole_int k 1 P.size
    rw [decide_eq_true a, decide_eq_true b] at this; exact this
  refine ⟨?_, ?_, ?_, ?_⟩
  · simp [f_can_be, runF, runS, c_can_be, fh, ff, w1, d1]
  · cases hp : P.stop with
    | none => simp [f_can_be, runF, runS, c_can_be, sh, sf, gIs]
    | some k => simp [f_can_be, runF, runS, c_can_be, sh, sf, gIs, wk k (h.stop k hp).1 (h.stop k hp).2]
  · have g1 : gIsi "str" (.d (eH P.hold)) = some (.d (.bool true)) := rfl
    have af : f_all_for [.d (.int P.size), .d (.str "hold")] = some (.d (.tuple [.str "no", .str "yes"])) := by
      simp [f_all_for, runF, runS, c_all_for, hh, gTup, allD]
    have gi : gIn (.d (eH P.hold)) (.d (.tuple [.str "no", .str "yes"])) = some (.d (.bool true)) := by
      show (if flatD (eH P.hold) = true ∧ [PyData.str "no", PyData.str "yes"].all flatD = true then some (Dv.d (.bool ([PyData.str "no", PyData.str "yes"].any fun z => PyData.eqv z (eH P.hold)))) else none) = _
      rw [if_pos ⟨rfl, rfl⟩]
      have : ([PyData.str "no", PyData.str "yes"].any fun z => PyData.eqv z (eH P.hold)) = true := by cases P.hold <;> decide +kernel
      rw [this]
    simp [f_can_be, runF, runS, c_can_be, hh, g1, af, gi]
  · cases hp : P.cut with
    | none => simp [f_can_be, runF, runS, c_can_be, ch, cf, gIs]
    | some k => simp [f_can_be, runF, runS, c_can_be, ch, cf, gIs, wk k (h.cut k hp).1 (h.cut k hp).2]
end LNm
set_option maxHeartbeats 4000000
/-! The law's number, of the script as it is read (it may be locked). -/
namespace LNn
open PySem PySem.Spec PyProof.Rows L2 HotX L2H LNa LNb LNi LNt LNp
open Evl (Ex Ex.refl Ex.trans Ex.new ex_t ex_l ex_rd fresh_back)
/-- the script: a list that is read -/
structure Scr (K : PySem.W.Frag) (F : Hp) (v : V) (cells : List Int) : Prop where
  ex : ∃ a, v = .ref a ∧ SqL K F a (cells.map V.int)
theorem Scr.mono {K : PySem.W.Frag} {F F' : Hp} {v : V} {cells : List Int} (e : Ex F F') (h : Scr K F v cells) : Scr K F' v cells := by
  obtain ⟨a, b, c⟩ := h.ex
  exact ⟨a, b, ex_l e c⟩
def spNum (K : PySem.W.Frag) : Sp := fun vs H Q _ => ∃ F sv cells k, vs = [sv, .int k] ∧ Ex F H ∧ Scr K F sv cells ∧ 0 ≤ k ∧ k < 1099511627776 ∧ ∀ m F' H', Fr F H F' H' → Q (.int m) H'
theorem ints_dr {K : PySem.W.Frag} {F : Hp} : ∀ l : List Int, DrAll K F (l.map V.int) (l.map PyData.int)
  | [] => .nil
  | i :: r => .cons (.int i) (ints_dr r)
theorem ints_dp {K : PySem.W.Frag} {F : Hp} : ∀ l : List Int, DpAll K F (l.map V.int) (l.map PyData.int)
  | [] => .nil
  | i :: r => .cons (.int i) (ints_dp r)
theorem t_num {P : Program} {w : World} {K : PySem.W.Frag} {mg : Str → Option Value} {base : Heap} {C : Cs K} {f : Addr} (T : Tx K mg C) (F : FdS K "_law_number" "_law_number" (top 44) f) :
    ∃ fd, Binds K fd ["_law_script", "_law_index"] [] ∧ FnOk P w K mg base C8.CX0 1 f fd ["_law_script", "_law_index"] (spNum K) := by
  obtain ⟨oc, od, kV, doc, pm, an, cdv, ct, osl, lk, hcd⟩ := F.ex
  refine ⟨_, .all (fun us hl => match us, hl with | [_, _], _ => rfl), fn_of lk hcd s_l_number (fun vs H Q E ⟨_, _, _, _, e, _⟩ => by rw [e]; rfl) fun A outer s H vs Q E hr0 h => ?_⟩
  have hr : RoomH 0 (A.deeper (envOfC "_law_number" (defScope (top 44)) s.heap.objs.size f cdv)) := ⟨hr0.dp, hr0.un⟩
  have hc : (cxOf C8.CX0 P w K mg base N_l_number "_law_number" (defScope (top 44)) f cdv A outer s H E).nox.calm = true := rfl
  have hw : Wm (cxOf C8.CX0 P w K mg base N_l_number "_law_number" (defScope (top 44)) f cdv A outer s H E).nox := .inl rfl
  refine ⟨_, PSs.nox (pss_cons (ps_asg (pe_ifExp (pt_cmpR (op_neD (hu2_ofH hr)) (pv 0) (pe_lst pa_nil) (nomark _)) (pe_slice sl_list (pv 0) po_none (po_some pe_int)) (pe_lst (pa_cons pe_int pa_nil))) (pg_name (i := 2) s_l_number.nd rfl (by first | exact .inl rfl | exact .inr rfl)))
    (PSs.imp (t' := fun D σ H => tIs K C (RetD K C) LNm.c_l_rest D σ H)
    (is_cons (is_set (i := 3) s_l_number.nd rfl (by first | exact .inl rfl | exact .inr rfl) (i_op op_addA go_add (i_ix (iv 2) (i_op op_mod go_mod (i_callTy (call_int1) gl_int (by rfl) T.f_int b_int (ia_cons (iv 1) ia_nil)) (i_callB (call_len_seq) gl_len (by rfl) T.f_len b_len (ia_cons (iv 2) ia_nil)))) (i_op op_mul go_mul i_int (i_op op_fdiv go_div (iv 1) (i_callB (call_len_seq) gl_len (by rfl) T.f_len b_len (ia_cons (iv 2) ia_nil))))))
    (is_cons (is_par (i := 6) (j := 7) hw s_l_number.nd rfl rfl rfl rfl (ia_cons (i_op op_mod go_mod (i_callTy (call_int1) gl_int (by rfl) T.f_int b_int (ia_cons (iv 3) ia_nil)) i_int) (ia_cons (i_op op_mod go_mod (i_callTy (call_int1) gl_int (by rfl) T.f_int b_int (ia_cons (i_op op_fdiv go_div (iv 3) i_int) ia_nil)) i_int) ia_nil)))
    (is_cons (is_set (i := 4) s_l_number.nd rfl (by first | exact .inl rfl | exact .inr rfl) (i_op op_mod go_mod (i_callTy (call_int1) gl_int (by rfl) T.f_int b_int (ia_cons (i_callB (cr_sum hc) gl_sum (by rfl) T.f_sum b_sum (ia_cons (iv 2) ia_nil)) ia_nil)) i_int))
    (is_cons (is_set (i := 5) s_l_number.nd rfl (by first | exact .inl rfl | exact .inr rfl) (i_op op_mod go_mod (i_callTy (call_int1) gl_int (by rfl) T.f_int b_int (ia_cons (i_op op_addA go_add (i_op op_addA go_add (i_op op_mul go_mul (i_op op_addA go_add (iv 6) (i_op op_mul go_mul i_int (iv 1))) i_int) (i_op op_mul go_mul i_int (iv 7))) (iv 4)) ia_nil)) i_int))
    (is_one (is_ret (i_op op_addA go_add (i_op op_mul go_mul (i_op op_mod go_mod (i_callTy (call_int1) gl_int (by rfl) T.f_int b_int (ia_cons (i_op op_mul go_mul (iv 5) (i_op op_addA go_add (i_op op_addA go_add (iv 5) (i_op op_mul go_mul i_int (iv 1))) i_int)) ia_nil)) i_int) i_int) (iv 7)))))))) (fun D σ H h => h))), ?_⟩
  obtain ⟨F, sv, cells, k, rfl, e, c, k0, k1, q⟩ := h
  obtain ⟨a, rfl, ha⟩ := c.ex
  have cont : ∀ (l : List Int) (p2 : Addr) (F2 H2 : Hp), l ≠ [] → l.length ≤ 63 → Fr F H F2 H2 → Dr K F2 (.ref p2) (.list (l.map .int)) →
      tIs K C (RetD K C) LNm.c_l_rest { nx := fun _ H' => Q .non H', rt := Q } [some (.ref a), some (.int k), some (.ref p2), none, none, none, none, none] H2 := by
    intro l p2 F2 H2 l0 l1 f2 rl
    obtain ⟨n, hn⟩ := LNm.l_rest_ex none l l0 l1 k k0 k1
    refine ⟨F2, H2, F2, _, _, ⟨Fr.rfl' f2.b, ⟨rfl, fun i dv z => ?_⟩, fun i dv p z o => ?_, fun i j x y z o => ?_⟩, hn, fun v H3 F3 f3 r3 => ?_⟩
    · match i, z with
      | 0, z => cases z
      | 1, z => cases z; exact ⟨_, rfl, Dr.int k⟩
      | 2, z => cases z; exact ⟨_, rfl, rl⟩
      | 3, z => cases z
      | 4, z => cases z
      | 5, z => cases z
      | 6, z => cases z
      | 7, z => cases z
      | i + 8, z => cases z
    · match i, z with
      | 0, z => cases z
      | 1, z => cases z; cases o
      | 2, z => cases z; cases o
      | 3, z => cases z
      | 4, z => cases z
      | 5, z => cases z
      | 6, z => cases z
      | 7, z => cases z
      | i + 8, z => cases z
    · match i, z with
      | 0, z => cases z
      | 1, z => cases z; cases o
      | 2, z => cases z; cases o
      | 3, z => cases z
      | 4, z => cases z
      | 5, z => cases z
      | 6, z => cases z
      | 7, z => cases z
      | i + 8, z => cases z
    · cases (show Dr K F3 v (.int n) from r3)
      exact q n F3 H3 (f2.tr f3)
  have sh : LNm.Shp 1 (.list (cells.map PyData.int)) := LNm.shp_list (LNm.shp_map LNm.shp_int)
  have sn : LNm.Shp 1 (.list []) := LNm.shp_list (fun d hd => nomatch hd)
  refine ⟨_, rfl, by simp [sizeLine_eq], fun p hp => ?_⟩
  have f1 := Fr.new (.lst []) e hp
  refine ⟨.list (cells.map .int), .list [], .lst (ex_l (f1.a.trans f1.b) ha) (ints_dp _), .lst (SqL.of upd_same) .nil, sh.sh (by omega), sn.sh (by omega), _, rfl, ?_⟩
  cases cells with
  | nil =>
    have ev : (!(PyData.list (List.map PyData.int [])).eqv (PyData.list [])) = false := rfl
    rw [ev, if_neg (by decide)]
    refine ⟨by simp [sizeLine_eq], fun p2 hp2 => ?_⟩
    have f2 := Fr.new (.lst [.int 5]) f1.b hp2
    exact cont [5] p2 _ _ (by simp) (by simp) (f1.tr f2) (.lst upd_same (.cons (.int 5) .nil))
  | cons c0 r =>
    have ev : (!(PyData.list (List.map PyData.int (c0 :: r))).eqv (PyData.list [])) = true := rfl
    rw [ev, if_pos rfl]
    refine ⟨_, rfl, _, rfl, a, _, rfl, ex_l (f1.a.trans f1.b) ha, fun p2 hp2 => ?_⟩
    have e0 : ∀ vs : List V, cutV vs none (some (63 : Int)) = vs.take 63 := fun vs => by
      unfold cutV
      rw [show (63 : Int) = ((63 : Nat) : Int) from rfl, HT.sIx_nat, HT.sIx_none]
      simp [List.take_eq_take_iff]
    have e1 : cutV ((c0 :: r).map V.int) none (some (63 : Int)) = ((c0 :: r).take 63).map V.int := by rw [e0, List.map_take]
    rw [e1]
    have f2 := Fr.new (.lst (((c0 :: r).take 63).map V.int)) f1.b hp2
    exact cont ((c0 :: r).take 63) p2 _ _ (by simp) (by rw [List.length_take]; omega) (f1.tr f2) (.lst upd_same (ints_dr _))
end LNn
set_option maxHeartbeats 4000000
/-! Defs that change what they are given: the law's take and pick. -/
namespace LNn
open PySem PySem.Spec PyProof.Rows L2 HotX L2H LNa LNb LNi LNt LNp
open Evl (Ex Ex.refl Ex.trans Ex.new ex_t ex_l ex_rd fresh_back)
/-- F grows; outside it nothing is changed but at M -/
structure Gr (M : Addr → Prop) (F H F' H' : Hp) : Prop where
  a : Ex F F'
  b : Ex F' H'
  c : ∀ p o, F p = none → H p = some o → F' p = none ∧ (¬ M p → H' p = some o)
theorem _root_.LNi.Fr.gr {M : Addr → Prop} {F H F' H' : Hp} (h : Fr F H F' H') : Gr M F H F' H' := ⟨h.a, h.b, fun p o x y => ⟨(h.c p o x y).1, fun _ => (h.c p o x y).2⟩⟩
theorem Gr.refl {M : Addr → Prop} {F H : Hp} (e : Ex F H) : Gr M F H F H := (Fr.rfl' e).gr
/-- the frame, and that what M names stays outside, told at the end -/
theorem Gr.fr {F H F' H' : Hp} (h : Gr (fun _ => False) F H F' H') : Fr F H F' H' := ⟨h.a, h.b, fun p o x y => ⟨(h.c p o x y).1, (h.c p o x y).2 (fun z => z)⟩⟩
theorem Gr.wide {M M' : Addr → Prop} {F H F' H' : Hp} (h : Gr M F H F' H') (hm : ∀ p, M p → M' p) : Gr M' F H F' H' := ⟨h.a, h.b, fun p o x y => ⟨(h.c p o x y).1, fun z => (h.c p o x y).2 fun q => z (hm p q)⟩⟩
/-- behind a change, then a frame -/
theorem Gr.step {M : Addr → Prop} {F H F' H' : Hp} {p : Addr} {o o' : HO} (f0 : F p = none) (h0 : H p = some o) (hp : M p) (h : Gr M F (upd H p o') F' H') : Gr M F H F' H' := by
  refine ⟨h.a, h.b, fun q u x y => ?_⟩
  by_cases z : q = p
  · subst z
    exact ⟨(h.c q o' x upd_same).1, fun w => absurd hp w⟩
  · exact h.c q u x (by rw [upd_ne z]; exact y)
theorem Gr.tr {M : Addr → Prop} {F H F1 H1 F2 H2 : Hp} (x : Gr M F H F1 H1) (y : Gr M F1 H1 F2 H2) (there : ∀ p, M p → F p = none → (H p).isSome → (H1 p).isSome) : Gr M F H F2 H2 := by
  refine ⟨x.a.trans y.a, y.b, fun p o g1 g2 => ?_⟩
  obtain ⟨a, b⟩ := x.c p o g1 g2
  by_cases z : M p
  · obtain ⟨o', e⟩ := Option.isSome_iff_exists.mp (there p z g1 (by rw [g2]; rfl))
    exact ⟨(y.c p o' a e).1, fun w => absurd z w⟩
  · obtain ⟨c, d⟩ := y.c p o a (b z)
    exact ⟨c, d⟩
theorem ex_out {F H : Hp} {p : Addr} {o : HO} (e : Ex F H) (h : F p = none) : Ex F (upd H p o) := fun q u g => by
  rw [upd_ne (ne_of_none g h)]; exact e q u g
section
variable {X : Cx}
theorem vv (i : Nat) {x : Str} {pos : Pos} (hN : X.N[i]? = some x := by rfl) (hv : Vis X.env.scope x := by first | exact Or.inl rfl | exact Or.inr (Or.inl rfl) | exact Or.inr (Or.inr rfl)) (hd : (x == ("__debug__" : Str)) = false := by decide)
    (hcd : (x == ("__classdict__" : Str)) = false := by decide) : PE X (.Name x pos) (tVar i) := pe_var hN hv hd hcd
end
/-- a def of the text by its body -/
theorem fd_M {CX : CXT} {P : Program} {w : World} {K : PySem.W.Frag} {mg : Str → Option Value} {base : Heap} {k : Nat} {f : Addr} {name qual : Str} {st : Stmt} {N ps : List Str} {sp : Sp} (F : FdS K name qual st f) (S : FnScope N ps (defScope st)) (bn : BindN name qual (defArgs st) (defBody st) (defScope st) ps)
    (len : ∀ vs H Q E, sp vs H Q E → vs.length = ps.length)
    (hb : ∀ (cdv : Value) (A : Around) (outer : List Env) (s : Shared) (H : Hp) (vs : List V) (Q : VK) (E : XK), Room k (A.deeper (envOfC qual (defScope st) s.heap.objs.size f cdv)) → sp vs H Q E →
      ∃ t, PSs (cxOf CX P w K mg base N qual (defScope st) f cdv A outer s H E) (defBody st) t ∧ t { nx := fun _ H' => Q .non H', rt := Q } (L2.start N vs) H) :
    ∃ fd, Binds K fd ps [] ∧ FnOk P w K mg base CX (k + 1) f fd ps sp := by
  obtain ⟨oc, od, kV, doc, pm, an, cdv, ct, osl, lk, hcd⟩ := F.ex
  exact ⟨_, .all (bn kV doc pm an cdv ct), fn_of lk hcd S len fun A outer s H vs Q E hr h => hb cdv A outer s H vs Q E hr h⟩
/-- a def of the module by its name, called where nothing is handled -/
structure DfM (CX : CXT) (P : Program) (w : World) (K : PySem.W.Frag) (mg : Str → Option Value) (base : Heap) (x : Str) (k : Nat) (sp : Sp) : Prop where
  ex : ∃ fa fd ps, mg x = some (.ref fa) ∧ PySem.W.keepIn K (.ref fa) = true ∧ Binds K fd ps [] ∧ FnOk P w K mg base CX k fa fd ps sp
theorem dfm_of {CX : CXT} {P : Program} {w : World} {K : PySem.W.Frag} {mg : Str → Option Value} {base : Heap} {x : Str} {k : Nat} {f : Addr} {ps : List Str} {sp : Sp} (hm : mg x = some (.ref f)) (hk : PySem.W.keepIn K (.ref f) = true) (h : ∃ fd, Binds K fd ps [] ∧ FnOk P w K mg base CX k f fd ps sp) : DfM CX P w K mg base x k sp :=
  let ⟨fd, b, F⟩ := h
  ⟨f, fd, ps, hm, hk, b, F⟩
theorem _root_.LNt.DfC.m {P : Program} {w : World} {K : PySem.W.Frag} {mg : Str → Option Value} {base : Heap} {C : Cs K} {x : Str} {k : Nat} {f : List Dv → Option Dv} (D : DfC P w K mg base C x k f) : DfM C8.CX0 P w K mg base x k (spD K C f) := ⟨D.ex⟩
theorem _root_.LNi.Dfn.m {P : Program} {w : World} {K : PySem.W.Frag} {mg : Str → Option Value} {base : Heap} {C : Cs K} {x : Str} {k : Nat} {f : List Dv → Option Dv} (D : Dfn P w K mg base C x k f) : DfM C8.CX0 P w K mg base x k (spD K C f) := by
  obtain ⟨fa, fd, ps, a, b, c, F⟩ := D.ex
  exact ⟨fa, fd, ps, a, b, c, F.ok⟩
section
variable {X : Cx} {CX : CXT} {x : Str} {k j : Nat} {sp : Sp} {E : XK} {t : TA} {e : Expr} {es : List Expr} {p pos : Pos}
theorem m_call (D : DfM CX X.prog X.w X.K X.mg X.base x k sp) (hr : Room j X.A) (hx : Passes CX X E) (ha : PA X (e :: es) t) (hg : Gl X x := by rfl) (hk : k ≤ j := by decide) (hdb : (x == ("__debug__" : Str)) = false := by decide)
    (he : starEach (e :: es) X.env = (false, eval e X.env) :: starEach es X.env := by rfl) (hpl : (backTo pos (starEach es X.env)).any (·.1) = false := by rfl) : PE X (.Call (.Name x p) (e :: es) [] pos) (fun σ H Q => t σ H fun vs H1 => sp vs H1 Q E) := by
  obtain ⟨fa, fd, ps, h1, h2, h3, F⟩ := D.ex
  exact PE.imp (pe_call F (hr.mono hk) hg h1 h2 h3 .nil hx ha hdb he hpl) fun σ H Q h => by
    have e : (fun vs H1 => sp (vs ++ []) H1 Q E) = fun vs H1 => sp vs H1 Q E := by funext vs H1; rw [List.append_nil]
    show t σ H fun vs H1 => sp (vs ++ []) H1 Q E
    rw [e]; exact h
theorem m_call0 (D : DfM CX X.prog X.w X.K X.mg X.base x k sp) (hr : Room j X.A) (hx : Passes CX X E) (hg : Gl X x := by rfl) (hk : k ≤ j := by decide) (hdb : (x == ("__debug__" : Str)) = false := by decide) : PE X (.Call (.Name x p) [] [] pos) (fun σ H Q => sp [] H Q E) := by
  obtain ⟨fa, fd, ps, h1, h2, h3, F⟩ := D.ex
  exact PE.imp (pe_call0 F (hr.mono hk) hg h1 h2 h3 .nil hx hdb) fun σ H Q h => h
end
/-! ### the draw -/
/-- at p: the script and a place -/
structure Drw (K : PySem.W.Frag) (F H : Hp) (p : Addr) (k : Int) : Prop where
  ex : ∃ (sv : V) (cells : List Int), F p = none ∧ H p = some (.lst [sv, .int k]) ∧ Scr K F sv cells
theorem Drw.gr {K : PySem.W.Frag} {M : Addr → Prop} {F H F' H' : Hp} {p : Addr} {k : Int} (d : Drw K F H p k) (g : Gr M F H F' H') (n : ¬ M p) : Drw K F' H' p k := by
  obtain ⟨sv, cells, a, b, c⟩ := d.ex
  obtain ⟨x, y⟩ := g.c p _ a b
  exact ⟨sv, cells, x, y n, c.mono g.a⟩
theorem Drw.fr {K : PySem.W.Frag} {F H F' H' : Hp} {p : Addr} {k : Int} (d : Drw K F H p k) (g : Fr F H F' H') : Drw K F' H' p k := d.gr (M := fun _ => False) g.gr (fun z => z)
theorem Drw.isSome {K : PySem.W.Frag} {F H : Hp} {p : Addr} {k : Int} (d : Drw K F H p k) : (H p).isSome := by
  obtain ⟨sv, cells, a, b, c⟩ := d.ex
  rw [b]; rfl
def kMax : Int := 1000000
def spTake (K : PySem.W.Frag) : Sp := fun vs H Q _ => ∃ F p k n, vs = [.ref p, .int n] ∧ Ex F H ∧ Drw K F H p k ∧ 0 ≤ k ∧ k < kMax ∧ 0 < n ∧ ∀ r F' H', 0 ≤ r → r < n → Gr (· = p) F H F' H' → Drw K F' H' p (k + 1) → Q (.int r) H'
abbrev N_take : List Str := ["_law_draw", "_law_many"]
theorem s_take : FnScope N_take ["_law_draw", "_law_many"] (defScope (top 45)) := ⟨rfl, rfl, rfl, by decide +kernel, rfl, by decide +kernel, by decide +kernel⟩
theorem t_take {P : Program} {w : World} {K : PySem.W.Frag} {mg : Str → Option Value} {base : Heap} {C : Cs K} {f : Addr} (T : Tx K mg C) (F : FdS K "_law_take" "_law_take" (top 45) f) (D : DfM C8.CX0 P w K mg base "_law_number" 1 (spNum K)) :
    ∃ fd, Binds K fd ["_law_draw", "_law_many"] [] ∧ FnOk P w K mg base C8.CX0 2 f fd ["_law_draw", "_law_many"] (spTake K) := by
  refine fd_M F s_take (fun _ _ _ _ _ _ us hl => match us, hl with | [_, _], _ => rfl) (fun vs H Q E ⟨_, _, _, _, e, _⟩ => by rw [e]; rfl) fun cdv A outer s H vs Q E hr h => ?_
  refine ⟨_, PSs.nox (pss_cons (ps_asg (pe_op op_add (pe_ix ix_list (vv 0) pe_int (fun _ _ => rfl)) pe_int) (pg_sub (vv 0) pe_int set_list)) (pss_one (ps_ret (pe_op op_mod (pe_callTy call_int1 (by rfl) T.f_int b_int (pa_cons (m_call D hr C8.pass0 (E := fun _ _ _ => False) (pa_cons (pe_ix ix_list (vv 0) pe_int (fun _ _ => rfl)) (pa_cons (pe_callTy call_int1 (by rfl) T.f_int b_int (pa_cons (pe_ix ix_list (vv 0) pe_int (fun _ _ => rfl)) pa_nil)) pa_nil))) pa_nil)) (vv 1))))), ?_⟩
  obtain ⟨F, p, k, n, rfl, e, d, k0, k1, n0, q⟩ := h
  obtain ⟨sv, cells, a, b, c⟩ := d.ex
  refine ⟨_, rfl, _, _, _, _, rfl, rfl, SqL.of b, rfl, _, _, rfl, rfl, ?_⟩
  refine ⟨_, rfl, p, _, 1, 1, rfl, rfl, b, rfl, ?_⟩
  have e2 : Ex F (upd H p (.lst [sv, .int (k + 1)])) := ex_out e a
  have hp : upd H p (.lst [sv, .int (k + 1)]) p = some (.lst [sv, .int (k + 1)]) := upd_same
  refine ⟨_, rfl, _, _, _, _, rfl, rfl, SqL.of hp, rfl, ?_⟩
  refine ⟨_, rfl, _, _, _, _, rfl, rfl, SqL.of hp, rfl, ?_⟩
  refine .inl ⟨k + 1, rfl, ?_⟩
  refine ⟨F, sv, cells, k + 1, rfl, e2, c, by omega, by unfold kMax at k1; omega, fun m F1 H1 f1 => ?_⟩
  refine .inl ⟨m, rfl, _, rfl, m, n, rfl, rfl, n0, ?_⟩
  refine q _ F1 H1 (Int.emod_nonneg _ (by omega)) (Int.emod_lt_of_pos _ n0) (Gr.step a b rfl f1.gr) ⟨sv, cells, ?_⟩
  obtain ⟨x, y⟩ := f1.c p _ a hp
  exact ⟨x, y, c.mono f1.a⟩
/-- a thing out of a list of data -/
def spPick (K : PySem.W.Frag) : Sp := fun vs H Q _ => ∃ F p k v ds, vs = [.ref p, v] ∧ Ex F H ∧ Drw K F H p k ∧ 0 ≤ k ∧ k < kMax ∧ Dr K F v (.list ds) ∧ ds ≠ [] ∧ ∀ d u F' H', d ∈ ds → Dr K F' u d → Gr (· = p) F H F' H' → Drw K F' H' p (k + 1) → Q u H'
abbrev N_pick : List Str := ["_law_draw", "_law_things"]
theorem s_pick : FnScope N_pick ["_law_draw", "_law_things"] (defScope (top 46)) := ⟨rfl, rfl, rfl, by decide +kernel, rfl, by decide +kernel, by decide +kernel⟩
theorem t_pick {P : Program} {w : World} {K : PySem.W.Frag} {mg : Str → Option Value} {base : Heap} {C : Cs K} {f : Addr} (T : Tx K mg C) (F : FdS K "_law_pick" "_law_pick" (top 46) f) (D : DfM C8.CX0 P w K mg base "_law_take" 2 (spTake K)) :
    ∃ fd, Binds K fd ["_law_draw", "_law_things"] [] ∧ FnOk P w K mg base C8.CX0 3 f fd ["_law_draw", "_law_things"] (spPick K) := by
  refine fd_M F s_pick (fun _ _ _ _ _ _ us hl => match us, hl with | [_, _], _ => rfl) (fun vs H Q E ⟨_, _, _, _, _, e, _⟩ => by rw [e]; rfl) fun cdv A outer s H vs Q E hr h => ?_
  refine ⟨_, PSs.nox (pss_one (ps_ret (pe_ix ix_list (vv 1) (m_call D hr C8.pass0 (E := fun _ _ _ => False) (pa_cons (vv 0) (pa_cons (pe_callB call_len_seq (by rfl) T.f_len b_len (pa_cons (vv 1) pa_nil)) pa_nil))) (fun _ _ => rfl)))), ?_⟩
  obtain ⟨F, p, k, v, ds, rfl, e, d, k0, k1, rv, hne, q⟩ := h
  cases rv with
  | lst h1 t1 =>
    rename_i l xs
    have lx := t1.length
    have hpos : 0 < ds.length := List.length_pos_iff.mpr hne
    refine ⟨_, rfl, _, rfl, _, rfl, _, _, rfl, .inl (SqL.of (e _ _ h1)), ?_⟩
    refine ⟨F, p, k, _, rfl, e, d, k0, k1, by rw [lx]; omega, fun r F1 H1 r0 r1 g1 d1 => ?_⟩
    obtain ⟨j, rfl⟩ := Int.eq_ofNat_of_zero_le r0
    have hj : j < ds.length := by rw [lx] at r1; omega
    obtain ⟨u, hu, ru⟩ := t1.get (List.getElem?_eq_getElem hj)
    exact ⟨_, _, _, u, rfl, rfl, SqL.of (g1.b _ _ (g1.a _ _ h1)), atI_nat hu, q _ u F1 H1 (List.getElem_mem hj) (ru.mono g1.a) g1 d1⟩
end LNn
set_option maxHeartbeats 4000000
/-! The law's drawn parts. -/
namespace LNn
open PySem PySem.Spec PyProof.Rows L2 HotX L2H LNa LNb LNi LNt LNp
open LNm (Pt PtOk PtD Sx eO eRow eRdr eS eH eP eW eK Dd eD Al)
open Evl (Ex Ex.refl Ex.trans Ex.new ex_t ex_l ex_rd fresh_back)
/-- slots that hold data, wheels or tables; none: nothing is said -/
inductive Rs (K : PySem.W.Frag) (C : Cs K) (F : Hp) : En → L2.St → Prop
  | nil : Rs K C F [] []
  | skip {ρ : En} {σ : L2.St} {x : Option V} : Rs K C F ρ σ → Rs K C F (none :: ρ) (x :: σ)
  | has {ρ : En} {σ : L2.St} {v : V} {dv : Dv} : Rd1 K C F v dv → Rs K C F ρ σ → Rs K C F (some dv :: ρ) (some v :: σ)
theorem Rs.rp {K : PySem.W.Frag} {C : Cs K} {F H : Hp} {ρ : En} {σ : L2.St} (h : Rs K C F ρ σ) : Rp K C F H ρ σ := by
  induction h with
  | nil => exact ⟨rfl, fun i dv z => by simp at z⟩
  | skip _ ih =>
    refine ⟨by rw [List.length_cons, List.length_cons, ih.len], fun i dv z => ?_⟩
    cases i with
    | zero => simp at z
    | succ i => exact ih.at_ i dv (by simpa using z)
  | has r _ ih =>
    refine ⟨by rw [List.length_cons, List.length_cons, ih.len], fun i dv z => ?_⟩
    cases i with
    | zero => simp at z; subst z; exact ⟨_, rfl, r.rv⟩
    | succ i => exact ih.at_ i dv (by simpa using z)
theorem Rs.mono {K : PySem.W.Frag} {C : Cs K} {F F' : Hp} {ρ : En} {σ : L2.St} (e : Ex F F') (h : Rs K C F ρ σ) : Rs K C F' ρ σ := by
  induction h with
  | nil => exact .nil
  | skip _ ih => exact .skip ih
  | has r _ ih => exact .has (r.mono e) ih
/-- an expression's reading, answered -/
theorem tI_of {K : PySem.W.Frag} {C : Cs K} {c : Sm} {F H : Hp} {ρ : En} {σ : L2.St} {Q : VK} {dv : Dv} (e : Ex F H) (r : Rs K C F ρ σ) (hc : c ρ = some dv) (q : ∀ v H' F', Fr F H F' H' → Rd1 K C F' v dv → Q v H') : tI K C c σ H Q := ⟨F, ρ, dv, e, r.rp, hc, q⟩
theorem tT_of {K : PySem.W.Frag} {C : Cs K} {c : SmB} {F H : Hp} {ρ : En} {σ : L2.St} {Q : Bool → Hp → Prop} {k : Bool} (e : Ex F H) (r : Rs K C F ρ σ) (hc : c ρ = some k) (q : ∀ H' F', Fr F H F' H' → Q k H') : tT K C c σ H Q := ⟨F, ρ, k, e, r.rp, hc, q⟩
theorem tA_of {K : PySem.W.Frag} {C : Cs K} {c : SmA} {F H : Hp} {ρ : En} {σ : L2.St} {Q : List V → Hp → Prop} {ds : List Dv} (e : Ex F H) (r : Rs K C F ρ σ) (hc : c ρ = some ds) (q : ∀ vs H' F', Fr F H F' H' → RdA K C F' vs ds → Q vs H') : tA K C c σ H Q := ⟨F, ρ, ds, e, r.rp, hc, q⟩
/-- the draw at p, since F0 H0 -/
structure DS (K : PySem.W.Frag) (F0 H0 F H : Hp) (p : Addr) (k : Int) : Prop where
  gr : Gr (· = p) F0 H0 F H
  dr : Drw K F H p k
theorem DS.next {K : PySem.W.Frag} {F0 H0 F H F' H' : Hp} {p : Addr} {k k' : Int} (s : DS K F0 H0 F H p k) (g : Gr (· = p) F H F' H') (d : Drw K F' H' p k') : DS K F0 H0 F' H' p k' :=
  ⟨s.gr.tr g fun q hq _ _ => by subst hq; exact s.dr.isSome, d⟩
theorem DS.fr {K : PySem.W.Frag} {F0 H0 F H F' H' : Hp} {p : Addr} {k : Int} (s : DS K F0 H0 F H p k) (g : Fr F H F' H') : DS K F0 H0 F' H' p k := s.next g.gr (s.dr.fr g)
theorem pick_go {K : PySem.W.Frag} {C : Cs K} {c : Sm} {F0 H0 F H : Hp} {ρ : En} {σ : L2.St} {Q : VK} {E : XK} {p : Addr} {k : Int} {ds : List PyData} (r : Rs K C F ρ σ) (hp : σ[0]? = some (some (.ref p))) (s : DS K F0 H0 F H p k) (k0 : 0 ≤ k) (k1 : k < kMax) (hc : c ρ = some (.d (.list ds))) (hne : ds ≠ [])
    (q : ∀ d u F' H', d ∈ ds → Dr K F' u d → Ex F F' → DS K F0 H0 F' H' p (k + 1) → Q u H') : tCons (tVar 0) (tCons (tI K C c) tNil) σ H fun vs H1 => spPick K vs H1 Q E := by
  refine ⟨_, hp, tI_of s.gr.b r hc fun v H1 F1 f1 r1 => ?_⟩
  have s1 := s.fr f1
  exact ⟨F1, p, k, v, ds, rfl, f1.b, s1.dr, k0, k1, r1, hne, fun d u F2 H2 hd ru g d2 => q d u F2 H2 hd ru (f1.a.trans g.a) (s1.next g d2)⟩
def spParts (K : PySem.W.Frag) : Sp := fun vs H Q _ => ∃ F p k v, vs = [.ref p, v] ∧ Ex F H ∧ Drw K F H p k ∧ 0 ≤ k ∧ k + 5 ≤ kMax ∧ Dr K F v (.list [.int 4, .int 6]) ∧ ∀ P u F' H', PtD P → Dr K F' u (eP P) → DS K F H F' H' p (k + 5) → Q u H'
abbrev N_parts : List Str := ["_law_draw", "_law_sizes", "_law_size", "_law_halt", "_law_snip"]
theorem s_parts : FnScope N_parts ["_law_draw", "_law_sizes"] (defScope (top 47)) := ⟨rfl, rfl, rfl, by decide +kernel, rfl, by decide +kernel, by decide +kernel⟩
section
variable {X : Cx} {C : Cs X.K} {i j k : Nat} {c : Sm} {e : Expr} {n x p pos : Pos} {y z : Str}
/-- _law_pick(_law_draw, e) -/
theorem m_pick (D : DfM C8.CX0 X.prog X.w X.K X.mg X.base "_law_pick" 3 (spPick X.K)) (hr : Room j X.A) (he : PE X e (tI X.K C c)) (h0 : PE X (.Name "_law_draw" x) (tVar 0)) (hg : Gl X "_law_pick" := by rfl) (hk : 3 ≤ j := by decide)
    (hs : starEach [.Name "_law_draw" x, e] X.env = (false, eval (.Name "_law_draw" x) X.env) :: starEach [e] X.env := by rfl) (hs2 : starEach [e] X.env = (false, eval e X.env) :: starEach [] X.env := by rfl) (hpl : (backTo pos (starEach [e] X.env)).any (·.1) = false := by rfl) :
    PE X (.Call (.Name "_law_pick" p) [.Name "_law_draw" x, e] [] pos) (fun σ H Q => tCons (tVar 0) (tCons (tI X.K C c) tNil) σ H fun vs H1 => spPick X.K vs H1 Q (fun _ _ _ => False)) :=
  m_call D hr C8.pass0 (pa_cons h0 (pa_cons he pa_nil hs2)) hg hk (by decide) hs hpl
end
theorem t_parts {P : Program} {w : World} {K : PySem.W.Frag} {mg : Str → Option Value} {base : Heap} {C : Cs K} {f : Addr} (T : Tx K mg C) (F : FdS K "_law_parts" "_law_parts" (top 47) f) (D : DfM C8.CX0 P w K mg base "_law_pick" 3 (spPick K)) :
    ∃ fd, Binds K fd ["_law_draw", "_law_sizes"] [] ∧ FnOk P w K mg base C8.CX0 4 f fd ["_law_draw", "_law_sizes"] (spParts K) := by
  refine fd_M F s_parts (fun _ _ _ _ _ _ us hl => match us, hl with | [_, _], _ => rfl) (fun vs H Q E ⟨_, _, _, _, e, _⟩ => by rw [e]; rfl) fun cdv A outer s H vs Q E hr h => ?_
  refine ⟨_, PSs.nox (pss_cons (ps_asg (m_pick (C := C) D hr (iv 1) (vv 0)) (pg_name (i := 2) s_parts.nd rfl (by first | exact .inl rfl | exact .inr rfl)))
    (pss_cons (ps_asg (m_pick (C := C) D hr (i_lst (ia_cons i_non (ia_cons i_int (ia_cons i_int (ia_cons i_int (ia_cons i_int (ia_cons (iv 2) ia_nil))))))) (vv 0)) (pg_name (i := 3) s_parts.nd rfl (by first | exact .inl rfl | exact .inr rfl)))
    (pss_cons (ps_asg (m_pick (C := C) D hr (i_lst (ia_cons i_non (ia_cons i_non (ia_cons i_int (ia_cons i_int (ia_cons (i_op op_sub go_sub (iv 2) i_int) ia_nil)))))) (vv 0)) (pg_name (i := 4) s_parts.nd rfl (by first | exact .inl rfl | exact .inr rfl)))
    (pss_one (ps_ret (pe_tup (pa_cons (vv 2) (pa_cons (m_pick (C := C) D hr (i_lst (ia_cons i_int (ia_cons i_int (ia_cons i_int (ia_cons (i_op op_fdiv go_div (iv 2) i_int) ia_nil))))) (vv 0)) (pa_cons (vv 3) (pa_cons (m_pick (C := C) D hr (i_lst (ia_cons i_str (ia_cons i_str ia_nil))) (vv 0)) (pa_cons (vv 4) pa_nil)))))))))))
, ?_⟩
  obtain ⟨F, p, k, v, rfl, e, d, k0, k1, rv, q⟩ := h
  have s0 : DS K F H F H p k := ⟨Gr.refl e, d⟩
  refine pick_go (ρ := [none, some (.d (.list [.int 4, .int 6])), none, none, none]) (.skip (.has rv (.skip (.skip (.skip .nil))))) rfl s0 k0 (by unfold kMax at *; omega) rfl (by simp) fun d1 u1 F1 H1 m1 r1 e1 s1 => ?_
  show tSeq _ _ _ [some (.ref p), some v, some u1, none, none] H1
  obtain ⟨z, rfl, hz⟩ : ∃ z, d1 = .int z ∧ (z = 4 ∨ z = 6) := by
    rcases List.mem_cons.mp m1 with rfl | m1
    · exact ⟨4, rfl, .inl rfl⟩
    · rw [List.mem_singleton.mp m1]; exact ⟨6, rfl, .inr rfl⟩
  cases r1
  refine pick_go (ρ := [none, none, some (.d (.int z)), none, none]) (.skip (.skip (.has (dv := .d (.int z)) (Dr.int z) (.skip (.skip .nil))))) rfl s1 (by omega) (by unfold kMax at *; omega) (ds := [.none, .int 1, .int 2, .int 2, .int 3, .int z]) rfl (by simp) fun d2 u2 F2 H2 m2 r2 e2 s2 => ?_
  show tSeq _ _ _ [some (.ref p), some v, some (.int z), some u2, none] H2
  obtain ⟨st, rfl, hst⟩ : ∃ st : Option Int, d2 = eO st ∧ ∀ k, st = some k → 1 ≤ k ∧ k ≤ z := by
    simp only [List.mem_cons, List.not_mem_nil, or_false] at m2
    rcases m2 with rfl | rfl | rfl | rfl | rfl | rfl
    · exact ⟨none, rfl, fun k h => by cases h⟩
    · exact ⟨some 1, rfl, fun k h => by cases h; omega⟩
    · exact ⟨some 2, rfl, fun k h => by cases h; omega⟩
    · exact ⟨some 2, rfl, fun k h => by cases h; omega⟩
    · exact ⟨some 3, rfl, fun k h => by cases h; omega⟩
    · exact ⟨some z, rfl, fun k h => by cases h; omega⟩
  refine pick_go (ρ := [none, none, some (.d (.int z)), none, none]) (.skip (.skip (.has (dv := .d (.int z)) (Dr.int z) (.skip (.skip .nil))))) rfl s2 (by omega) (by unfold kMax at *; omega) (ds := [.none, .none, .int 1, .int 2, .int (z - 1)]) rfl (by simp) fun d3 u3 F3 H3 m3 r3 e3 s3 => ?_
  dsimp only [gName, tRet, List.set_cons_succ, List.set_cons_zero]
  obtain ⟨cu, rfl, hcu⟩ : ∃ st : Option Int, d3 = eO st ∧ ∀ k, st = some k → 1 ≤ k ∧ k ≤ z := by
    simp only [List.mem_cons, List.not_mem_nil, or_false] at m3
    rcases m3 with rfl | rfl | rfl | rfl | rfl
    · exact ⟨none, rfl, fun k h => by cases h⟩
    · exact ⟨none, rfl, fun k h => by cases h⟩
    · exact ⟨some 1, rfl, fun k h => by cases h; omega⟩
    · exact ⟨some 2, rfl, fun k h => by cases h; omega⟩
    · exact ⟨some (z - 1), rfl, fun k h => by cases h; omega⟩
  refine ⟨_, rfl, ?_⟩
  have zd : gDiv (.d (.int z)) (.d (.int 2)) = some (.d (.int (z / 2))) := LNm.n_div _ _ (by omega) (by omega)
  refine pick_go (ρ := [none, none, some (.d (.int z)), none, none]) (.skip (.skip (.has (dv := .d (.int z)) (Dr.int z) (.skip (.skip .nil))))) rfl s3 (by omega) (by unfold kMax at *; omega) (ds := [.int 1, .int 1, .int 0, .int (z / 2)]) (by simp [LNi.gLst, allD, zd]) (by simp) fun d4 u4 F4 H4 m4 r4 e4 s4 => ?_
  obtain ⟨fz, rfl, hfz⟩ : ∃ fz : Int, d4 = .int fz ∧ 0 ≤ fz ∧ fz ≤ z / 2 := by
    simp only [List.mem_cons, List.not_mem_nil, or_false] at m4
    rcases m4 with rfl | rfl | rfl | rfl
    · exact ⟨1, rfl, by omega⟩
    · exact ⟨1, rfl, by omega⟩
    · exact ⟨0, rfl, by omega⟩
    · exact ⟨z / 2, rfl, by omega⟩
  refine ⟨_, rfl, ?_⟩
  refine pick_go (ρ := [none, none, none, none, none]) (.skip (.skip (.skip (.skip (.skip .nil))))) rfl s4 (by omega) (by unfold kMax at *; omega) (ds := [.str "yes", .str "no"]) rfl (by simp) fun d5 u5 F5 H5 m5 r5 e5 s5 => ?_
  obtain ⟨ho, rfl⟩ : ∃ b, d5 = eH b := by
    simp only [List.mem_cons, List.not_mem_nil, or_false] at m5
    rcases m5 with rfl | rfl
    · exact ⟨true, rfl⟩
    · exact ⟨false, rfl⟩
  refine ⟨_, rfl, by simp [sizeLine_eq], fun g hg => ?_⟩
  have f6 := Fr.new (.tup [.int z, u4, u2, u5, u3]) s5.gr.b hg
  have s6 := s5.fr f6
  have kk : k + 1 + 1 + 1 + 1 + 1 = k + 5 := by omega
  rw [kk] at s6
  refine q ⟨z, fz, st, ho, cu⟩ _ _ _ { size := hz, freeze := hfz, stop := hst, cut := hcu } ?_ s6
  exact .tup (SqT.of upd_same) (.cons (.int z) (.cons (r4.mono (e5.trans f6.a)) (.cons (r2.mono (e3.trans (e4.trans (e5.trans f6.a)))) (.cons (r5.mono f6.a) (.cons (r3.mono (e4.trans (e5.trans f6.a))) .nil)))))
end LNn
set_option maxHeartbeats 4000000
/-! A wheel is made. -/
namespace LNn
open PySem PySem.Spec PyProof.Rows L2 HotX L2H LNa LNb LNi LNt LNp
open LNm (Pt PtOk PtD Sx eO eRow eRdr eS eH eP eW eK Dd eD Al)
open Evl (Ex Ex.refl Ex.trans Ex.new ex_t ex_l ex_rd fresh_back)
def vO : Option Int → V
  | none => .non
  | some i => .int i
theorem vO_dr {K : PySem.W.Frag} {F : Hp} (a : Option Int) : Dr K F (vO a) (eO a) := by cases a; exact .non; exact .int _
theorem vO_eq {K : PySem.W.Frag} {F : Hp} {a : Option Int} {v : V} (h : Dr K F v (eO a)) : v = vO a := by
  cases a with
  | none => cases h; rfl
  | some i => cases h; rfl
def vH (b : Bool) : V := .str (if b then "yes" else "no")
theorem vH_dr {K : PySem.W.Frag} {F : Hp} (b : Bool) : Dr K F (vH b) (eH b) := .str _
theorem vH_eq {K : PySem.W.Frag} {F : Hp} {b : Bool} {v : V} (h : Dr K F v (eH b)) : v = vH b := by
  unfold eH at h; cases h; rfl
def whlF (P : Pt) : List (Str × V) := [("size", .int P.size), ("freeze", .int P.freeze), ("stop", vO P.stop), ("hold", vH P.hold), ("cut", vO P.cut)]
/-- an instance with these fields is the wheel -/
theorem rw_of {K : PySem.W.Frag} {C : Cs K} {F : Hp} {P : Pt} {x dx : Addr} (h : F x = some (.ins C.cw dx (whlF P))) : Rw K C F (.ref x) (eW P) := by
  refine ⟨x, dx, whlF P, rfl, h, fun f d z => ?_⟩
  unfold Whl.at at z
  unfold whlF
  simp only [List.lookup_cons] at z ⊢
  split at z
  · exact ⟨_, rfl, by cases z; exact .int _⟩
  · split at z
    · exact ⟨_, rfl, by cases z; exact .int _⟩
    · split at z
      · exact ⟨_, rfl, by cases z; exact vO_dr _⟩
      · split at z
        · exact ⟨_, rfl, by cases z; exact vH_dr _⟩
        · split at z
          · exact ⟨_, rfl, by cases z; exact vO_dr _⟩
          · cases z
def spWheel (K : PySem.W.Frag) (C : Cs K) : Sp := fun vs H Q _ => ∃ F x dx P, vs = [.ref x, .int P.size, .int P.freeze, vO P.stop, vH P.hold, vO P.cut] ∧ Ex F H ∧ F x = none ∧ H x = some (.ins C.cw dx []) ∧ PtD P ∧
  ∀ F' H', Gr (· = x) F H F' H' → H' x = some (.ins C.cw dx (whlF P)) → Q .non H'
abbrev N_wheel : List Str := ["self", "size", "freeze", "stop", "hold", "cut", "name", "value"]
theorem s_wheel : FnScope N_wheel ["self", "size", "freeze", "stop", "hold", "cut"] (defScope (met 14 0)) := ⟨rfl, rfl, rfl, by decide +kernel, rfl, by decide +kernel, by decide +kernel⟩
/-- how C(size, freeze = .., stop = .., hold = .., cut = ..) binds -/
abbrev KwN (st : Stmt) (name qual : Str) (ps : List Str) : Prop := ∀ (kV doc pm : Value) (an : Option Addr) (cdv ct : Value) (us ws : List Value), us.length = 2 → ws.length = 4 →
  bindArgs (PySem.W.fnOf name qual (defArgs st) (defBody st) (defScope st) .none kV doc pm an cdv ct) ⟨us, (["freeze", "stop", "hold", "cut"] : List Str).zip ws⟩ = pure (ps.zip (us ++ ws))
theorem kw_wheel : KwN (met 14 0) "__init__" "Wheel.__init__" ["self", "size", "freeze", "stop", "hold", "cut"] := fun _ _ _ _ _ _ us ws h1 h2 => match us, ws, h1, h2 with
  | [_, _], [_, _, _, _], _, _ => rfl
theorem rule_at {K : PySem.W.Frag} {P : Pt} (h : PtD P) {i : Nat} (hi : i < 4) : ∃ (nm : Str) (d : PyData) (v : V), ([V.str "freeze", V.str "stop", V.str "hold", V.str "cut"] : List V)[i]? = some (V.str nm) ∧ ([V.int P.freeze, vO P.stop, vH P.hold, vO P.cut] : List V)[i]? = some v ∧ (∀ F, Dr K F v d) ∧
    f_can_be [.d (.int P.size), .d (.str nm), .d d] = some (.d (.bool true)) := by
  obtain ⟨r1, r2, r3, r4⟩ := LNm.rule_in P h
  rcases (by omega : i = 0 ∨ i = 1 ∨ i = 2 ∨ i = 3) with rfl | rfl | rfl | rfl
  · exact ⟨_, _, _, rfl, rfl, fun F => .int _, r1⟩
  · exact ⟨_, _, _, rfl, rfl, fun F => vO_dr _, r2⟩
  · exact ⟨_, _, _, rfl, rfl, fun F => vH_dr _, r3⟩
  · exact ⟨_, _, _, rfl, rfl, fun F => vO_dr _, r4⟩
/-- self.f = a slot's value -/
theorem fld_go {K : PySem.W.Frag} {C : Addr} {i : Nat} {f : Str} {D : Ends} {σ : L2.St} {H : Hp} {x dx : Addr} {fs : List (Str × V)} {v : V} (c : Cls K C) (n : NoAttr K C f) (h0 : σ[0]? = some (some (.ref x))) (hi : σ[i]? = some (some v)) (hx : H x = some (.ins C dx fs)) (hl : fs.length < 1000)
    (q : D.nx σ (upd H x (.ins C dx (putF f v fs)))) : sFld K (tVar 0) (tVar i) f D σ H := ⟨v, hi, _, h0, x, C, dx, fs, rfl, hx, c, n, hl, q⟩
theorem putF_le (f : Str) (v : V) (fs : List (Str × V)) : (putF f v fs).length ≤ fs.length + 1 := by
  induction fs with
  | nil => simp [putF]
  | cons q r ih =>
    obtain ⟨g, x⟩ := q
    unfold putF
    split
    · simp
    · simp only [List.length_cons]; omega
theorem upd_upd {H : Hp} {x : Addr} {a b : HO} : upd (upd H x a) x b = upd H x b := by
  funext q
  by_cases z : q = x
  · rw [z, upd_same, upd_same]
  · rw [upd_ne z, upd_ne z, upd_ne z]
theorem t_wheel {P : Program} {w : World} {K : PySem.W.Frag} {mg : Str → Option Value} {base : Heap} {C : Cs K} {f : Addr} (T : Tx K mg C) (mz : mg "zip" = none) (F : FdS K "__init__" "Wheel.__init__" (met 14 0) f) (D_is_whole : Dfn P w K mg base C "is_whole" 1 f_is_whole) (D_can_be : Dfn P w K mg base C "can_be" 2 f_can_be) :
    ∃ fd, KBn K fd ["self", "size", "freeze", "stop", "hold", "cut"] 2 ["freeze", "stop", "hold", "cut"] (fun us ws => us ++ ws) (fun vs zs => vs ++ zs) ∧ FnOk P w K mg base C8.CX0 3 f fd ["self", "size", "freeze", "stop", "hold", "cut"] (spWheel K C) := by
  obtain ⟨oc, od, kV, doc, pm, an, cdv, ct, osl, lk, hcd⟩ := F.ex
  refine ⟨_, ⟨fun s us ws _ h1 h2 => .of_eq (kw_wheel kV doc pm an cdv ct us ws h1 h2), fun r1 r2 => r1.append r2⟩, fn_of lk hcd s_wheel (fun vs H Q E ⟨_, _, _, _, e, _⟩ => by rw [e]; rfl) fun A outer s H vs Q E hr h => ?_⟩
  have hh : RoomH 2 (A.deeper (envOfC "Wheel.__init__" (defScope (met 14 0)) s.heap.objs.size f cdv)) := ⟨hr.dp, hr.un⟩
  refine ⟨_, PSs.nox (pss_cons (ps_if (iw_or (it_not (it_val (i_call D_is_whole hh (.inl rfl) (by rfl) (ia_cons (iv 1) (ia_cons i_int (ia_cons i_int ia_nil)))))) (iw_or1 (it_cmp op_notIn_seq go_notIn (iv 1) (i_con T.k_SIZES) (by with_unfolding_all rfl)))).pt pss_never pss_nil)
    (pss_cons (ps_for PassesOwn.never rfl (RZ.pi_zipA (by rfl) mz (pa_cons (i_con (C := C) T.k_RULES) (pa_cons (pe_tup (pa_cons (vv 2) (pa_cons (vv 3) (pa_cons (vv 4) (pa_cons (vv 5) pa_nil))))) pa_nil))) (pg_tup rfl (pgs_cons (pg_name (i := 6) s_wheel.nd rfl (by first | exact .inl rfl | exact .inr rfl)) (pgs_cons (pg_name (i := 7) s_wheel.nd rfl (by first | exact .inl rfl | exact .inr rfl)) pgs_nil)))
      (pss_one (ps_if (it_not (it_val (i_call D_can_be hh (.inl rfl) (by rfl) (ia_cons (iv 1) (ia_cons (iv 6) (ia_cons (iv 7) ia_nil)))))) pss_never pss_nil)))
    (pss_cons (ps_fld (vv 0) (vv 1) rfl) (pss_cons (ps_fld (vv 0) (vv 2) rfl) (pss_cons (ps_fld (vv 0) (vv 3) rfl) (pss_cons (ps_fld (vv 0) (vv 4) rfl) (pss_one (ps_fld (vv 0) (vv 5) rfl)))))))), ?_⟩
  obtain ⟨F, x, dx, P, rfl, e, fx, hx, hp, q⟩ := h
  have hsz := hp.size
  have r0 : Rs K C F [none, some (.d (.int P.size)), none, none, none, none, none, none] (L2.start N_wheel [.ref x, .int P.size, .int P.freeze, vO P.stop, vH P.hold, vO P.cut]) := .skip (.has (dv := .d (.int P.size)) (Dr.int _) (.skip (.skip (.skip (.skip (.skip (.skip .nil)))))))
  have w1 : cOr (cNot (cT (cApp f_is_whole (cCons (cVar 1) (cCons (cK (.int 1)) (cCons (cK (.int 9)) cNil)))))) (cT (cBin gNotIn (cVar 1) (cK d_SIZES))) [none, some (.d (.int P.size)), none, none, none, none, none, none] = some false := by
    have w := LNm.f_is_whole_int P.size 1 9
    rw [decide_eq_true (show 1 ≤ P.size by omega), decide_eq_true (show P.size ≤ 9 by omega)] at w
    have g : gNotIn (.d (.int P.size)) (.d d_SIZES) = some (.d (.bool false)) := by
      show (if flatD (.int P.size) = true ∧ [PyData.int 4, .int 6, .int 8].all flatD = true then some (Dv.d (.bool (!([PyData.int 4, .int 6, .int 8].any fun z => PyData.eqv z (.int P.size))))) else none) = _
      rw [if_pos ⟨rfl, rfl⟩]
      rcases hsz with z | z <;> rw [z] <;> rfl
    simp [w, g]
  refine tT_of e r0 w1 fun H1 F1 f1 => ?_
  show tNext _ _ _
  dsimp only [tNext]
  -- the loop
  refine tI_of (ρ := [none, none, none, none, none, none, none, none]) f1.b (.skip (.skip (.skip (.skip (.skip (.skip (.skip (.skip .nil)))))))) (dv := .d d_RULES) rfl fun a H2 F2 f2 ra => ?_
  refine ⟨_, rfl, _, rfl, _, rfl, _, rfl, by simp [sizeLine_eq], fun b hb => ?_⟩
  have f3 := Fr.new (.tup [V.int P.freeze, vO P.stop, vH P.hold, vO P.cut]) f2.b hb
  have fr3 := (f1.tr f2).tr f3
  cases (show Dr K F2 a (.tuple [.str "freeze", .str "stop", .str "hold", .str "cut"]) from ra) with
  | tup h1 t1 =>
    rename_i a xs
    have ex : xs = [.str "freeze", .str "stop", .str "hold", .str "cut"] := by
      cases t1 with | cons k1 t1 => cases t1 with | cons k2 t1 => cases t1 with | cons k3 t1 => cases t1 with | cons k4 t1 => cases t1; cases k1; cases k2; cases k3; cases k4; rfl
    subst ex
    have sa : SqT K (upd F2 b (.tup [V.int P.freeze, vO P.stop, vH P.hold, vO P.cut])) a [.str "freeze", .str "stop", .str "hold", .str "cut"] := ex_t f3.a h1
    have sb : SqT K (upd F2 b (.tup [V.int P.freeze, vO P.stop, vH P.hold, vO P.cut])) b [V.int P.freeze, vO P.stop, vH P.hold, vO P.cut] := SqT.of upd_same
    refine ⟨a, b, _, _, rfl, .inr ⟨ex_t f3.b sa, ex_t f3.b sb, ?_⟩⟩
    refine ⟨fun i m σ H' => i + m = 4 ∧ ∃ F' n1 n2, Fr F H F' H' ∧ Ex (upd F2 b (.tup [V.int P.freeze, vO P.stop, vH P.hold, vO P.cut])) F' ∧ σ = [some (.ref x), some (.int P.size), some (.int P.freeze), some (vO P.stop), some (vH P.hold), some (vO P.cut), n1, n2], ⟨4, rfl, _, none, none, fr3, Ex.refl _, rfl⟩, ?_⟩
    rintro i m σ H' ⟨him, F', n1, n2, fr, e3, rfl⟩
    by_cases hi : i < 4
    · refine .inr ⟨?_, ?_⟩
      · obtain ⟨nm, d, v, g1, g2, _, _⟩ := rule_at (K := K) hp hi
        exact ⟨_, _, _, _, ex_t fr.b (ex_t e3 sa), ex_t fr.b (ex_t e3 sb), g1, g2⟩
      · refine ⟨fun σ' H'' => (i + 1) + (m - 1) = 4 ∧ ∃ F' n1 n2, Fr F H F' H'' ∧ Ex (upd F2 b (.tup [V.int P.freeze, vO P.stop, vH P.hold, vO P.cut])) F' ∧ σ' = [some (.ref x), some (.int P.size), some (.int P.freeze), some (vO P.stop), some (vH P.hold), some (vO P.cut), n1, n2], fun σ' H'' w => ⟨m - 1, by omega, w⟩, ?_⟩
        rintro _ H'' ⟨t, x1, y1, rfl, ht, rfl, y2, y3⟩
        obtain ⟨nm, d, v, g1, g2, rv, cb⟩ := rule_at (K := K) hp hi
        have e1 := (y2 _ (ex_t fr.b (ex_t e3 sa))).symm.trans g1
        have e2 := (y3 _ (ex_t fr.b (ex_t e3 sb))).symm.trans g2
        obtain rfl : V.str nm = x1 := (Option.some.inj e1).symm
        obtain rfl : v = y1 := (Option.some.inj e2).symm
        have f4 := Fr.new (.tup [V.str nm, v]) fr.b ht
        refine ⟨t, _, rfl, SqT.of upd_same, rfl, _, _, rfl, _, _, rfl, rfl, ?_⟩
        have r1 : Rs K C (upd F' t (.tup [V.str nm, v])) [none, some (.d (.int P.size)), none, none, none, none, some (.d (.str nm)), some (.d d)] [some (.ref x), some (.int P.size), some (.int P.freeze), some (vO P.stop), some (vH P.hold), some (vO P.cut), some (V.str nm), some v] :=
          .skip (.has (dv := .d (.int P.size)) (Dr.int _) (.skip (.skip (.skip (.skip (.has (dv := .d (.str nm)) (Dr.str _) (.has (dv := .d d) (rv _) .nil)))))))
        have w2 : cNot (cT (cApp f_can_be (cCons (cVar 1) (cCons (cVar 6) (cCons (cVar 7) cNil))))) [none, some (.d (.int P.size)), none, none, none, none, some (.d (.str nm)), some (.d d)] = some false := by simp [cb]
        refine tT_of f4.b r1 w2 fun H3 F3 f5 => ?_
        exact ⟨by omega, F3, some (V.str nm), some v, (fr.tr f4).tr f5, e3.trans (f4.a.trans f5.a), rfl⟩
    · refine .inl ⟨⟨_, _, ex_t fr.b (ex_t e3 sa), ex_t fr.b (ex_t e3 sb), .inl (by simp; omega)⟩, ?_⟩
      obtain ⟨fx', hx'⟩ := fr.c x _ fx hx
      refine fld_go T.clsW T.n_size rfl rfl hx' (by simp) ?_
      have l1 := putF_le "size" (.int P.size) []
      have l2 := putF_le "freeze" (.int P.freeze) (putF "size" (.int P.size) [])
      have l3 := putF_le "stop" (vO P.stop) (putF "freeze" (.int P.freeze) (putF "size" (.int P.size) []))
      have l4 := putF_le "hold" (vH P.hold) (putF "stop" (vO P.stop) (putF "freeze" (.int P.freeze) (putF "size" (.int P.size) [])))
      rw [List.length_nil] at l1
      refine fld_go T.clsW T.n_freeze rfl rfl upd_same (by omega) ?_
      refine fld_go T.clsW T.n_stop rfl rfl upd_same (by omega) ?_
      refine fld_go T.clsW T.n_hold rfl rfl upd_same (by omega) ?_
      refine fld_go T.clsW T.n_cut rfl rfl upd_same (by omega) ?_
      refine q F' _ ?_ upd_same
      have g0 : Gr (· = x) F H F' H' := fr.gr
      rw [upd_upd, upd_upd, upd_upd, upd_upd]
      refine ⟨g0.a, ex_out g0.b fx', fun p o z1 z2 => ⟨(g0.c p o z1 z2).1, fun z3 => ?_⟩⟩
      rw [upd_ne z3]
      exact (g0.c p o z1 z2).2 z3
end LNn
set_option maxHeartbeats 4000000
/-! t * 1 is t; a table is made. -/
namespace LNn
open PySem PySem.Spec PyProof.Rows L2
theorem tuple_one (l : Addr) (items : Array Value) (n : Nat) (dd : Option Addr) (sl : Array (Option Value)) (u : Tok) :
    Meets (Builtin.«tuple.__mul__» ⟨[.ref l, .int 1 u], []⟩) (fun _ R s => s.heap.get? l = some { cls := .type "tuple", dict := dd, data := .seq items n, slots := sl } ∧ R (.ok (.ret (Value.ref l))) s) :=
  .of_wp fun prog w A R s h => by
    obtain ⟨hp, g, d, tk, os⟩ := s
    obtain ⟨hl, h⟩ := h
    have f1 := AutoSeq1.idx_int
    have c1 : (items.isEmpty || ((1 : Int) == 1)) = true := by simp
    wp_walk using wpAny_loadPart' hl
    exact ⟨_, rfl, h⟩
/-- t * k, t not empty, k from 1 -/
def rRepA (K : PySem.W.Frag) : R2 := fun x y H Q => ∃ l k xs, x = .ref l ∧ y = .int k ∧ SqT K H l xs ∧ xs ≠ [] ∧ 1 ≤ k ∧ k ≤ 1000 ∧ xs.length ≤ 1000 ∧ (k = 1 → Q (.ref l) H) ∧ (2 ≤ k → ∀ p, H p = none → Q (.ref p) (upd H p (.tup (List.replicate k.toNat xs).flatten)))
section
variable {X : Cx}
theorem op_repA : OpR X (binaryOp .Mult) (rRepA X.K) := by
  intro pins s σ H x y v u Q I rx ry h
  obtain ⟨l, k, xs, rfl, rfl, hT, hne, h1, h2, hz, q1, q2⟩ := h
  by_cases hk : k = 1
  · subst hk
    cases rx
    obtain ⟨t, rfl⟩ := ry
    obtain ⟨its, r, ⟨⟨cls, dd, data, sl⟩, ho, hc, n, hd⟩, hs⟩ := I.tuple hT
    simp only at hc hd
    subst hc hd
    exact wpAny_binaryOp_repeat_ref (T := "tuple") (U := "int") (by decide) ⟨_, ho, rfl⟩ (fun s' => typeIs_int s' 1 t) noFill_tuple_mul F.fills_int_mul F.slot_int_rmul repeat_tuple F.slot_int_index.lookup
      (call_meets F.slot_int_rmul (typeIs_int s 1 t) F.entry_int_rmul (F.args_int_rmul_2 _ _) (int_rmul_tuple 1 t l its.toArray n dd sl)
        ⟨ho, rfl, ⟨_, ho, rfl⟩, call_meets F.slot_tuple_mul ⟨_, ho, rfl⟩ F.entry_tuple_mul (F.args_tuple_mul_2 _ _) (tuple_one l its.toArray n dd sl t) ⟨ho, ⟨.ref l, H, I, rfl, q1 rfl⟩⟩⟩)
  · exact op_repT pins s σ H _ _ v u Q I rx ry ⟨l, k, xs, rfl, rfl, hT, hne, by omega, h2, hz, q2 (by omega)⟩
end
end LNn
set_option maxHeartbeats 4000000
/-! A wheel by the law's parts; a table is made. -/
namespace LNn
open PySem PySem.Spec PyProof.Rows L2 HotX L2H LNa LNb LNi LNt LNp
open LNm (Pt PtOk PtD Sx eO eRow eRdr eS eH eP eW eK Dd eD Al)
open Evl (Ex Ex.refl Ex.trans Ex.new ex_t ex_l ex_rd fresh_back)
/-- further facts: the classes by their names -/
structure Tw (K : PySem.W.Frag) (mg : Str → Option Value) (C : Cs K) : Prop extends Tx K mg C where
  f_zip : mg "zip" = none
  g_Wheel : mg "Wheel" = some (.ref C.cw)
  i_Wheel : C8.InsC K C.cw
  g_Live : mg "LiveTable" = some (.ref C.ct)
section
variable {X : Cx} {C : Addr} {fa k n : Nat} {fd : FuncData} {ps ks : List Str} {sp : Sp} {E : XK} {x : Str} {p pos : Pos}
theorem pe_cls {v : V} {u : Value} (hm : X.mg x = some u) (r : RelV v u) (hg : Gl X x := by rfl) (hd : (x == ("__debug__" : Str)) = false := by decide) : PE X (.Name x pos) (tC v) := pe_glob hg hm r hd
end
/-- check_wheel -/
def spChk (K : PySem.W.Frag) (C : Cs K) : Sp := fun vs H Q _ => ∃ a dx fs, vs = [.ref a] ∧ H a = some (.ins C.cw dx fs) ∧ Q .non H
abbrev N_chk : List Str := ["value"]
theorem s_chk : FnScope N_chk ["value"] (defScope (top 15)) := ⟨rfl, rfl, rfl, by decide +kernel, rfl, by decide +kernel, by decide +kernel⟩
theorem t_chk {P : Program} {w : World} {K : PySem.W.Frag} {mg : Str → Option Value} {base : Heap} {C : Cs K} {f : Addr} (T : Tw K mg C) (F : FdS K "check_wheel" "check_wheel" (top 15) f) :
    ∃ fd, Binds K fd ["value"] [] ∧ FnOk P w K mg base C8.CX0 1 f fd ["value"] (spChk K C) := by
  refine fd_M F s_chk (fun _ _ _ _ _ _ us hl => match us, hl with | [_], _ => rfl) (fun vs H Q E ⟨_, _, _, e, _⟩ => by rw [e]; rfl) fun cdv A outer s H vs Q E hr h => ?_
  refine ⟨_, PSs.nox (pss_one (ps_if (pt_not (pt_val (pe_callB (C8.call_isC T.i_Wheel) (by rfl) T.f_isinstance b_isinstance (pa_cons (vv 0) (pa_cons (pe_cls (v := .ref C.cw) T.g_Wheel rfl) pa_nil))))) pss_never pss_nil)), ?_⟩
  obtain ⟨a, dx, fs, rfl, ha, q⟩ := h
  exact ⟨_, rfl, a, dx, fs, rfl, ha, true, rfl, q⟩
def s0 : Sx := ⟨none, none, 0⟩
theorem rep_one {α : Type} (n : Nat) (a : α) : (List.replicate n [a]).flatten = List.replicate n a := by
  induction n with
  | zero => rfl
  | succ n ih => rw [List.replicate_succ, List.flatten_cons, ih]; rfl
theorem rep_dr {K : PySem.W.Frag} {F : Hp} {v : V} {d : PyData} (h : Dr K F v d) : ∀ n : Nat, DrAll K F (List.replicate n v) (List.replicate n d)
  | 0 => .nil
  | n + 1 => .cons h (rep_dr h n)
/-- LiveTable's __init__ -/
def spLive (K : PySem.W.Frag) (C : Cs K) : Sp := fun vs H Q _ => ∃ F t dx wv P r, vs = [.ref t, wv, .int r] ∧ Ex F H ∧ F t = none ∧ H t = some (.ins C.ct dx []) ∧ Rw K C F wv (eW P) ∧ 1 ≤ r ∧ r ≤ 3 ∧
  ∀ kv F' H', Gr (· = t) F H F' H' → H' t = some (.ins C.ct dx [("base", wv), ("kept", kv)]) → Dr K F' kv (eK (List.replicate r.toNat s0) [] [] 0) → Q .non H'
abbrev N_live : List Str := ["self", "wheel", "rows"]
theorem s_live : FnScope N_live ["self", "wheel", "rows"] (defScope (met 38 0)) := ⟨rfl, rfl, rfl, by decide +kernel, rfl, by decide +kernel, by decide +kernel⟩
theorem t_live {P : Program} {w : World} {K : PySem.W.Frag} {mg : Str → Option Value} {base : Heap} {C : Cs K} {f : Addr} (T : Tw K mg C) (F : FdS K "__init__" "LiveTable.__init__" (met 38 0) f) (D_is_whole : Dfn P w K mg base C "is_whole" 1 f_is_whole) (D_chk : DfM C8.CX0 P w K mg base "check_wheel" 1 (spChk K C)) :
    ∃ fd, Binds K fd ["self", "wheel", "rows"] [] ∧ FnOk P w K mg base C8.CX0 2 f fd ["self", "wheel", "rows"] (spLive K C) := by
  refine fd_M F s_live (fun _ _ _ _ _ _ us hl => match us, hl with | [_, _, _], _ => rfl) (fun vs H Q E ⟨_, _, _, _, _, _, e, _⟩ => by rw [e]; rfl) fun cdv A outer s H vs Q E hr h => ?_
  have hh : RoomH 1 (A.deeper (envOfC "LiveTable.__init__" (defScope (met 38 0)) s.heap.objs.size f cdv)) := ⟨hr.dp, hr.un⟩
  refine ⟨_, PSs.nox (pss_cons (ps_expr (m_call D_chk hr C8.pass0 (E := fun _ _ _ => False) (pa_cons (vv 1) pa_nil)) rfl)
    (pss_cons (ps_if (it_not (it_val (i_call D_is_whole hh (.inl rfl) (by rfl) (ia_cons (iv 2) (ia_cons i_int (ia_cons (i_con T.k_MOST_ROWS) ia_nil)))))) pss_never pss_nil)
    (pss_cons (ps_fld (vv 0) (vv 1) rfl)
    (pss_one (ps_fld (vv 0) (pe_tup (pa_cons (pe_op op_repA (pe_tup (pa_cons (i_con (C := C) T.k_START) pa_nil)) (vv 2)) (pa_cons (i_tup (C := C) ia_nil) (pa_cons (i_tup (C := C) ia_nil) (pa_cons pe_int pa_nil))))) rfl))))), ?_⟩
  obtain ⟨F, t, dx, wv, P, r, rfl, e, ft, ht, rw_, r1, r3, q⟩ := h
  obtain ⟨wa, wdx, gs, rfl, wf, wl⟩ := id rw_
  refine ⟨_, rfl, wa, wdx, gs, rfl, e _ _ wf, ?_⟩
  have w1 : cNot (cT (cApp f_is_whole (cCons (cVar 2) (cCons (cK (.int 1)) (cCons (cK d_MOST_ROWS) cNil))))) [none, none, some (.d (.int r))] = some false := by
    have w := LNm.f_is_whole_int r 1 3
    rw [decide_eq_true r1, decide_eq_true r3] at w
    have dm : d_MOST_ROWS = .int 3 := rfl
    simp [dm, w]
  refine tT_of (ρ := [none, none, some (.d (.int r))]) e (.skip (.skip (.has (dv := .d (.int r)) (Dr.int r) .nil))) w1 fun H1 F1 f1 => ?_
  show tNext _ _ _
  dsimp only [tNext]
  obtain ⟨ft1, ht1⟩ := f1.c t _ ft ht
  refine fld_go T.clsT T.n_base rfl rfl ht1 (by simp) ?_
  -- the fields, from here on
  have e2 : Ex F1 (upd H1 t (.ins C.ct dx (putF "base" (.ref wa) []))) := ex_out f1.b ft1
  have g1 : Gr (· = t) F H F1 (upd H1 t (.ins C.ct dx (putF "base" (.ref wa) []))) := ⟨f1.a, e2, fun p o a b => ⟨(f1.c p o a b).1, fun z => by rw [upd_ne z]; exact (f1.c p o a b).2⟩⟩
  have ht2 : upd H1 t (.ins C.ct dx (putF "base" (.ref wa) [])) t = some (.ins C.ct dx [("base", .ref wa)]) := upd_same
  generalize upd H1 t (.ins C.ct dx (putF "base" (.ref wa) [])) = H2 at e2 g1 ht2
  refine tI_of (ρ := [none, none, none]) e2 (.skip (.skip (.skip .nil))) (dv := .d d_START) rfl fun sv H3 F3 f3 rs => ?_
  refine ⟨by simp [sizeLine_eq], fun p hp => ?_⟩
  have f4 := Fr.new (.tup [sv]) f3.b hp
  have fin : ∀ (u : V) F5 H5, Fr F3 H3 F5 H5 → Dr K F5 u (.tuple (List.replicate r.toNat (eS s0))) → (tCons (tI K C (cApp LNi.gTup cNil)) (tCons (tI K C (cApp LNi.gTup cNil)) (tCons (tC (.int 0)) tNil))) [some (.ref t), some (.ref wa), some (.int r)] H5 fun xs H6 => (u :: xs).length ≤ sizeLine ∧ ∀ p, H6 p = none → (fun y H7 => tVar 0 [some (.ref t), some (.ref wa), some (.int r)] H7 fun x H8 => ∃ a C_1 dx fs, x = .ref a ∧ H8 a = some (.ins C_1 dx fs) ∧ Cls K C_1 ∧ NoAttr K C_1 "kept" ∧ fs.length < 1000 ∧ Q .non (upd H8 a (.ins C_1 dx (putF "kept" y fs)))) (.ref p) (upd H6 p (.tup (u :: xs))) := by
    intro u F5 H5 f5 ru
    refine tI_of (ρ := [none, none, none]) f5.b (.skip (.skip (.skip .nil))) (dv := .d (.tuple [])) rfl fun v6 H6 F6 f6 r6 => ?_
    refine tI_of (ρ := [none, none, none]) f6.b (.skip (.skip (.skip .nil))) (dv := .d (.tuple [])) rfl fun v7 H7 F7 f7 r7 => ?_
    refine ⟨by simp [sizeLine_eq], fun kp hk => ?_⟩
    have f8 := Fr.new (.tup [u, v6, v7, .int 0]) f7.b hk
    have fall : Fr F1 H2 (upd F7 kp (.tup [u, v6, v7, .int 0])) (upd H7 kp (.tup [u, v6, v7, .int 0])) := f3.tr (f5.tr (f6.tr (f7.tr f8)))
    obtain ⟨ft8, ht8⟩ := fall.c t _ ft1 ht2
    refine ⟨_, rfl, t, C.ct, dx, _, rfl, ht8, T.clsT, T.n_kept, by simp, ?_⟩
    refine q (.ref kp) (upd F7 kp (HO.tup [u, v6, v7, V.int 0])) _ ?_ upd_same ?_
    · refine ⟨g1.a.trans fall.a, ex_out fall.b ft8, fun p o a b => ?_⟩
      by_cases z : p = t
      · subst z; exact ⟨ft8, fun z => absurd rfl z⟩
      · obtain ⟨x1, x2⟩ := g1.c p o a b
        obtain ⟨y1, y2⟩ := fall.c p o x1 (x2 z)
        exact ⟨y1, fun z => by rw [upd_ne z]; exact y2⟩
    · refine .tup (SqT.of upd_same) (.cons ?_ (.cons ?_ (.cons ?_ (.cons (.int 0) .nil))))
      · have : (List.replicate r.toNat s0).map eS = List.replicate r.toNat (eS s0) := List.map_replicate
        rw [this]
        exact ru.mono ((f6.a.trans f7.a).trans f8.a)
      · exact Dr.mono (f7.a.trans f8.a) r6
      · exact Dr.mono f8.a r7
  have es : eS s0 = d_START := rfl
  have rs4 := Dr.mono (F' := upd F3 p (.tup [sv])) f4.a rs
  refine ⟨_, rfl, p, r, [sv], rfl, rfl, SqT.of upd_same, by simp, r1, by omega, by simp, fun z => ?_, fun z p2 hp2 => ?_⟩
  · subst z
    exact fin (.ref p) _ _ f4 (.tup (SqT.of upd_same) (.cons (by rw [es]; exact rs4) .nil))
  · rw [rep_one]
    have f5 := Fr.new (.tup (List.replicate r.toNat sv)) f4.b hp2
    refine fin (.ref p2) _ _ (f4.tr f5) (.tup (SqT.of upd_same) (rep_dr ?_ _))
    rw [es]; exact Dr.mono f5.a rs4
/-! ### the law's wheel -/
def spMade (K : PySem.W.Frag) (C : Cs K) : Sp := fun vs H Q _ => ∃ F v P, vs = [v] ∧ Ex F H ∧ Dr K F v (eP P) ∧ PtD P ∧ ∀ u F' H', Fr F H F' H' → Rw K C F' u (eW P) → Q u H'
abbrev N_made : List Str := ["_law_parts_here"]
theorem s_made : FnScope N_made ["_law_parts_here"] (defScope (top 48)) := ⟨rfl, rfl, rfl, by decide +kernel, rfl, by decide +kernel, by decide +kernel⟩
theorem t_made {P : Program} {w : World} {K : PySem.W.Frag} {mg : Str → Option Value} {base : Heap} {C : Cs K} {f fw : Addr} (T : Tw K mg C) (F : FdS K "_law_made" "_law_made" (top 48) f) (M : Mk K C.cw fw)
    (W : ∃ fd, KBn K fd ["self", "size", "freeze", "stop", "hold", "cut"] 2 ["freeze", "stop", "hold", "cut"] (fun us ws => us ++ ws) (fun vs zs => vs ++ zs) ∧ FnOk P w K mg base C8.CX0 3 fw fd ["self", "size", "freeze", "stop", "hold", "cut"] (spWheel K C)) :
    ∃ fd, Binds K fd ["_law_parts_here"] [] ∧ FnOk P w K mg base C8.CX0 5 f fd ["_law_parts_here"] (spMade K C) := by
  obtain ⟨fdw, bw, FW⟩ := W
  refine fd_M F s_made (fun _ _ _ _ _ _ us hl => match us, hl with | [_], _ => rfl) (fun vs H Q E ⟨_, _, _, e, _⟩ => by rw [e]; rfl) fun cdv A outer s H vs Q E hr h => ?_
  refine ⟨_, PSs.nox (pss_one (ps_ret (pe_makeK (n := 1) M FW hr (by rfl) T.g_Wheel bw (C8.pass0 (E := fun _ _ _ => False)) (pa_cons (i_ix (C := C) (iv 0) i_int) pa_nil) (pk_cons (i_ix (C := C) (iv 0) i_int) (pk_cons (i_ix (C := C) (iv 0) i_int) (pk_cons (i_ix (C := C) (iv 0) i_int) (pk_cons (i_ix (C := C) (iv 0) i_int) pk_nil))))))), ?_⟩
  obtain ⟨F, v, P, rfl, e, rv, hp, q⟩ := h
  refine tI_of (ρ := [some (.d (eP P))]) e (.has (dv := .d (eP P)) rv .nil) (dv := .d (.int P.size)) rfl fun v1 H1 F1 f1 r1 => ?_
  refine tI_of (ρ := [some (.d (eP P))]) f1.b (.has (dv := .d (eP P)) (Dr.mono f1.a rv) .nil) (dv := .d (.int P.freeze)) rfl fun v2 H2 F2 f2 r2 => ?_
  refine tI_of (ρ := [some (.d (eP P))]) f2.b (.has (dv := .d (eP P)) (Dr.mono (f1.a.trans f2.a) rv) .nil) (dv := .d (eO P.stop)) rfl fun v3 H3 F3 f3 r3 => ?_
  refine tI_of (ρ := [some (.d (eP P))]) f3.b (.has (dv := .d (eP P)) (Dr.mono (f1.a.trans (f2.a.trans f3.a)) rv) .nil) (dv := .d (eH P.hold)) rfl fun v4 H4 F4 f4 r4 => ?_
  refine tI_of (ρ := [some (.d (eP P))]) f4.b (.has (dv := .d (eP P)) (Dr.mono (f1.a.trans (f2.a.trans (f3.a.trans f4.a))) rv) .nil) (dv := .d (eO P.cut)) rfl fun v5 H5 F5 f5 r5 => ?_
  cases (show Dr K F1 v1 (.int P.size) from r1)
  cases (show Dr K F2 v2 (.int P.freeze) from r2)
  obtain rfl := vO_eq (show Dr K F3 v3 (eO P.stop) from r3)
  obtain rfl := vH_eq (show Dr K F4 v4 (eH P.hold) from r4)
  obtain rfl := vO_eq (show Dr K F5 v5 (eO P.cut) from r5)
  refine ⟨rfl, rfl, fun x dx hx hdx ne => ?_⟩
  have fx : F5 x = none := fresh_back f5.b hx
  have fdx : F5 dx = none := fresh_back f5.b hdx
  refine ⟨F5, x, dx, P, rfl, ex_out (ex_out f5.b fdx) fx, fx, upd_same, hp, fun F' H' g hx' => ⟨rfl, ?_⟩⟩
  have fr5 := f1.tr (f2.tr (f3.tr (f4.tr f5)))
  have fx' : F' x = none := (g.c x _ fx upd_same).1
  refine q (.ref x) (upd F' x (.ins C.cw dx (whlF P))) H' ⟨fr5.a.trans (g.a.trans (Ex.new fx')), fun p o z => ?_, fun p o z1 z2 => ?_⟩ (rw_of upd_same)
  · by_cases hpx : p = x
    · subst hpx; rw [upd_same] at z; rw [hx']; exact z
    · rw [upd_ne hpx] at z; exact g.b p o z
  · obtain ⟨y1, y2⟩ := fr5.c p o z1 z2
    have n1 : p ≠ x := ne_of_none y2 hx
    have n2 : p ≠ dx := ne_of_none y2 hdx
    obtain ⟨w1, w2⟩ := g.c p o y1 (by rw [upd_ne n1, upd_ne n2]; exact y2)
    exact ⟨by rw [upd_ne n1]; exact w1, w2 n1⟩
end LNn
set_option maxHeartbeats 4000000
/-! The table as it stands; a deed is done. -/
namespace LNn
open PySem PySem.Spec PyProof.Rows L2 HotX L2H LNa LNb LNi LNt LNp
open LNm (Pt PtOk PtD Sx eO eRow eRdr eS eH eP eW eK Dd eD Al canD behindM)
open Evl (Ex Ex.refl Ex.trans Ex.new ex_t ex_l ex_rd fresh_back)
def oT (sts : List Sx) : PyData := .tuple (sts.map eS)
def oL (sts : List Sx) : PyData := .list (sts.map eS)
/-- the table at t -/
structure Tb (K : PySem.W.Frag) (C : Cs K) (F H : Hp) (t : Addr) (P : Pt) (sts : List Sx) (notes : List Dd) (olds : List (List Sx)) (fl : Int) : Prop where
  ex : ∃ dx wv kv, F t = none ∧ H t = some (.ins C.ct dx [("base", wv), ("kept", kv)]) ∧ Rw K C F wv (eW P) ∧ Dr K F kv (eK sts (notes.map eD) (olds.map oT) fl)
section
variable {K : PySem.W.Frag} {C : Cs K} {F H F' H' : Hp} {t : Addr} {P : Pt} {sts : List Sx} {notes : List Dd} {olds : List (List Sx)} {fl : Int} {M : Addr → Prop}
theorem Tb.gr (d : Tb K C F H t P sts notes olds fl) (g : Gr M F H F' H') (n : ¬ M t) : Tb K C F' H' t P sts notes olds fl := by
  obtain ⟨dx, wv, kv, a, b, c, e⟩ := d.ex
  obtain ⟨x, y⟩ := g.c t _ a b
  exact ⟨dx, wv, kv, x, y n, c.mono g.a, e.mono g.a⟩
theorem Tb.fr (d : Tb K C F H t P sts notes olds fl) (g : Fr F H F' H') : Tb K C F' H' t P sts notes olds fl := d.gr (M := fun _ => False) g.gr (fun z => z)
theorem Tb.isSome (d : Tb K C F H t P sts notes olds fl) : (H t).isSome := by
  obtain ⟨dx, wv, kv, a, b, c, e⟩ := d.ex
  rw [b]; rfl
end
/-- a change at t, framed -/
theorem Gr.at {F H F1 H1 : Hp} {t : Addr} {o : HO} (f : Fr F H F1 H1) (h : F1 t = none) : Gr (· = t) F H F1 (upd H1 t o) := by
  refine ⟨f.a, ex_out f.b h, fun p u a b => ⟨(f.c p u a b).1, fun z => by rw [upd_ne z]; exact (f.c p u a b).2⟩⟩
theorem Gr.then_fr {M : Addr → Prop} {F H F1 H1 F2 H2 : Hp} (g : Gr M F H F1 H1) (f : Fr F1 H1 F2 H2) (there : ∀ p, M p → F p = none → (H p).isSome → (H1 p).isSome) : Gr M F H F2 H2 := g.tr f.gr there
/-- an own exception class without an own __init__, over ValueError -/
structure ExF (K : PySem.W.Frag) (mg : Str → Option Value) (x : Str) (c : Addr) : Prop where
  g : mg x = some (.ref c)
  xc : PySem.W.excIn K c PySem.HandSPX.veTail "ValueError.__new__" = true
  kp : PySem.W.keepIn K (.ref c) = true
  sb : PySem.W.subIn K (.ref c) (.type "BaseException") = some true
  ty : PySem.W.typeIn K (.ref c) = some (.type "type")
  me : PySem.W.exmOne K (.ref c) (.ref c) = some true
theorem tup_of {K : PySem.W.Frag} {F : Hp} {v : V} {ds : List PyData} (h : Dr K F v (.tuple ds)) : ∃ a xs, v = .ref a ∧ SqT K F a xs ∧ DrAll K F xs ds := by
  cases h with
  | tup h1 t1 => exact ⟨_, _, rfl, h1, t1⟩
theorem lst_of {K : PySem.W.Frag} {F : Hp} {v : V} {ds : List PyData} (h : Dr K F v (.list ds)) : ∃ a xs, v = .ref a ∧ F a = some (.lst xs) ∧ DrAll K F xs ds := by
  cases h with
  | lst h1 t1 => exact ⟨_, _, rfl, h1, t1⟩
theorem kept_of {K : PySem.W.Frag} {F : Hp} {v : V} {sts : List Sx} {notes olds : List PyData} {fl : Int} (h : Dr K F v (eK sts notes olds fl)) :
    ∃ a sv nv ov, v = .ref a ∧ SqT K F a [sv, nv, ov, .int fl] ∧ Dr K F sv (oT sts) ∧ Dr K F nv (.tuple notes) ∧ Dr K F ov (.tuple olds) := by
  obtain ⟨a, xs, rfl, h1, t1⟩ := tup_of h
  cases t1 with | cons k1 t1 => cases t1 with | cons k2 t1 => cases t1 with | cons k3 t1 => cases t1 with | cons k4 t1 =>
    cases t1
    cases k4
    exact ⟨a, _, _, _, rfl, h1, k1, k2, k3⟩
/-- do -/
def spDo (K : PySem.W.Frag) (C : Cs K) (cB : Addr) : Sp := fun vs H Q E => ∃ F t dv dd P s r notes olds fl, vs = [.ref t, dv] ∧ Ex F H ∧ Dr K F dv dd ∧ Tb K C F H t P (s :: r) notes olds fl ∧ PtOk P ∧ Al P (s :: r) ∧ r.length ≤ 10 ∧ notes.length < 80000 ∧ olds.length < 80000 ∧
  ((∃ d, dd = eD d ∧ d ∈ canD P (s :: r) ∧ ∀ u F' H', Gr (· = t) F H F' H' → Tb K C F' H' t P (behindM P (s :: r) d) (notes ++ [d]) (olds ++ [s :: r]) fl → Dr K F' u (oL (behindM P (s :: r) d)) → Q u H') ∨
   (f_can_do [.whl (eW P), .d (oT (s :: r)), .d dd] = some (.d (.bool false)) ∧ ∀ F' H', Fr F H F' H' → E (.ref cB) none H'))
abbrev N_do : List Str := ["self", "deed", "states", "notes", "olds", "floor", "late"]
theorem s_do : FnScope N_do ["self", "deed"] (defScope (met 38 5)) := ⟨rfl, rfl, rfl, by decide +kernel, rfl, by decide +kernel, by decide +kernel⟩
theorem t_do {P : Program} {w : World} {K : PySem.W.Frag} {mg : Str → Option Value} {base : Heap} {C : Cs K} {f cB : Addr} (T : Tw K mg C) (F : FdS K "do" "LiveTable.do" (met 38 5) f) (B : ExF K mg "BadDeed" cB) (D_can_do : Dfn P w K mg base C "can_do" 4 f_can_do) (D_all : Dfn P w K mg base C "all_behind" 5 f_all_behind) :
    ∃ fd, Binds K fd ["self", "deed"] [] ∧ FnOk P w K mg base (L2.CX P w) 6 f fd ["self", "deed"] (spDo K C cB) := by
  refine fd_M F s_do (fun _ _ _ _ _ _ us hl => match us, hl with | [_, _], _ => rfl) (fun vs H Q E ⟨_, _, _, _, _, _, _, _, _, _, e, _⟩ => by rw [e]; rfl) fun cdv A outer s H vs Q E hr h => ?_
  refine ⟨_, pss_cons (ps_asg (pe_fld (vv 0) rfl) (pg_tup rfl (pgs_cons (pg_name (i := 2) s_do.nd rfl (by first | exact .inl rfl | exact .inr rfl)) (pgs_cons (pg_name (i := 3) s_do.nd rfl (by first | exact .inl rfl | exact .inr rfl)) (pgs_cons (pg_name (i := 4) s_do.nd rfl (by first | exact .inl rfl | exact .inr rfl)) (pgs_cons (pg_name (i := 5) s_do.nd rfl (by first | exact .inl rfl | exact .inr rfl)) pgs_nil))))))
    (pss_cons (ps_if (pt_not (pt_val (m_call D_can_do.m hr C8.pass0 (E := fun _ _ _ => False) (pa_cons (pe_fld (vv 0) rfl) (pa_cons (vv 2) (pa_cons (vv 1) pa_nil)))))) (pss_one (ps_raise rfl (takes_of rfl rfl rfl rfl) (pmk_own PySem.F.excBase_ValueError B.xc B.g B.kp (raises_own B.sb B.ty) rfl))) pss_nil)
    (pss_cons (ps_asg (m_call D_all.m hr C8.pass0 (E := fun _ _ _ => False) (pa_cons (pe_fld (vv 0) rfl) (pa_cons (vv 2) (pa_cons (vv 1) pa_nil)))) (pg_name (i := 6) s_do.nd rfl (by first | exact .inl rfl | exact .inr rfl)))
    (pss_cons (ps_fld (vv 0) (pe_tup (pa_cons (vv 6) (pa_cons (pe_tup (StX.pa_star (vv 3) (pa_cons (vv 1) pa_nil))) (pa_cons (pe_tup (StX.pa_star (vv 4) (pa_cons (vv 2) pa_nil))) (pa_cons (vv 5) pa_nil))))) rfl)
    (pss_one (ps_ret (pe_callTy call_list_of (by rfl) T.f_list b_list (pa_cons (vv 6) pa_nil))))))), ?_⟩
  obtain ⟨F, t, dv, dd, P, s1, r, notes, olds, fl, rfl, e, rdv, tb, hP, al, hr10, hn, ho, q⟩ := h
  obtain ⟨dx, wv, kv, ft, ht, rw_, rk⟩ := tb.ex
  obtain ⟨a, sv, nv, ov, rfl, h1, rs, rn, ro⟩ := kept_of rk
  refine ⟨_, rfl, t, C.ct, dx, _, _, rfl, ht, T.clsT, T.n_kept, rfl, a, _, rfl, ex_t e h1, rfl, _, _, rfl, _, _, rfl, _, _, rfl, _, _, rfl, rfl, ?_⟩
  have call : ∀ b, f_can_do [.whl (eW P), .d (oT (s1 :: r)), .d dd] = some (.d (.bool b)) → ∀ Q : Bool → Hp → Prop, (∀ H1 F1, Fr F H F1 H1 → Q b H1) →
      (tB fun σ H Q => (tCons (tFld K (tVar 0) "base") (tCons (tVar 2) (tCons (tVar 1) tNil))) σ H fun vs H1 => spD K C f_can_do vs H1 Q (fun _ _ _ => False)) [some (.ref t), some dv, some sv, some nv, some ov, some (.int fl), none] H Q := by
    intro b hb Q hq
    refine ⟨_, rfl, t, C.ct, dx, _, _, rfl, ht, T.clsT, T.n_base, rfl, _, rfl, _, rfl, F, _, _, e, .cons (show Rd1 K C F wv (.whl _) from rw_) (.cons (show Rd1 K C F sv (.d _) from rs) (.cons (show Rd1 K C F dv (.d dd) from rdv) .nil)), hb, fun v H1 F1 f1 r1 => ?_⟩
    cases (show Dr K F1 v (.bool b) from r1)
    exact ⟨b, rfl, hq H1 F1 f1⟩
  rcases q with ⟨d, rfl, hd, q⟩ | ⟨hf, q⟩
  · have hcd := LNm.f_can_do_eq (P := P) s1 r (by omega) d
    rw [decide_eq_true hd] at hcd
    refine call true hcd _ fun H1 F1 f1 => ?_
    show tNext _ _ _
    dsimp only [tNext]
    obtain ⟨ft1, ht1⟩ := f1.c t _ ft ht
    have hab := LNm.f_all_behind_eq hP al (by rw [List.length_cons]; omega) hd
    refine ⟨_, rfl, t, C.ct, dx, _, _, rfl, ht1, T.clsT, T.n_base, rfl, _, rfl, _, rfl, F1, _, _, f1.b, .cons (show Rd1 K C F1 wv (.whl _) from rw_.mono f1.a) (.cons (show Rd1 K C F1 sv (.d _) from rs.mono f1.a) (.cons (show Rd1 K C F1 dv (.d (eD d)) from rdv.mono f1.a) .nil)), hab, fun lv H2 F2 f2 r2 => ?_⟩
    obtain ⟨ft2, ht2⟩ := f2.c t _ ft1 ht1
    have rl : Dr K F2 lv (oT (behindM P (s1 :: r) d)) := r2
    obtain ⟨la, ls, rfl, hls, tls⟩ := tup_of rl
    obtain ⟨na, ns, rfl, hns, tns⟩ := tup_of rn
    obtain ⟨oa, os, rfl, hos, tos⟩ := tup_of ro
    have lns := tns.length
    have los := tos.length
    rw [List.length_map] at lns los
    have f12 := f1.tr f2
    -- the new tuple
    refine ⟨_, rfl, _, rfl, na, ns, rfl, .inl (ex_t f2.b (ex_t f12.a hns)), _, rfl, by rw [List.length_append, List.length_singleton, sizeLine_eq]; omega, fun p1 hp1 => ?_⟩
    have f3 := Fr.new (.tup (ns ++ [dv])) f2.b hp1
    refine ⟨_, rfl, oa, os, rfl, .inl (ex_t f3.b (ex_t f3.a (ex_t f12.a hos))), _, rfl, by rw [List.length_append, List.length_singleton, sizeLine_eq]; omega, fun p2 hp2 => ?_⟩
    have f4 := Fr.new (.tup (os ++ [sv])) f3.b hp2
    refine ⟨_, rfl, by simp [sizeLine_eq], fun p3 hp3 => ?_⟩
    have f5 := Fr.new (.tup [.ref la, .ref p1, .ref p2, .int fl]) f4.b hp3
    have f25 := f3.tr (f4.tr f5)
    obtain ⟨ft5, ht5⟩ := f25.c t _ ft2 ht2
    refine ⟨_, rfl, t, C.ct, dx, _, rfl, ht5, T.clsT, T.n_kept, by simp, ?_⟩
    have g := Gr.at (o := .ins C.ct dx [("base", wv), ("kept", .ref p3)]) (f12.tr f25) ft5
    have hl5 : SqT K (upd (upd (upd F2 p1 (.tup (ns ++ [dv]))) p2 (.tup (os ++ [sv]))) p3 (.tup [.ref la, .ref p1, .ref p2, .int fl])) la ls := ex_t f25.a hls
    refine ⟨_, rfl, la, ls, rfl, .inr (ex_t g.b hl5), fun l hl => ?_⟩
    have e6 := g.b
    have f6 := Fr.new (.lst ls) e6 hl
    have g6 := g.then_fr f6 (fun p z _ _ => by subst z; rw [upd_same]; rfl)
    refine q (.ref l) _ _ g6 ?_ (.lst upd_same (tls.mono (f25.a.trans f6.a)))
    obtain ⟨y1, y2⟩ := f6.c t _ ft5 upd_same
    have a5 := f25.a.trans f6.a
    refine ⟨dx, wv, .ref p3, y1, y2, rw_.mono (f12.a.trans a5), ?_⟩
    refine .tup (ex_t f6.a (SqT.of upd_same)) (.cons (rl.mono a5) (.cons ?_ (.cons ?_ (.cons (.int fl) .nil))))
    · rw [List.map_append]
      refine .tup (ex_t (f4.a.trans (f5.a.trans f6.a)) (SqT.of upd_same)) ((tns.mono (f12.a.trans a5)).app (.cons (rdv.mono (f12.a.trans a5)) .nil))
    · rw [List.map_append]
      exact .tup (ex_t (f5.a.trans f6.a) (SqT.of upd_same)) ((tos.mono (f12.a.trans a5)).app (.cons (rs.mono (f12.a.trans a5)) .nil))
  · refine call false hf _ fun H1 F1 f1 => ?_
    exact q F1 H1 f1
end LNn
set_option maxHeartbeats 4000000
/-! A deed is taken back; a branch. -/
namespace LNn
open PySem PySem.Spec PyProof.Rows L2 HotX L2H LNa LNb LNi LNt LNp
open LNm (Pt PtOk PtD Sx eO eRow eRdr eS eH eP eW eK Dd eD Al canD behindM)
open Evl (Ex Ex.refl Ex.trans Ex.new ex_t ex_l ex_rd fresh_back)
section
variable {X : Cx} {k : Nat} {p1 p2 : Pos}
/-- -1 -/
theorem pe_m1 : PE X (.UnaryOp .USub (.Constant (.int 1) k p1) p2) (tUn (rU fun i => .int (-i)) (tC (.int 1))) := pe_un un_neg pe_int
end
theorem cut_last (xs : List V) (v : V) : cutV (xs ++ [v]) none (some (-1)) = xs := by
  unfold cutV
  have e : HT.sIx (xs ++ [v]).length (xs ++ [v]).length (some (-1)) = xs.length := by
    show (if (-1 : Int) < 0 then ((-1 : Int) + ((xs ++ [v]).length : Int)).toNat else min (-1 : Int).toNat (xs ++ [v]).length) = _
    rw [if_pos (by omega), List.length_append, List.length_singleton]
    omega
  rw [e, HT.sIx_none]
  simp
theorem not_whole (xs : List V) (v : V) : ¬ (HT.sIx (xs ++ [v]).length 0 none = 0 ∧ HT.sIx (xs ++ [v]).length (xs ++ [v]).length (some (-1)) = (xs ++ [v]).length) := by
  have e : HT.sIx (xs ++ [v]).length (xs ++ [v]).length (some (-1)) = xs.length := by
    show (if (-1 : Int) < 0 then ((-1 : Int) + ((xs ++ [v]).length : Int)).toNat else min (-1 : Int).toNat (xs ++ [v]).length) = _
    rw [if_pos (by omega), List.length_append, List.length_singleton]
    omega
  rw [e, List.length_append, List.length_singleton]
  omega
theorem drall_snoc {K : PySem.W.Frag} {F : Hp} {xs : List V} {ds : List PyData} {d : PyData} (h : DrAll K F xs (ds ++ [d])) : ∃ ys v, xs = ys ++ [v] ∧ DrAll K F ys ds ∧ Dr K F v d := by
  induction ds generalizing xs with
  | nil =>
    cases h with | cons a t => cases t; exact ⟨[], _, rfl, .nil, a⟩
  | cons e r ih =>
    cases h with | cons a t =>
      obtain ⟨ys, v, rfl, x, y⟩ := ih t
      exact ⟨_ :: ys, v, rfl, .cons a x, y⟩
/-- undo -/
def spUndo (K : PySem.W.Frag) (C : Cs K) (cN : Addr) : Sp := fun vs H Q E => ∃ F t P sts notes olds fl, vs = [.ref t] ∧ Ex F H ∧ Tb K C F H t P sts notes olds fl ∧ notes.length < 80000 ∧ olds.length < 80000 ∧
  (((notes.length : Int) ≤ fl ∧ E (.ref cN) none H) ∨
   (fl < notes.length ∧ ∃ ns d os o, notes = ns ++ [d] ∧ olds = os ++ [o] ∧ ∀ u F' H', Gr (· = t) F H F' H' → Tb K C F' H' t P o ns os fl → Dr K F' u (eD d) → Q u H'))
abbrev N_undo : List Str := ["self", "states", "notes", "olds", "floor"]
theorem s_undo : FnScope N_undo ["self"] (defScope (met 38 9)) := ⟨rfl, rfl, rfl, by decide +kernel, rfl, by decide +kernel, by decide +kernel⟩
theorem t_undo {P : Program} {w : World} {K : PySem.W.Frag} {mg : Str → Option Value} {base : Heap} {C : Cs K} {f cN : Addr} (T : Tw K mg C) (F : FdS K "undo" "LiveTable.undo" (met 38 9) f) (B : ExF K mg "NothingDone" cN) :
    ∃ fd, Binds K fd ["self"] [] ∧ FnOk P w K mg base (L2.CX P w) 1 f fd ["self"] (spUndo K C cN) := by
  refine fd_M F s_undo (fun _ _ _ _ _ _ us hl => match us, hl with | [_], _ => rfl) (fun vs H Q E ⟨_, _, _, _, _, _, _, e, _⟩ => by rw [e]; rfl) fun cdv A outer s H vs Q E hr h => ?_
  refine ⟨_, pss_cons (ps_asg (pe_fld (vv 0) rfl) (pg_tup rfl (pgs_cons (pg_name (i := 1) s_undo.nd rfl (by first | exact .inl rfl | exact .inr rfl)) (pgs_cons (pg_name (i := 2) s_undo.nd rfl (by first | exact .inl rfl | exact .inr rfl)) (pgs_cons (pg_name (i := 3) s_undo.nd rfl (by first | exact .inl rfl | exact .inr rfl)) (pgs_cons (pg_name (i := 4) s_undo.nd rfl (by first | exact .inl rfl | exact .inr rfl)) pgs_nil))))))
    (pss_cons (ps_if (pt_cmp (pc_le (pe_callB call_len_seq (by rfl) T.f_len b_len (pa_cons (vv 2) pa_nil)) (vv 4))) (pss_one (ps_raise rfl (takes_of rfl rfl rfl rfl) (pmk_own PySem.F.excBase_ValueError B.xc B.g B.kp (raises_own B.sb B.ty) rfl))) pss_nil)
    (pss_cons (ps_fld (vv 0) (pe_tup (pa_cons (pe_ix ix_tup (vv 3) pe_m1 (fun _ _ => rfl)) (pa_cons (pe_slice sl_tup (vv 2) po_none (po_some pe_m1)) (pa_cons (pe_slice sl_tup (vv 3) po_none (po_some pe_m1)) (pa_cons (vv 4) pa_nil))))) rfl)
    (pss_one (ps_ret (pe_ix ix_tup (vv 2) pe_m1 (fun _ _ => rfl)))))), ?_⟩
  obtain ⟨F, t, P, sts, notes, olds, fl, rfl, e, tb, hn, ho, q⟩ := h
  obtain ⟨dx, wv, kv, ft, ht, rw_, rk⟩ := tb.ex
  obtain ⟨a, sv, nv, ov, rfl, h1, rs, rn, ro⟩ := kept_of rk
  obtain ⟨na, ns, rfl, hns, tns⟩ := tup_of rn
  obtain ⟨oa, os, rfl, hos, tos⟩ := tup_of ro
  have lns := tns.length
  have los := tos.length
  rw [List.length_map] at lns los
  refine ⟨_, rfl, t, C.ct, dx, _, _, rfl, ht, T.clsT, T.n_kept, rfl, a, _, rfl, ex_t e h1, rfl, _, _, rfl, _, _, rfl, _, _, rfl, _, _, rfl, rfl, ?_⟩
  refine ⟨_, rfl, _, _, rfl, .inr (ex_t e hns), _, rfl, (ns.length : Int), fl, rfl, rfl, _, rfl, ?_⟩
  rcases q with ⟨hf, q⟩ | ⟨hf, ms, d, ps, o, rfl, rfl, q⟩
  · rw [if_pos (decide_eq_true (by rw [lns]; exact hf))]
    exact q
  · rw [if_neg (fun z => absurd (of_decide_eq_true z) (by rw [lns]; omega))]
    show tSeq _ _ _ _ _
    rw [List.map_append] at tns tos
    obtain ⟨ys, v, rfl, ty, rv⟩ := drall_snoc tns
    obtain ⟨zs, u, rfl, tz, ru⟩ := drall_snoc tos
    refine ⟨_, rfl, 1, rfl, oa, _, -1, u, rfl, rfl, ex_t e hos, atI_last _ _, ?_⟩
    refine ⟨_, rfl, 1, rfl, _, rfl, na, _, rfl, ex_t e hns, not_whole _ _, fun p1 hp1 => ?_⟩
    rw [cut_last]
    have f1 := Fr.new (.tup ys) e hp1
    refine ⟨_, rfl, 1, rfl, _, rfl, oa, _, rfl, ex_t f1.b (ex_t f1.a hos), not_whole _ _, fun p2 hp2 => ?_⟩
    rw [cut_last]
    have f2 := Fr.new (.tup zs) f1.b hp2
    refine ⟨_, rfl, by simp [sizeLine_eq], fun p3 hp3 => ?_⟩
    have f3 := Fr.new (.tup [u, .ref p1, .ref p2, .int fl]) f2.b hp3
    have f13 := f1.tr (f2.tr f3)
    obtain ⟨ft3, ht3⟩ := f13.c t _ ft ht
    refine ⟨_, rfl, t, C.ct, dx, _, rfl, ht3, T.clsT, T.n_kept, by simp, ?_⟩
    have g := Gr.at (o := .ins C.ct dx [("base", wv), ("kept", .ref p3)]) f13 ft3
    refine ⟨_, rfl, 1, rfl, na, _, -1, v, rfl, rfl, ex_t g.b (ex_t f13.a hns), atI_last _ _, ?_⟩
    refine q v _ _ g ⟨dx, wv, .ref p3, ft3, upd_same, rw_.mono f13.a, ?_⟩ (rv.mono f13.a)
    exact .tup (SqT.of upd_same) (.cons (ru.mono f13.a) (.cons (.tup (ex_t (f2.a.trans f3.a) (SqT.of upd_same)) (ty.mono f13.a)) (.cons (.tup (ex_t f3.a (SqT.of upd_same)) (tz.mono f13.a)) (.cons (.int fl) .nil))))
end LNn
set_option maxHeartbeats 4000000
/-! A branch; trials. -/
namespace LNn
open PySem PySem.Spec PyProof.Rows L2 HotX L2H LNa LNb LNi LNt LNp
open LNm (Pt PtOk PtD Sx eO eRow eRdr eS eH eP eW eK Dd eD Al canD behindM)
open Evl (Ex Ex.refl Ex.trans Ex.new ex_t ex_l ex_rd fresh_back)
/-- an instance was made, and changed alone -/
theorem make_fr {F H F' H' : Hp} {x dx : Addr} {a b : HO} (hx : H x = none) (hdx : H dx = none) (g : Gr (· = x) F (upd (upd H dx a) x b) F' H') : Fr F H F' H' := by
  refine ⟨g.a, g.b, fun p o z1 z2 => ?_⟩
  have n1 : p ≠ x := ne_of_none z2 hx
  have n2 : p ≠ dx := ne_of_none z2 hdx
  obtain ⟨w1, w2⟩ := g.c p o z1 (by rw [upd_ne n1, upd_ne n2]; exact z2)
  exact ⟨w1, w2 n1⟩
theorem make_ex {F H : Hp} {x dx : Addr} {a b : HO} (e : Ex F H) (hx : H x = none) (hdx : H dx = none) : Ex F (upd (upd H dx a) x b) ∧ F x = none :=
  ⟨ex_out (ex_out e (fresh_back e hdx)) (fresh_back e hx), fresh_back e hx⟩
/-- branch -/
def spBranch (K : PySem.W.Frag) (C : Cs K) : Sp := fun vs H Q _ => ∃ F t P s r notes olds fl, vs = [.ref t] ∧ Ex F H ∧ Tb K C F H t P (s :: r) notes olds fl ∧ r.length ≤ 2 ∧ ∀ o F' H', H o = none → Fr F H F' H' → Tb K C F' H' o P (s :: r) notes olds 0 → Q (.ref o) H'
abbrev N_branch : List Str := ["self", "other"]
theorem s_branch : FnScope N_branch ["self"] (defScope (met 38 10)) := ⟨rfl, rfl, rfl, by decide +kernel, rfl, by decide +kernel, by decide +kernel⟩
theorem t_branch {P : Program} {w : World} {K : PySem.W.Frag} {mg : Str → Option Value} {base : Heap} {C : Cs K} {f fl : Addr} (T : Tw K mg C) (F : FdS K "branch" "LiveTable.branch" (met 38 10) f) (M : Mk K C.ct fl)
    (L : ∃ fd, Binds K fd ["self", "wheel", "rows"] [] ∧ FnOk P w K mg base C8.CX0 2 fl fd ["self", "wheel", "rows"] (spLive K C)) :
    ∃ fd, Binds K fd ["self"] [] ∧ FnOk P w K mg base C8.CX0 4 f fd ["self"] (spBranch K C) := by
  obtain ⟨fdl, bl, FL⟩ := L
  refine fd_M F s_branch (fun _ _ _ _ _ _ us hl => match us, hl with | [_], _ => rfl) (fun vs H Q E ⟨_, _, _, _, _, _, _, _, e, _⟩ => by rw [e]; rfl) fun cdv A outer s H vs Q E hr h => ?_
  refine ⟨_, PSs.nox (pss_cons (ps_asg (pe_make M FL hr (by rfl) T.g_Live bl .nil (C8.pass0 (E := fun _ _ _ => False)) (pa_cons (pe_fld (vv 0) rfl) (pa_cons (pe_callB call_len_seq (by rfl) T.f_len b_len (pa_cons (pe_ix ix_tup (pe_fld (vv 0) rfl) pe_int (fun _ _ => rfl)) pa_nil)) pa_nil))) (pg_name (i := 1) s_branch.nd rfl (by first | exact .inl rfl | exact .inr rfl)))
    (pss_cons (ps_fld (vv 1) (pe_tup (pa_cons (pe_ix ix_tup (pe_fld (vv 0) rfl) pe_int (fun _ _ => rfl)) (pa_cons (pe_ix ix_tup (pe_fld (vv 0) rfl) pe_int (fun _ _ => rfl)) (pa_cons (pe_ix ix_tup (pe_fld (vv 0) rfl) pe_int (fun _ _ => rfl)) (pa_cons pe_int pa_nil))))) rfl)
    (pss_one (ps_ret (vv 1))))), ?_⟩
  obtain ⟨F, t, P, s1, r, notes, olds, fl, rfl, e, tb, hr2, q⟩ := h
  obtain ⟨dx, wv, kv, ft, ht, rw_, rk⟩ := tb.ex
  obtain ⟨a, sv, nv, ov, rfl, h1, rs, rn, ro⟩ := kept_of rk
  obtain ⟨sa, ss, rfl, hss, tss⟩ := tup_of rs
  have lss := tss.length
  rw [List.length_map, List.length_cons] at lss
  refine ⟨_, rfl, t, C.ct, dx, _, _, rfl, ht, T.clsT, T.n_base, rfl, _, rfl, t, C.ct, dx, _, _, rfl, ht, T.clsT, T.n_kept, rfl, a, _, 0, _, rfl, rfl, ex_t e h1, rfl, _, _, rfl, .inr (ex_t e hss), ?_⟩
  refine fun x dy hx hdy ne => ?_
  obtain ⟨e1, fx⟩ := make_ex (a := .own x) (b := .ins C.ct dy []) e hx hdy
  refine ⟨F, x, dy, wv, P, (ss.length : Int), rfl, e1, fx, upd_same, rw_, by omega, by omega, fun kv F' H' g hx' rk' => ⟨rfl, ?_⟩⟩
  have f1 : Fr F H F' H' := make_fr hx hdy g
  obtain ⟨ft1, ht1⟩ := f1.c t _ ft ht
  have fx1 : F' x = none := (g.c x _ fx upd_same).1
  have h1' := ex_t f1.b (ex_t f1.a h1)
  refine ⟨_, rfl, t, C.ct, dx, _, _, rfl, ht1, T.clsT, T.n_kept, rfl, a, _, 0, _, rfl, rfl, h1', rfl, ?_⟩
  refine ⟨_, rfl, t, C.ct, dx, _, _, rfl, ht1, T.clsT, T.n_kept, rfl, a, _, 1, _, rfl, rfl, h1', rfl, ?_⟩
  refine ⟨_, rfl, t, C.ct, dx, _, _, rfl, ht1, T.clsT, T.n_kept, rfl, a, _, 2, _, rfl, rfl, h1', rfl, ?_⟩
  refine ⟨by simp [sizeLine_eq], fun p hp => ?_⟩
  have f2 := Fr.new (.tup [.ref sa, nv, ov, .int 0]) f1.b hp
  obtain ⟨fx2, hx2⟩ := f2.c x _ fx1 hx'
  refine ⟨_, rfl, x, C.ct, dy, _, rfl, hx2, T.clsT, T.n_kept, by simp, ?_⟩
  have f12 := f1.tr f2
  refine ⟨_, rfl, q x (upd F' p (.tup [.ref sa, nv, ov, .int 0])) _ hx ?_ ?_⟩
  · refine ⟨f12.a, ex_out f12.b fx2, fun p o z1 z2 => ?_⟩
    rw [upd_ne (ne_of_none z2 hx)]
    exact f12.c p o z1 z2
  · refine ⟨dy, wv, .ref p, fx2, upd_same, rw_.mono f12.a, ?_⟩
    exact .tup (SqT.of upd_same) (.cons (Dr.mono f12.a (.tup hss tss)) (.cons (rn.mono f12.a) (.cons (ro.mono f12.a) (.cons (.int 0) .nil))))
/-! ### trials -/
structure Tr (K : PySem.W.Frag) (mg : Str → Option Value) (c3 : Addr) : Prop where
  g : mg "Trial" = some (.ref c3)
  cl : Cls K c3
  nt : NoAttr K c3 "table"
  nb : NoAttr K c3 "before"
/-- Trial's __init__ -/
def spTrI (K : PySem.W.Frag) (C : Cs K) (c3 : Addr) : Sp := fun vs H Q _ => ∃ F y dy t dx wv kv, vs = [.ref y, .ref t] ∧ Ex F H ∧ F y = none ∧ H y = some (.ins c3 dy []) ∧ F t = none ∧ H t = some (.ins C.ct dx [("base", wv), ("kept", kv)]) ∧
  ∀ H', Gr (· = y) F H F H' → H' y = some (.ins c3 dy [("table", .ref t), ("before", kv)]) → Q .non H'
abbrev N_tri : List Str := ["self", "table"]
theorem s_tri : FnScope N_tri ["self", "table"] (defScope (met 39 0)) := ⟨rfl, rfl, rfl, by decide +kernel, rfl, by decide +kernel, by decide +kernel⟩
theorem t_tri {P : Program} {w : World} {K : PySem.W.Frag} {mg : Str → Option Value} {base : Heap} {C : Cs K} {f c3 : Addr} (T : Tw K mg C) (R : Tr K mg c3) (F : FdS K "__init__" "Trial.__init__" (met 39 0) f) :
    ∃ fd, Binds K fd ["self", "table"] [] ∧ FnOk P w K mg base C8.CX0 1 f fd ["self", "table"] (spTrI K C c3) := by
  refine fd_M F s_tri (fun _ _ _ _ _ _ us hl => match us, hl with | [_, _], _ => rfl) (fun vs H Q E ⟨_, _, _, _, _, _, _, e, _⟩ => by rw [e]; rfl) fun cdv A outer s H vs Q E hr h => ?_
  refine ⟨_, PSs.nox (pss_cons (ps_fld (vv 0) (vv 1) rfl) (pss_one (ps_fld (vv 0) (pe_fld (vv 1) rfl) rfl))), ?_⟩
  obtain ⟨F, y, dy, t, dx, wv, kv, rfl, e, fy, hy, ft, ht, q⟩ := h
  have ne : t ≠ y := fun z => by rw [z, hy] at ht; cases ht
  refine ⟨_, rfl, _, rfl, y, c3, dy, _, rfl, hy, R.cl, R.nt, by simp, ?_⟩
  refine ⟨_, rfl, t, C.ct, dx, _, _, rfl, (upd_ne ne).trans ht, T.clsT, T.n_kept, rfl, _, rfl, y, c3, dy, _, rfl, upd_same, R.cl, R.nb, by simp [putF], ?_⟩
  rw [upd_upd]
  exact q _ (Gr.at (Fr.rfl' e) fy) upd_same
/-- trial -/
def spTrial (K : PySem.W.Frag) (C : Cs K) (c3 : Addr) : Sp := fun vs H Q _ => ∃ F t dx wv kv, vs = [.ref t] ∧ Ex F H ∧ F t = none ∧ H t = some (.ins C.ct dx [("base", wv), ("kept", kv)]) ∧
  ∀ y dy H', H y = none → Fr F H F H' → H' y = some (.ins c3 dy [("table", .ref t), ("before", kv)]) → Q (.ref y) H'
abbrev N_trial : List Str := ["self"]
theorem s_trial : FnScope N_trial ["self"] (defScope (met 38 11)) := ⟨rfl, rfl, rfl, by decide +kernel, rfl, by decide +kernel, by decide +kernel⟩
theorem t_trial {P : Program} {w : World} {K : PySem.W.Frag} {mg : Str → Option Value} {base : Heap} {C : Cs K} {f fi c3 : Addr} (T : Tw K mg C) (R : Tr K mg c3) (F : FdS K "trial" "LiveTable.trial" (met 38 11) f) (M : Mk K c3 fi)
    (I : ∃ fd, Binds K fd ["self", "table"] [] ∧ FnOk P w K mg base C8.CX0 1 fi fd ["self", "table"] (spTrI K C c3)) :
    ∃ fd, Binds K fd ["self"] [] ∧ FnOk P w K mg base C8.CX0 3 f fd ["self"] (spTrial K C c3) := by
  obtain ⟨fdi, bi, FI⟩ := I
  refine fd_M F s_trial (fun _ _ _ _ _ _ us hl => match us, hl with | [_], _ => rfl) (fun vs H Q E ⟨_, _, _, _, _, e, _⟩ => by rw [e]; rfl) fun cdv A outer s H vs Q E hr h => ?_
  refine ⟨_, PSs.nox (pss_one (ps_ret (pe_make M FI hr (by rfl) R.g bi .nil (C8.pass0 (E := fun _ _ _ => False)) (pa_cons (vv 0) pa_nil)))), ?_⟩
  obtain ⟨F, t, dx, wv, kv, rfl, e, ft, ht, q⟩ := h
  refine ⟨_, rfl, fun y dy hy hdy ne => ?_⟩
  obtain ⟨e1, fy⟩ := make_ex (a := .own y) (b := .ins c3 dy []) e hy hdy
  have n1 : t ≠ y := ne_of_none ht hy
  have n2 : t ≠ dy := ne_of_none ht hdy
  exact ⟨F, y, dy, t, dx, wv, kv, rfl, e1, fy, upd_same, ft, by rw [upd_ne n1, upd_ne n2]; exact ht, fun H' g hy' => ⟨rfl, q y dy H' hy (make_fr hy hdy g) hy'⟩⟩
end LNn
set_option maxHeartbeats 4000000
/-! A trial is entered, and left. -/
namespace LNn
open PySem PySem.Spec PyProof.Rows L2 HotX L2H LNa LNb LNi LNt LNp
open LNm (Pt PtOk PtD Sx eO eRow eRdr eS eH eP eW eK Dd eD Al canD behindM)
open Evl (Ex Ex.refl Ex.trans Ex.new ex_t ex_l ex_rd fresh_back)
def spEnter (K : PySem.W.Frag) (C : Cs K) (c3 : Addr) : Sp := fun vs H Q _ => ∃ F y dy b0 t P sts notes olds fl, vs = [.ref y] ∧ Ex F H ∧ F y = none ∧ H y = some (.ins c3 dy [("table", .ref t), ("before", b0)]) ∧ y ≠ t ∧ Tb K C F H t P sts notes olds fl ∧
  ∀ kv F' H', Gr (fun p => p = y ∨ p = t) F H F' H' → H' y = some (.ins c3 dy [("table", .ref t), ("before", kv)]) → Dr K F' kv (eK sts (notes.map eD) (olds.map oT) fl) → Tb K C F' H' t P sts notes olds notes.length → Q (.ref t) H'
abbrev N_enter : List Str := ["self"]
theorem s_enter : FnScope N_enter ["self"] (defScope (met 39 1)) := ⟨rfl, rfl, rfl, by decide +kernel, rfl, by decide +kernel, by decide +kernel⟩
theorem t_enter {P : Program} {w : World} {K : PySem.W.Frag} {mg : Str → Option Value} {base : Heap} {C : Cs K} {f c3 : Addr} (T : Tw K mg C) (R : Tr K mg c3) (F : FdS K "__enter__" "Trial.__enter__" (met 39 1) f) :
    ∃ fd, Binds K fd ["self"] [] ∧ FnOk P w K mg base C8.CX0 1 f fd ["self"] (spEnter K C c3) := by
  refine fd_M F s_enter (fun _ _ _ _ _ _ us hl => match us, hl with | [_], _ => rfl) (fun vs H Q E ⟨_, _, _, _, _, _, _, _, _, _, e, _⟩ => by rw [e]; rfl) fun cdv A outer s H vs Q E hr h => ?_
  refine ⟨_, PSs.nox (pss_cons (ps_fld (vv 0) (pe_fld (pe_fld (vv 0) rfl) rfl) rfl)
    (pss_cons (ps_fld (pe_fld (vv 0) rfl) (pe_tup (pa_cons (pe_ix ix_tup (pe_fld (vv 0) rfl) pe_int (fun _ _ => rfl)) (pa_cons (pe_ix ix_tup (pe_fld (vv 0) rfl) pe_int (fun _ _ => rfl)) (pa_cons (pe_ix ix_tup (pe_fld (vv 0) rfl) pe_int (fun _ _ => rfl)) (pa_cons (pe_callB call_len_seq (by rfl) T.f_len b_len (pa_cons (pe_ix ix_tup (pe_fld (vv 0) rfl) pe_int (fun _ _ => rfl)) pa_nil)) pa_nil))))) rfl)
    (pss_one (ps_ret (pe_fld (vv 0) rfl))))), ?_⟩
  obtain ⟨F, y, dy, b0, t, P, sts, notes, olds, fl, rfl, e, fy, hy, ne, tb, q⟩ := h
  obtain ⟨dx, wv, kv, ft, ht, rw_, rk⟩ := tb.ex
  obtain ⟨a, sv, nv, ov, rfl, h1, rs, rn, ro⟩ := kept_of rk
  obtain ⟨na, ns, rfl, hns, tns⟩ := tup_of rn
  have lns := tns.length
  rw [List.length_map] at lns
  refine ⟨_, rfl, y, c3, dy, _, _, rfl, hy, R.cl, R.nt, rfl, t, C.ct, dx, _, _, rfl, ht, T.clsT, T.n_kept, rfl, _, rfl, y, c3, dy, _, rfl, hy, R.cl, R.nb, by simp, ?_⟩
  have hy1 : upd H y (.ins c3 dy (putF "before" (.ref a) [("table", .ref t), ("before", b0)])) y = some (.ins c3 dy [("table", .ref t), ("before", .ref a)]) := upd_same
  have ht1 : upd H y (.ins c3 dy (putF "before" (.ref a) [("table", .ref t), ("before", b0)])) t = some (.ins C.ct dx [("base", wv), ("kept", .ref a)]) := (upd_ne (Ne.symm ne)).trans ht
  have g1 : Gr (fun p => p = y ∨ p = t) F H F (upd H y (.ins c3 dy (putF "before" (.ref a) [("table", .ref t), ("before", b0)]))) := (Gr.at (Fr.rfl' e) fy).wide fun p z => .inl z
  generalize upd H y (.ins c3 dy (putF "before" (.ref a) [("table", .ref t), ("before", b0)])) = H1 at hy1 ht1 g1
  have h1' : SqT K H1 a [sv, .ref na, ov, .int fl] := ex_t g1.b h1
  refine ⟨_, rfl, y, c3, dy, _, _, rfl, hy1, R.cl, R.nb, rfl, a, _, 0, _, rfl, rfl, h1', rfl, ?_⟩
  refine ⟨_, rfl, y, c3, dy, _, _, rfl, hy1, R.cl, R.nb, rfl, a, _, 1, _, rfl, rfl, h1', rfl, ?_⟩
  refine ⟨_, rfl, y, c3, dy, _, _, rfl, hy1, R.cl, R.nb, rfl, a, _, 2, _, rfl, rfl, h1', rfl, ?_⟩
  refine ⟨_, rfl, y, c3, dy, _, _, rfl, hy1, R.cl, R.nb, rfl, a, _, 1, _, rfl, rfl, h1', rfl, na, ns, rfl, .inr (ex_t g1.b hns), ?_⟩
  refine ⟨by simp [sizeLine_eq], fun p hp => ?_⟩
  have f2 := Fr.new (.tup [sv, .ref na, ov, .int (ns.length : Int)]) g1.b hp
  obtain ⟨fy2, hy2⟩ := f2.c y _ fy hy1
  obtain ⟨ft2, ht2⟩ := f2.c t _ ft ht1
  refine ⟨_, rfl, y, c3, dy, _, _, rfl, hy2, R.cl, R.nt, rfl, t, C.ct, dx, _, rfl, ht2, T.clsT, T.n_kept, by simp, ?_⟩
  have hy3 : upd (upd H1 p (.tup [sv, .ref na, ov, .int (ns.length : Int)])) t (.ins C.ct dx (putF "kept" (.ref p) [("base", wv), ("kept", .ref a)])) y = some (.ins c3 dy [("table", .ref t), ("before", .ref a)]) := (upd_ne ne).trans hy2
  refine ⟨_, rfl, y, c3, dy, _, _, rfl, hy3, R.cl, R.nt, rfl, ?_⟩
  have g2 : Gr (fun p => p = y ∨ p = t) F H1 (upd F p (.tup [sv, .ref na, ov, .int (ns.length : Int)])) (upd (upd H1 p (.tup [sv, .ref na, ov, .int (ns.length : Int)])) t (.ins C.ct dx (putF "kept" (.ref p) [("base", wv), ("kept", .ref a)]))) := (Gr.at f2 ft2).wide fun p z => .inr z
  refine q (.ref a) _ _ (g1.tr g2 fun p z _ _ => ?_) hy3 (rk.mono f2.a) ⟨dx, wv, .ref p, ft2, upd_same, rw_.mono f2.a, ?_⟩
  · rcases z with rfl | rfl
    · rw [hy1]; rfl
    · rw [ht1]; rfl
  · refine .tup (SqT.of upd_same) (.cons (rs.mono f2.a) (.cons (rn.mono f2.a) (.cons (ro.mono f2.a) (.cons ?_ .nil))))
    rw [lns]; exact .int _
/-- left, in both ways -/
def spExit (K : PySem.W.Frag) (C : Cs K) (c3 : Addr) : Sp := fun vs H Q _ => ∃ F y dy kv t P sts notes olds fl sts2 notes2 olds2 fl2 x1 x2 x3, vs = [.ref y, x1, x2, x3] ∧ Ex F H ∧ H y = some (.ins c3 dy [("table", .ref t), ("before", kv)]) ∧ Dr K F kv (eK sts (notes.map eD) (olds.map oT) fl) ∧ Tb K C F H t P sts2 notes2 olds2 fl2 ∧
  ∀ H', Gr (· = t) F H F H' → Tb K C F H' t P sts notes olds fl → Q (.bl false) H'
abbrev N_exit : List Str := ["self", "kind", "error", "trace"]
theorem s_exit : FnScope N_exit ["self", "kind", "error", "trace"] (defScope (met 39 2)) := ⟨rfl, rfl, rfl, by decide +kernel, rfl, by decide +kernel, by decide +kernel⟩
theorem t_exit {P : Program} {w : World} {K : PySem.W.Frag} {mg : Str → Option Value} {base : Heap} {C : Cs K} {f c3 : Addr} (T : Tw K mg C) (R : Tr K mg c3) (F : FdS K "__exit__" "Trial.__exit__" (met 39 2) f) :
    ∃ fd, Binds K fd ["self", "kind", "error", "trace"] [] ∧ FnW P w K mg base C8.CX0 1 f fd ["self", "kind", "error", "trace"] (spExit K C c3) := by
  obtain ⟨oc, od, kV, doc, pm, an, cdv, ct, osl, lk, hcd⟩ := F.ex
  refine ⟨_, .all fun us hl => match us, hl with | [_, _, _, _], _ => rfl, fn_ofW lk hcd s_exit (fun vs H Q E ⟨_, _, _, _, _, _, _, _, _, _, _, _, _, _, _, _, _, e, _⟩ => by rw [e]; rfl) fun c pn A outer s H vs Q E hw hr h => ?_⟩
  refine ⟨_, PSs.nox (pss_cons (ps_fld (pe_fld (vv 0) rfl) (pe_fld (vv 0) rfl) rfl) (pss_one (ps_ret pe_bl))), ?_⟩
  obtain ⟨F, y, dy, kv, t, P, sts, notes, olds, fl, sts2, notes2, olds2, fl2, x1, x2, x3, rfl, e, hy, rk, tb, q⟩ := h
  obtain ⟨dx, wv, kv2, ft, ht, rw_, rk2⟩ := tb.ex
  refine ⟨_, rfl, y, c3, dy, _, _, rfl, hy, R.cl, R.nb, rfl, _, rfl, y, c3, dy, _, _, rfl, hy, R.cl, R.nt, rfl, t, C.ct, dx, _, rfl, ht, T.clsT, T.n_kept, by simp, ?_⟩
  exact q _ (Gr.at (Fr.rfl' e) ft) ⟨dx, wv, kv, ft, upd_same, rw_, rk⟩
end LNn
set_option maxHeartbeats 4000000
/-! Methods that may raise, in a try; what is barred. -/
namespace LNn
open PySem PySem.Spec PyProof.Rows L2 HotX L2H LNa LNb LNi LNt LNp
open LNm (Pt PtOk PtD Sx eO eRow eRdr eS eH eP eW eK Dd eD Al canD behindM)
open Evl (Ex Ex.refl Ex.trans Ex.new ex_t ex_l ex_rd fresh_back)
/-- a method of the class at C -/
structure DmM (CX : CXT) (P : Program) (w : World) (K : PySem.W.Frag) (mg : Str → Option Value) (base : Heap) (C : Addr) (m : Str) (k : Nat) (sp : Sp) : Prop where
  cl : Cls K C
  ex : ∃ fa fd ps, Meth K C m fa ∧ Binds K fd ps [] ∧ FnOk P w K mg base CX k fa fd ps sp
section
variable {X : Cx} {CX : CXT} {k j : Nat} {C : Addr} {sp : Sp} {E : L2.St → XK} {m : Str} {pos apos : Pos} {e o : Expr} {es : List Expr} {ta : TE} {t : TA}
def tMtT (C : Addr) (m : Str) (sp : Sp) (E : L2.St → XK) (ta : TE) (t : TA) : TE := fun σ H Q => ta σ H fun x H1 => ∃ a dx fs, x = .ref a ∧ H1 a = some (.ins C dx fs) ∧ fs.lookup m = none ∧ t σ H1 fun vs H2 => sp (x :: vs) H2 Q (E σ)
theorem m_meth {pl : Sem Bool} (D : DmM CX X.prog X.w X.K X.mg X.base C m k sp) (hr : Room j X.A) (hx : ∀ σ, PassesAt CX X σ (E σ)) (he : PE X o ta) (ha : PA X (e :: es) t) (hk : k ≤ j := by decide)
    (hst : starEach (e :: es) X.env = (false, eval e X.env) :: starEach es X.env := by rfl) (hpl : (backTo pos (starEach es X.env)).any (·.1) = false := by rfl)
    (ht : eval (.Call (.Attribute o m apos) (e :: es) [] pos) X.env = (do
      let ov ← eval o X.env; standAt apos.atName; let (f, first) ← holding [ov] (getMethod ov m pl); callWith pos f first (backTo pos (starEach (e :: es) X.env)) (backToKw pos (keywordEach [] X.env))) := by rfl) :
    PE X (.Call (.Attribute o m apos) (e :: es) [] pos) (tMtT C m sp E ta t) := by
  obtain ⟨fa, fd, ps, hm, hb, F⟩ := D.ex
  refine ⟨fun pp s σ H Q J h => PySem.W.methodCall_KW (pl := pl) (thn (he.run pp s σ H _ J h) fun u s1 ⟨x, H1, J1, rx, a, dx, fs, ex, ea, l, q⟩ => ?_) ht⟩
  subst ex
  obtain rfl : u = Value.ref a := rx
  exact getmeth_ok J1 ea D.cl hm l (PySem.W.callWith_K (first := [.ref a]) (h₀ := X.base) J.ok.mod.kin hm.kp (thn (ha.run pos pp s1 σ H1 _ J1 q) fun us s2 ⟨vs, H2, J2, r, q2⟩ => ⟨J2.kIn, run_fnS (us := .ref a :: us) (vs := .ref a :: vs) F (hr.mono hk) hb (hx σ) J2 (.cons rfl r) q2⟩) hst hpl)
theorem m_meth0 {pl : Sem Bool} (D : DmM CX X.prog X.w X.K X.mg X.base C m k sp) (hr : Room j X.A) (hx : ∀ σ, PassesAt CX X σ (E σ)) (he : PE X o ta) (hk : k ≤ j := by decide)
    (ht : eval (.Call (.Attribute o m apos) [] [] pos) X.env = (do
      let ov ← eval o X.env; standAt apos.atName; let (f, first) ← holding [ov] (getMethod ov m pl); callWith pos f first (backTo pos (starEach [] X.env)) (backToKw pos (keywordEach [] X.env))) := by rfl) :
    PE X (.Call (.Attribute o m apos) [] [] pos) (tMtT C m sp E ta tNil) := by
  obtain ⟨fa, fd, ps, hm, hb, F⟩ := D.ex
  refine ⟨fun pp s σ H Q J h => PySem.W.methodCall_KW (pl := pl) (thn (he.run pp s σ H _ J h) fun u s1 ⟨x, H1, J1, rx, a, dx, fs, ex, ea, l, q⟩ => ?_) ht⟩
  subst ex
  obtain rfl : u = Value.ref a := rx
  exact getmeth_ok J1 ea D.cl hm l (PySem.W.callWith_K0 (first := [.ref a]) J1.kIn hm.kp (run_fnS (us := [.ref a]) (vs := [.ref a]) F (hr.mono hk) hb (hx σ) J1 (.cons rfl .nil) q))
theorem passAt0 (σ : L2.St) {E : XK} : PassesAt C8.CX0 X σ E := fun _ _ _ _ _ _ h => h.elim
end
/-- is_barred: the deed can't be done -/
def spBar (K : PySem.W.Frag) (C : Cs K) : Sp := fun vs H Q _ => ∃ F t dv dd P s r notes olds fl, vs = [.ref t, dv] ∧ Ex F H ∧ Dr K F dv dd ∧ Tb K C F H t P (s :: r) notes olds fl ∧ PtOk P ∧ Al P (s :: r) ∧ r.length ≤ 10 ∧ notes.length < 80000 ∧ olds.length < 80000 ∧
  f_can_do [.whl (eW P), .d (oT (s :: r)), .d dd] = some (.d (.bool false)) ∧ ∀ F' H', Fr F H F' H' → Q (.bl true) H'
abbrev N_bar : List Str := ["_law_table", "_law_deed"]
theorem s_bar : FnScope N_bar ["_law_table", "_law_deed"] (defScope (top 63)) := ⟨rfl, rfl, rfl, by decide +kernel, rfl, by decide +kernel, by decide +kernel⟩
theorem t_bar {P : Program} {w : World} {K : PySem.W.Frag} {mg : Str → Option Value} {base : Heap} {C : Cs K} {f cB : Addr} (T : Tw K mg C) (F : FdS K "_law_is_barred" "_law_is_barred" (top 63) f) (B : ExF K mg "BadDeed" cB) (D : DmM (L2.CX P w) P w K mg base C.ct "do" 6 (spDo K C cB)) :
    ∃ fd, Binds K fd ["_law_table", "_law_deed"] [] ∧ FnOk P w K mg base C8.CX0 7 f fd ["_law_table", "_law_deed"] (spBar K C) := by
  refine fd_M F s_bar (fun _ _ _ _ _ _ us hl => match us, hl with | [_, _], _ => rfl) (fun vs H Q E ⟨_, _, _, _, _, _, _, _, _, _, e, _⟩ => by rw [e]; rfl) fun cdv A outer s H vs Q E hr h => ?_
  refine ⟨_, PSs.nox (pss_cons (ps_try_only rfl rfl ⟨rfl, by decide, .inl B.g⟩ takes0 (fun W pn xe tk _ => pss_one (ps_expr (m_meth D hr (fun σ => passAt tk σ) (vv 0) (pa_cons (vv 1) pa_nil)) rfl)) (fun a oe cls d pn _ _ => pss_one (ps_ret pe_bl))) (pss_one (ps_ret pe_bl))), ?_⟩
  obtain ⟨F, t, dv, dd, P, s1, r, notes, olds, fl, rfl, e, rdv, tb, hP, al, hr10, hn, ho, hf, q⟩ := h
  obtain ⟨dx, wv, kv, ft, ht, _, _⟩ := tb.ex
  refine ⟨_, rfl, t, dx, _, rfl, ht, rfl, _, rfl, F, t, dv, dd, P, s1, r, notes, olds, fl, rfl, e, rdv, tb, hP, al, hr10, hn, ho, .inr ⟨hf, fun F' H' fr => ?_⟩⟩
  exact ⟨true, B.me, fun _ a ha => q F' H' fr, fun z => Bool.noConfusion z⟩
end LNn
set_option maxHeartbeats 4000000
/-! A step of the law. -/
namespace LNn
open PySem PySem.Spec PyProof.Rows L2 HotX L2H LNa LNb LNi LNt LNp
open LNm (Pt PtOk PtD Sx eO eRow eRdr eS eH eP eW eK Dd eD Al canD behindM)
open Evl (Ex Ex.refl Ex.trans Ex.new ex_t ex_l ex_rd fresh_back)
theorem passAtF {X : Cx} {P : Program} {w : World} (σ : L2.St) : PassesAt (L2.CX P w) X σ (fun _ _ _ => False) := fun _ _ _ _ _ _ ⟨_, _, _, _, _, _, _, _, _, _, _, _, h⟩ => h.elim
/-- the law's own account at h -/
structure Hr (K : PySem.W.Frag) (F H : Hp) (h n o : Addr) (sts : List Sx) (notes : List Dd) (olds : List (List Sx)) : Prop where
  ex : ∃ sv nvs ovs, F h = none ∧ H h = some (.lst [sv, .ref n, .ref o]) ∧ F n = none ∧ H n = some (.lst nvs) ∧ F o = none ∧ H o = some (.lst ovs) ∧ Dr K F sv (oL sts) ∧ DrAll K F nvs (notes.map eD) ∧ DrAll K F ovs (olds.map oL)
/-- data that the program may come to -/
structure Vd (P : Pt) (sts : List Sx) (notes : List Dd) (olds : List (List Sx)) : Prop where
  ok : PtOk P
  al : Al P sts
  ne : sts ≠ []
  le : sts.length ≤ 3
  ol : ∀ s ∈ olds, Al P s ∧ s ≠ [] ∧ s.length ≤ 3
  ln : notes.length = olds.length
structure Wl (K : PySem.W.Frag) (C : Cs K) (F H : Hp) (p t h n o : Addr) (k : Int) (P : Pt) (sts : List Sx) (notes : List Dd) (olds : List (List Sx)) (fl : Int) : Prop where
  dr : Drw K F H p k
  tb : Tb K C F H t P sts notes olds fl
  hr : Hr K F H h n o sts notes olds
  nd : [p, t, h, n, o].Nodup
def Mx (p t h n o : Addr) : Addr → Prop := fun q => q = p ∨ q = t ∨ q = h ∨ q = n ∨ q = o
theorem Gr.more {M : Addr → Prop} {F H F1 H1 : Hp} {p : Addr} {o' : HO} (g : Gr M F H F1 H1) (f1 : F1 p = none) (hp : M p) : Gr M F H F1 (upd H1 p o') :=
  ⟨g.a, ex_out g.b f1, fun q u a b => ⟨(g.c q u a b).1, fun z => by rw [upd_ne (fun e : q = p => z (by rw [e]; exact hp))]; exact (g.c q u a b).2 z⟩⟩
theorem Drw.upd {K : PySem.W.Frag} {F H : Hp} {p q : Addr} {k : Int} {o : HO} (d : Drw K F H p k) (h : p ≠ q) : Drw K F (upd H q o) p k := by
  obtain ⟨sv, cells, a, b, c⟩ := d.ex
  exact ⟨sv, cells, a, (upd_ne h).trans b, c⟩
theorem Tb.upd {K : PySem.W.Frag} {C : Cs K} {F H : Hp} {t q : Addr} {P : Pt} {sts : List Sx} {notes : List Dd} {olds : List (List Sx)} {fl : Int} {o : HO} (d : Tb K C F H t P sts notes olds fl) (h : t ≠ q) : Tb K C F (upd H q o) t P sts notes olds fl := by
  obtain ⟨dx, wv, kv, a, b, c, e⟩ := d.ex
  exact ⟨dx, wv, kv, a, (upd_ne h).trans b, c, e⟩
theorem Hr.gr {K : PySem.W.Frag} {M : Addr → Prop} {F H F' H' : Hp} {h n o : Addr} {sts : List Sx} {notes : List Dd} {olds : List (List Sx)} (x : Hr K F H h n o sts notes olds) (g : Gr M F H F' H') (n1 : ¬ M h) (n2 : ¬ M n) (n3 : ¬ M o) : Hr K F' H' h n o sts notes olds := by
  obtain ⟨sv, nvs, ovs, a1, a2, b1, b2, c1, c2, d1, d2, d3⟩ := x.ex
  exact ⟨sv, nvs, ovs, (g.c _ _ a1 a2).1, (g.c _ _ a1 a2).2 n1, (g.c _ _ b1 b2).1, (g.c _ _ b1 b2).2 n2, (g.c _ _ c1 c2).1, (g.c _ _ c1 c2).2 n3, d1.mono g.a, d2.mono g.a, d3.mono g.a⟩
section
variable {K : PySem.W.Frag} {C : Cs K} {F H F' H' : Hp} {p t h n o : Addr} {k k' : Int} {P : Pt} {sts : List Sx} {notes : List Dd} {olds : List (List Sx)} {fl : Int}
theorem nes_of (nd : [p, t, h, n, o].Nodup) : p ≠ t ∧ p ≠ h ∧ p ≠ n ∧ p ≠ o ∧ t ≠ h ∧ t ≠ n ∧ t ≠ o ∧ h ≠ n ∧ h ≠ o ∧ n ≠ o := by
  simp only [List.nodup_cons, List.mem_cons, List.not_mem_nil, or_false, not_or, not_false_eq_true, List.nodup_nil, and_true] at nd
  obtain ⟨⟨a1, a2, a3, a4⟩, ⟨b1, b2, b3⟩, ⟨c1, c2⟩, d1⟩ := nd
  exact ⟨a1, a2, a3, a4, b1, b2, b3, c1, c2, d1⟩
theorem Wl.fr (W : Wl K C F H p t h n o k P sts notes olds fl) (f : Fr F H F' H') : Wl K C F' H' p t h n o k P sts notes olds fl :=
  ⟨W.dr.fr f, W.tb.fr f, W.hr.gr (M := fun _ => False) f.gr (fun z => z) (fun z => z) (fun z => z), W.nd⟩
theorem Wl.draw (W : Wl K C F H p t h n o k P sts notes olds fl) (g : Gr (· = p) F H F' H') (d : Drw K F' H' p k') : Wl K C F' H' p t h n o k' P sts notes olds fl := by
  obtain ⟨a1, a2, a3, a4, _⟩ := nes_of W.nd
  exact ⟨d, W.tb.gr g (Ne.symm a1), W.hr.gr g (Ne.symm a2) (Ne.symm a3) (Ne.symm a4), W.nd⟩
theorem Wl.there (W : Wl K C F H p t h n o k P sts notes olds fl) (q : Addr) (m : Mx p t h n o q) : (H q).isSome := by
  obtain ⟨sv, nvs, ovs, a1, a2, b1, b2, c1, c2, d1, d2, d3⟩ := W.hr.ex
  rcases m with rfl | rfl | rfl | rfl | rfl
  · exact W.dr.isSome
  · exact W.tb.isSome
  · rw [a2]; rfl
  · rw [b2]; rfl
  · rw [c2]; rfl
theorem Gr.trW {F0 H0 : Hp} (g : Gr (Mx p t h n o) F0 H0 F H) (W : Wl K C F H p t h n o k P sts notes olds fl) (g2 : Gr (Mx p t h n o) F H F' H') : Gr (Mx p t h n o) F0 H0 F' H' := g.tr g2 fun q m _ _ => W.there q m
end
theorem split_if {b : Bool} {A B : Prop} (h1 : b = true → A) (h2 : b = false → B) : if b = true then A else B := by
  cases b with
  | true => exact h1 rfl
  | false => exact h2 rfl
theorem geq_self {d : PyData} {n : Nat} (h : LNm.Shp n d) (hn : n ≤ 64) : gEq (.d d) (.d d) = some (.d (.bool true)) := by
  show (if SeqAt.shaped d = true ∧ SeqAt.shaped d = true then some (Dv.d (.bool (PyData.eqv d d))) else none) = _
  rw [if_pos ⟨h.sh hn, h.sh hn⟩, LNm.eqv_self h]
def spStep (K : PySem.W.Frag) (C : Cs K) : Sp := fun vs H Q _ => ∃ F p t h n o k P sts notes olds fl pv, vs = [.ref p, .ref t, pv, .ref h, .int fl] ∧ Ex F H ∧ Wl K C F H p t h n o k P sts notes olds fl ∧ Dr K F pv (eP P) ∧ Vd P sts notes olds ∧ 0 ≤ k ∧ k + 3 ≤ kMax ∧ notes.length < 70000 ∧ 0 ≤ fl ∧ fl ≤ notes.length ∧
  ∀ F' H' k' sts' notes' olds', Gr (Mx p t h n o) F H F' H' → Wl K C F' H' p t h n o k' P sts' notes' olds' fl → Vd P sts' notes' olds' → k ≤ k' → k' ≤ k + 3 → notes'.length ≤ notes.length + 1 → fl ≤ notes'.length → Q (.bl true) H'
abbrev N_step : List Str := ["_law_draw", "_law_table", "_law_parts_here", "_law_here", "_law_floor", "_law_kind", "_law_can_here", "_law_odd", "_law_deed", "_law_late"]
theorem s_step : FnScope N_step ["_law_draw", "_law_table", "_law_parts_here", "_law_here", "_law_floor"] (defScope (top 64)) := ⟨rfl, rfl, rfl, by decide +kernel, rfl, by decide +kernel, by decide +kernel⟩
theorem t_step {P : Program} {w : World} {K : PySem.W.Frag} {mg : Str → Option Value} {base : Heap} {C : Cs K} {f cB cN : Addr} (T : Tw K mg C) (F : FdS K "_law_step_right" "_law_step_right" (top 64) f) (BN : ExF K mg "NothingDone" cN)
    (D_take : DfM C8.CX0 P w K mg base "_law_take" 2 (spTake K)) (D_pick : DfM C8.CX0 P w K mg base "_law_pick" 3 (spPick K)) (D_can : Dfn P w K mg base C "_law_can" 4 f_l_can) (D_behind : DfC P w K mg base C "_law_behind" 4 f_l_behind)
    (D_bar : DfM C8.CX0 P w K mg base "_law_is_barred" 7 (spBar K C)) (D_do : DmM (L2.CX P w) P w K mg base C.ct "do" 6 (spDo K C cB)) (D_undo : DmM (L2.CX P w) P w K mg base C.ct "undo" 1 (spUndo K C cN)) :
    ∃ fd, Binds K fd ["_law_draw", "_law_table", "_law_parts_here", "_law_here", "_law_floor"] [] ∧ FnOk P w K mg base C8.CX0 8 f fd ["_law_draw", "_law_table", "_law_parts_here", "_law_here", "_law_floor"] (spStep K C) := by
  refine fd_M F s_step (fun _ _ _ _ _ _ us hl => match us, hl with | [_, _, _, _, _], _ => rfl) (fun vs H Q E ⟨_, _, _, _, _, _, _, _, _, _, _, _, _, e, _⟩ => by rw [e]; rfl) fun cdv A outer s H vs Q E hr h => ?_
  have hh : RoomH 7 (A.deeper (envOfC "_law_step_right" (defScope (top 64)) s.heap.objs.size f cdv)) := ⟨hr.dp, hr.un⟩
  refine ⟨_, PSs.nox (pss_cons (ps_parW (i := 5) (j := 6) (.inl rfl) s_step.nd rfl rfl (by decide) rfl rfl (pa_cons (m_call D_take hr C8.pass0 (E := fun _ _ _ => False) (pa_cons (vv 0) (pa_cons pe_int pa_nil))) (pa_cons (m_call D_can.m hr C8.pass0 (E := fun _ _ _ => False) (pa_cons (vv 2) (pa_cons (pe_ix ix_list (vv 3) pe_int (fun _ _ => rfl)) pa_nil))) pa_nil)) (by with_unfolding_all rfl))
    (pss_cons (ps_if (pt_cmp (pc_eqI (vv 5) pe_int))
      (pss_cons (ps_if (pt_cmp (pc_le (pe_callB call_len_seq (by rfl) T.f_len b_len (pa_cons (pe_ix ix_list (vv 3) pe_int (fun _ _ => rfl)) pa_nil)) (vv 4)))
          (pss_one (ps_try_only rfl rfl ⟨rfl, by decide, .inl BN.g⟩ takes0 (fun W pn xe tk _ => pss_one (ps_ret (pe_cmp (pc_isN (m_meth0 D_undo hr (fun σ => passAt tk σ) (vv 1)))))) (fun a oe cls d pn _ _ => pss_one (ps_ret pe_bl)))) pss_nil)
      (pss_cons (ps_asg (pe_bm0 PySem.F.plainAttrs_list PySem.F.slot_list_pop PySem.F.type_list_pop mt_pop (pe_ix ix_list (vv 3) pe_int (fun _ _ => rfl))) (pg_sub (vv 3) pe_int set_list))
      (pss_one (ps_ret (pe_cmpR (op_eqD (hu2_ofH hh)) (m_meth0 D_undo hr (E := fun _ _ _ _ => False) passAtF (vv 1)) (pe_bm0 PySem.F.plainAttrs_list PySem.F.slot_list_pop PySem.F.type_list_pop mt_pop (pe_ix ix_list (vv 3) pe_int (fun _ _ => rfl))) (nomark _)))))) pss_nil)
    (pss_cons (ps_if (pt_cmp (pc_eqI (vv 5) pe_int))
      (pss_cons (ps_asg (m_pick (C := C) D_pick hr (i_lst (ia_cons i_str (ia_cons (i_tup (ia_cons i_str (ia_cons i_int ia_nil))) (ia_cons (i_tup (ia_cons i_str (ia_cons i_int ia_nil))) (ia_cons (i_tup (ia_cons i_str (ia_cons i_int ia_nil))) (ia_cons (i_tup (ia_cons i_str (ia_cons i_int ia_nil))) (ia_cons i_str (ia_cons i_str ia_nil)))))))) (vv 0)) (pg_name (i := 7) s_step.nd rfl (by first | exact .inl rfl | exact .inr rfl)))
      (pss_cons (ps_if (pw_or (pt_not (pt_val (m_call D_bar hr C8.pass0 (E := fun _ _ _ => False) (pa_cons (vv 1) (pa_cons (i_tup (C := C) (ia_cons i_str (ia_cons i_bl ia_nil))) pa_nil))))) (pw_or1 (pt_not (pt_val (m_call D_bar hr C8.pass0 (E := fun _ _ _ => False) (pa_cons (vv 1) (pa_cons (i_tup (C := C) (ia_cons i_str (ia_cons i_bl ia_nil))) pa_nil))))))).pt pss_never pss_nil)
      (pss_one (ps_ret (pe_or (pe_cmpR (op_inA (hu_ofH hh)) (vv 7) (vv 6) (by with_unfolding_all rfl)) (pe_one (m_call D_bar hr C8.pass0 (E := fun _ _ _ => False) (pa_cons (vv 1) (pa_cons (vv 7) pa_nil))))))))) pss_nil)
    (pss_cons (ps_asg (m_call D_pick hr C8.pass0 (E := fun _ _ _ => False) (pa_cons (vv 0) (pa_cons (vv 6) pa_nil))) (pg_name (i := 8) s_step.nd rfl (by first | exact .inl rfl | exact .inr rfl)))
    (pss_cons (ps_asg (m_call D_behind.m hr C8.pass0 (E := fun _ _ _ => False) (pa_cons (vv 2) (pa_cons (pe_ix ix_list (vv 3) pe_int (fun _ _ => rfl)) (pa_cons (vv 8) pa_nil)))) (pg_name (i := 9) s_step.nd rfl (by first | exact .inl rfl | exact .inr rfl)))
    (pss_cons (ps_expr (pe_bm PySem.F.plainAttrs_list PySem.F.slot_list_append PySem.F.type_list_append mt_append (pe_ix ix_list (vv 3) pe_int (fun _ _ => rfl)) (pa_cons (pe_ix ix_list (vv 3) pe_int (fun _ _ => rfl)) pa_nil)) rfl)
    (pss_cons (ps_expr (pe_bm PySem.F.plainAttrs_list PySem.F.slot_list_append PySem.F.type_list_append mt_append (pe_ix ix_list (vv 3) pe_int (fun _ _ => rfl)) (pa_cons (vv 8) pa_nil)) rfl)
    (pss_cons (ps_asg (vv 9) (pg_sub (vv 3) pe_int set_list))
    (pss_one (ps_ret (pe_cmpR (op_eqD (hu2_ofH hh)) (m_meth D_do hr (E := fun _ _ _ _ => False) passAtF (vv 1) (pa_cons (vv 8) pa_nil)) (vv 9) (nomark _)))))))))))), ?_⟩
  obtain ⟨F, p, t, h, n, o, k, P, sts, notes, olds, fl, pv, rfl, e, W, rp, vd, k0, k3, hn, fl0, fln, q⟩ := h
  obtain ⟨s1, r, rfl⟩ := List.exists_cons_of_ne_nil vd.ne
  obtain ⟨npt, nph, npn, npo, nth, ntn, nto, nhn, nho, nno⟩ := nes_of W.nd
  have hr2 : r.length ≤ 2 := by have := vd.le; rw [List.length_cons] at this; omega
  have lno := vd.ln
  refine ⟨_, rfl, F, p, k, 8, rfl, e, W.dr, k0, by omega, by omega, fun kd F1 H1 kd0 kd8 g1 d1 => ?_⟩
  have W1 := W.draw g1 d1
  have G1 : Gr (Mx p t h n o) F H F1 H1 := g1.wide fun _ z => .inl z
  obtain ⟨sv, nvs, ovs, fh1, hh1, fn1, hn1, fo1, ho1, rs1, rn1, ro1⟩ := W1.hr.ex
  refine ⟨_, rfl, _, rfl, h, _, 0, sv, rfl, rfl, SqL.of hh1, rfl, F1, _, _, g1.b, .cons (show Rd1 K C F1 pv (.d (eP P)) from rp.mono g1.a) (.cons (show Rd1 K C F1 sv (.d _) from rs1) .nil), LNm.l_can_eq vd.ok s1 r (by omega), fun cv H2 F2 f2 r2 => ?_⟩
  have W2 := W1.fr f2
  have G2 : Gr (Mx p t h n o) F H F2 H2 := G1.trW W1 f2.gr
  obtain ⟨fh2, hh2⟩ := f2.c _ _ fh1 hh1
  obtain ⟨fn2, hn2⟩ := f2.c _ _ fn1 hn1
  obtain ⟨fo2, ho2⟩ := f2.c _ _ fo1 ho1
  have rs2 := rs1.mono f2.a
  have rn2 := rn1.mono f2.a
  have ro2 := ro1.mono f2.a
  have lnv := rn2.length
  have lov := ro2.length
  rw [List.length_map] at lnv lov
  have ex2 := f2.b
  clear rs1 rn1 ro1 hh1 hn1 ho1 fh1 fn1 fo1
  refine ⟨_, _, rfl, _, rfl, kd, 0, rfl, rfl, _, rfl, ?_⟩
  refine split_if (fun z0 => ?_) fun z0 => ?_
  · have z0 : kd = 0 := of_decide_eq_true z0
    refine ⟨_, rfl, h, _, 1, _, rfl, rfl, SqL.of hh2, rfl, n, nvs, rfl, .inl (SqL.of hn2), _, rfl, (nvs.length : Int), fl, rfl, rfl, _, rfl, ?_⟩
    refine split_if (fun zl => ?_) fun zl => ?_
    · have zl : (nvs.length : Int) ≤ fl := of_decide_eq_true zl
      obtain ⟨dx, wv, kv, ft, ht, _, _⟩ := W2.tb.ex
      refine ⟨_, rfl, t, dx, _, rfl, ht, rfl, F2, t, P, _, notes, olds, fl, rfl, ex2, W2.tb, by omega, by omega, .inl ⟨by rw [← lnv]; exact zl, true, BN.me, fun _ a ha => ?_, fun z => Bool.noConfusion z⟩⟩
      exact q F2 H2 (k + 1) _ notes olds G2 W2 vd (by omega) (by omega) (by omega) fln
    · have zl : ¬ (nvs.length : Int) ≤ fl := of_decide_eq_false zl
      show tSeq _ _ _ _ _
      -- the last of both
      obtain ⟨ns, d, en⟩ : ∃ ns d, notes = ns ++ [d] := by
        rcases List.eq_nil_or_concat notes with z | ⟨a, b, z⟩
        · rw [z] at lnv; simp at lnv; rw [lnv] at zl; simp at zl; omega
        · exact ⟨a, b, by rw [z]; simp⟩
      obtain ⟨os, oo, eo⟩ : ∃ os oo, olds = os ++ [oo] := by
        rcases List.eq_nil_or_concat olds with z | ⟨a, b, z⟩
        · rw [z, en] at lno; simp at lno
        · exact ⟨a, b, by rw [z]; simp⟩
      subst en eo
      rw [List.map_append] at rn2 ro2
      obtain ⟨ys, v, rfl, ry, rv⟩ := drall_snoc rn2
      obtain ⟨zs, u, rfl, rz, ru⟩ := drall_snoc ro2
      refine ⟨_, rfl, h, _, 2, _, rfl, rfl, SqL.of hh2, rfl, .inl ⟨rfl, _, SqL.of ho2⟩, o, _, u, rfl, rfl, ho2, by simp, ?_⟩
      rw [List.dropLast_concat]
      have hh3 : upd H2 o (.lst zs) h = some (.lst [sv, .ref n, .ref o]) := (upd_ne nho).trans hh2
      refine ⟨_, rfl, h, _, 0, 0, rfl, rfl, hh3, rfl, ?_⟩
      have tb4 : Tb K C F2 (upd (upd H2 o (.lst zs)) h (.lst ([sv, .ref n, .ref o].set 0 u))) t P (s1 :: r) (ns ++ [d]) (os ++ [oo]) fl := (W2.tb.upd nto).upd nth
      have G4 : Gr (Mx p t h n o) F H F2 (upd (upd H2 o (.lst zs)) h (.lst ([sv, .ref n, .ref o].set 0 u))) := (G2.more fo2 (.inr (.inr (.inr (.inr rfl))))).more fh2 (.inr (.inr (.inl rfl)))
      have dr4 : Drw K F2 (upd (upd H2 o (.lst zs)) h (.lst ([sv, .ref n, .ref o].set 0 u))) p (k + 1) := (W2.dr.upd npo).upd nph
      have hh4 : upd (upd H2 o (.lst zs)) h (.lst ([sv, .ref n, .ref o].set 0 u)) h = some (.lst [u, .ref n, .ref o]) := upd_same
      have hn4 : upd (upd H2 o (.lst zs)) h (.lst ([sv, .ref n, .ref o].set 0 u)) n = some (.lst (ys ++ [v])) := by rw [upd_ne (Ne.symm nhn), upd_ne nno]; exact hn2
      have ho4 : upd (upd H2 o (.lst zs)) h (.lst ([sv, .ref n, .ref o].set 0 u)) o = some (.lst zs) := by rw [upd_ne (Ne.symm nho), upd_same]
      generalize upd (upd H2 o (.lst zs)) h (.lst ([sv, .ref n, .ref o].set 0 u)) = H4 at tb4 G4 dr4 hh4 hn4 ho4
      obtain ⟨dx, wv, kv, ft4, ht4, _, _⟩ := tb4.ex
      refine ⟨_, rfl, t, dx, _, rfl, ht4, rfl, F2, t, P, _, _, _, fl, rfl, G4.b, tb4, by omega, by omega, .inr ⟨by rw [← lnv]; omega, ns, d, os, oo, rfl, rfl, fun u' F5 H5 g5 tb5 r5 => ?_⟩⟩
      obtain ⟨fh5, hh5⟩ := g5.c _ _ fh2 hh4
      obtain ⟨fn5, hn5⟩ := g5.c _ _ fn2 hn4
      obtain ⟨fo5, ho5⟩ := g5.c _ _ fo2 ho4
      have hh5 := hh5 (Ne.symm nth)
      have hn5 := hn5 (Ne.symm ntn)
      have ho5 := ho5 (Ne.symm nto)
      have W4 : ∀ q, Mx p t h n o q → (H4 q).isSome := by
        intro q m
        rcases m with rfl | rfl | rfl | rfl | rfl
        · exact dr4.isSome
        · exact tb4.isSome
        · rw [hh4]; rfl
        · rw [hn4]; rfl
        · rw [ho4]; rfl
      have G5 : Gr (Mx p t h n o) F H F5 H5 := G4.tr (g5.wide fun _ z => .inr (.inl z)) fun q m _ _ => W4 q m
      refine ⟨_, rfl, h, _, 1, _, rfl, rfl, SqL.of hh5, rfl, .inl ⟨rfl, _, SqL.of hn5⟩, n, _, v, rfl, rfl, hn5, by simp, ?_⟩
      rw [List.dropLast_concat]
      have G6 : Gr (Mx p t h n o) F H F5 (upd H5 n (.lst ys)) := G5.more fn5 (.inr (.inr (.inr (.inl rfl))))
      obtain ⟨oal, one, ole⟩ := vd.ol oo (by simp)
      refine go_eq (C := C) u' v F5 _ (.d (eD d)) (.d (eD d)) (.d (.bool true)) G6.b ?_ ?_ (geq_self (LNm.shp_D d) (by omega)) _ fun w H7 F7 f7 r7 => ?_
      · exact r5
      · exact rv.mono g5.a
      cases (show Dr K F7 w (.bool true) from r7)
      have W6 : Wl K C F5 (upd H5 n (.lst ys)) p t h n o (k + 1) P oo ns os fl := by
        refine ⟨(dr4.gr g5 npt).upd npn, tb5.upd ntn, ⟨u, ys, zs, fh5, (upd_ne nhn).trans hh5, fn5, upd_same, fo5, (upd_ne (Ne.symm nno)).trans ho5, ru.mono g5.a, ry.mono g5.a, rz.mono g5.a⟩, W.nd⟩
      refine q F7 H7 (k + 1) oo ns os (G6.trW W6 f7.gr) (W6.fr f7) ?_ (by omega) (by omega) ?_ ?_
      · exact ⟨vd.ok, oal, one, ole, fun s hs => vd.ol s (List.mem_append_left _ hs), by have := lno; simp at this; exact this⟩
      · rw [List.length_append, List.length_singleton]; omega
      · simp only [List.length_append, List.length_singleton] at lnv zl; omega
  · show tSeq _ _ _ _ _
    have al := vd.al
    have bar : ∀ (dd : PyData), f_can_do [.whl (eW P), .d (oT (s1 :: r)), .d dd] = some (.d (.bool false)) → ∀ F3 H3 k3, Wl K C F3 H3 p t h n o k3 P (s1 :: r) notes olds fl → Ex F3 H3 → ∀ v, Dr K F3 v dd → ∀ (Q : VK) (E : XK), (∀ F' H', Fr F3 H3 F' H' → Q (.bl true) H') → spBar K C [.ref t, v] H3 Q E :=
      fun dd hf F3 H3 k3 W3 e3 v rv Q E hq => ⟨F3, t, v, dd, P, s1, r, notes, olds, fl, rfl, e3, rv, W3.tb, vd.ok, al, by omega, by omega, by omega, hf, hq⟩
    have hr2' : Dr K F2 cv (.list ((canD P (s1 :: r)).map eD)) := by
      have := r2; rw [LNm.canM_D] at this; exact this
    refine ⟨_, rfl, kd, 1, rfl, rfl, _, rfl, ?_⟩
    refine split_if (fun z1 => ?_) fun z1 => ?_
    · -- an odd deed
      have s2 : DS K F2 H2 F2 H2 p (k + 1) := ⟨Gr.refl ex2, W2.dr⟩
      refine pick_go (ρ := [none, none, none, none, none, none, none, none, none, none]) (.skip (.skip (.skip (.skip (.skip (.skip (.skip (.skip (.skip (.skip .nil)))))))))) rfl s2 (by omega) (by omega) (ds := [Dd.all .write, .one .tick 0, .one .write 3, .one .write 0, .one .strike 1, .all .close, .all .op].map eD) rfl (by simp) fun d3 u3 F3 H3 m3 r3 e3 s3 => ?_
      obtain ⟨odd, _, rfl⟩ := List.mem_map.mp m3
      have W3 := W2.draw s3.gr s3.dr
      have G3 : Gr (Mx p t h n o) F H F3 H3 := G2.trW W2 (s3.gr.wide fun _ z => .inl z)
      dsimp only [gName, List.set_cons_succ, List.set_cons_zero]
      refine ⟨_, rfl, tI_of (ρ := [none, none, none, none, none, none, none, none, none, none]) s3.gr.b (.skip (.skip (.skip (.skip (.skip (.skip (.skip (.skip (.skip (.skip .nil)))))))))) (dv := .d (.tuple [.str "strike", .bool true])) rfl fun v4 H4 F4 f4 r4 => ?_⟩
      have W4 := W3.fr f4
      dsimp only [tNil]
      refine bar _ (LNm.f_can_do_bool _ .strike true) F4 H4 _ W4 f4.b v4 r4 _ _ fun F5 H5 f5 => ⟨true, rfl, ?_⟩
      refine split_if (fun z => Bool.noConfusion z) fun _ => ?_
      have W5 := W4.fr f5
      refine ⟨_, rfl, tI_of (ρ := [none, none, none, none, none, none, none, none, none, none]) f5.b (.skip (.skip (.skip (.skip (.skip (.skip (.skip (.skip (.skip (.skip .nil)))))))))) (dv := .d (.tuple [.str "write", .bool false])) rfl fun v6 H6 F6 f6 r6 => ?_⟩
      have W6 := W5.fr f6
      dsimp only [tNil]
      refine bar _ (LNm.f_can_do_bool _ .write false) F6 H6 _ W6 f6.b v6 r6 _ _ fun F7 H7 f7 => ⟨true, rfl, ?_⟩
      have W7 := W6.fr f7
      have f37 := f4.tr (f5.tr (f6.tr f7))
      have G7 : Gr (Mx p t h n o) F H F7 H7 := G3.trW W3 f37.gr
      refine split_if (fun z => Bool.noConfusion z) fun _ => ?_
      refine ⟨_, rfl, _, rfl, go_in (C := C) _ _ F7 _ (.d (eD odd)) (.d (.list ((canD P (s1 :: r)).map eD))) (.d (.bool (decide (odd ∈ canD P (s1 :: r))))) f7.b ?_ ?_ (LNm.gin_d _ _) _ fun w H8 F8 f8 r8 => ?_⟩
      · exact Dr.mono f37.a r3
      · exact Dr.mono (e3.trans f37.a) hr2'
      cases (show Dr K F8 w (.bool (decide (odd ∈ canD P (s1 :: r)))) from r8)
      have W8 := W7.fr f8
      have G8 := G7.trW W7 f8.gr
      refine ⟨_, rfl, split_if (fun _ => ?_) fun z => ?_⟩
      · exact q F8 H8 (k + 1 + 1) _ notes olds G8 W8 vd (by omega) (by omega) (by omega) fln
      · have hcd := LNm.f_can_do_eq (P := P) s1 r (by omega) odd
        rw [z] at hcd
        refine ⟨_, rfl, _, rfl, ?_⟩
        dsimp only [tNil]
        refine bar _ hcd F8 H8 _ W8 f8.b _ (Dr.mono (f37.a.trans f8.a) r3) _ _ fun F9 H9 f9 => ?_
        exact q F9 H9 (k + 1 + 1) _ notes olds (G8.trW W8 f9.gr) (W8.fr f9) vd (by omega) (by omega) (by omega) fln
    · -- a deed that can be done
      show tSeq _ _ _ _ _
      have cne : (canD P (s1 :: r)).map eD ≠ [] := by
        have : Dd.all .pass ∈ canD P (s1 :: r) := by
          unfold canD
          refine List.mem_append_right _ (List.mem_map.mpr ⟨.pass, ?_, rfl⟩)
          rw [List.mem_filter]
          exact ⟨by simp, by rw [LNm.hasw_iff]⟩
        intro z
        have m := List.mem_map_of_mem (f := eD) this
        rw [z] at m
        cases m
      refine ⟨_, rfl, _, rfl, F2, p, k + 1, cv, _, rfl, ex2, W2.dr, by omega, by omega, hr2', cne, fun d3 u3 F3 H3 m3 r3 g3 d3' => ?_⟩
      obtain ⟨d, hd, rfl⟩ := List.mem_map.mp m3
      have W3 := W2.draw g3 d3'
      have G3 : Gr (Mx p t h n o) F H F3 H3 := G2.trW W2 (g3.wide fun _ z => .inl z)
      obtain ⟨fh3, hh3⟩ := g3.c _ _ fh2 hh2
      obtain ⟨fn3, hn3⟩ := g3.c _ _ fn2 hn2
      obtain ⟨fo3, ho3⟩ := g3.c _ _ fo2 ho2
      have hh3 := hh3 (Ne.symm nph)
      have hn3 := hn3 (Ne.symm npn)
      have ho3 := ho3 (Ne.symm npo)
      refine ⟨_, rfl, _, rfl, h, _, 0, sv, rfl, rfl, SqL.of hh3, rfl, _, rfl, F3, _, _, g3.b, .cons (show Rd1 K C F3 pv (.d (eP P)) from rp.mono (G3.a)) (.cons (show Rd1 K C F3 sv (.d _) from rs2.mono g3.a) (.cons (show Rd1 K C F3 u3 (.d _) from r3) .nil)), LNm.l_behind_eq vd.ok al (by rw [List.length_cons]; omega) hd, fun lv H4 F4 f4 r4 => ?_⟩
      have r4 : Dr K F4 lv (oL (behindM P (s1 :: r) d)) := r4
      have W4 := W3.fr f4
      have G4 := G3.trW W3 f4.gr
      obtain ⟨fh4, hh4⟩ := f4.c _ _ fh3 hh3
      obtain ⟨fn4, hn4⟩ := f4.c _ _ fn3 hn3
      obtain ⟨fo4, ho4⟩ := f4.c _ _ fo3 ho3
      have a24 := g3.a.trans f4.a
      dsimp only [gName, List.set_cons_succ, List.set_cons_zero]
      refine ⟨_, rfl, h, _, 2, _, rfl, rfl, SqL.of hh4, rfl, .inl ⟨rfl, _, SqL.of ho4⟩, _, rfl, h, _, 0, sv, rfl, rfl, SqL.of hh4, rfl, o, ovs, sv, rfl, rfl, ho4, by rw [sizeLine_eq]; omega, ?_⟩
      have hh5 : upd H4 o (.lst (ovs ++ [sv])) h = some (.lst [sv, .ref n, .ref o]) := (upd_ne nho).trans hh4
      have hn5 : upd H4 o (.lst (ovs ++ [sv])) n = some (.lst nvs) := (upd_ne nno).trans hn4
      refine ⟨_, rfl, h, _, 1, _, rfl, rfl, SqL.of hh5, rfl, .inl ⟨rfl, _, SqL.of hn5⟩, _, rfl, n, nvs, u3, rfl, rfl, hn5, by rw [sizeLine_eq]; omega, ?_⟩
      have hh6 : upd (upd H4 o (.lst (ovs ++ [sv]))) n (.lst (nvs ++ [u3])) h = some (.lst [sv, .ref n, .ref o]) := (upd_ne nhn).trans hh5
      refine ⟨_, rfl, _, rfl, h, _, 0, 0, rfl, rfl, hh6, rfl, ?_⟩
      have G7 : Gr (Mx p t h n o) F H F4 (upd (upd (upd H4 o (.lst (ovs ++ [sv]))) n (.lst (nvs ++ [u3]))) h (.lst ([sv, .ref n, .ref o].set 0 lv))) :=
        ((G4.more fo4 (.inr (.inr (.inr (.inr rfl))))).more fn4 (.inr (.inr (.inr (.inl rfl))))).more fh4 (.inr (.inr (.inl rfl)))
      have tb7 : Tb K C F4 (upd (upd (upd H4 o (.lst (ovs ++ [sv]))) n (.lst (nvs ++ [u3]))) h (.lst ([sv, .ref n, .ref o].set 0 lv))) t P (s1 :: r) notes olds fl := ((W4.tb.upd nto).upd ntn).upd nth
      have dr7 : Drw K F4 (upd (upd (upd H4 o (.lst (ovs ++ [sv]))) n (.lst (nvs ++ [u3]))) h (.lst ([sv, .ref n, .ref o].set 0 lv))) p (k + 1 + 1) := ((W4.dr.upd npo).upd npn).upd nph
      have hh7 : upd (upd (upd H4 o (.lst (ovs ++ [sv]))) n (.lst (nvs ++ [u3]))) h (.lst ([sv, .ref n, .ref o].set 0 lv)) h = some (.lst [lv, .ref n, .ref o]) := upd_same
      have hn7 : upd (upd (upd H4 o (.lst (ovs ++ [sv]))) n (.lst (nvs ++ [u3]))) h (.lst ([sv, .ref n, .ref o].set 0 lv)) n = some (.lst (nvs ++ [u3])) := by rw [upd_ne (Ne.symm nhn), upd_same]
      have ho7 : upd (upd (upd H4 o (.lst (ovs ++ [sv]))) n (.lst (nvs ++ [u3]))) h (.lst ([sv, .ref n, .ref o].set 0 lv)) o = some (.lst (ovs ++ [sv])) := by rw [upd_ne (Ne.symm nho), upd_ne (Ne.symm nno), upd_same]
      generalize upd (upd (upd H4 o (.lst (ovs ++ [sv]))) n (.lst (nvs ++ [u3]))) h (.lst ([sv, .ref n, .ref o].set 0 lv)) = H7 at G7 tb7 dr7 hh7 hn7 ho7
      obtain ⟨dx, wv, kv, ft7, ht7, _, _⟩ := tb7.ex
      refine ⟨_, rfl, t, dx, _, rfl, ht7, rfl, _, rfl, F4, t, u3, eD d, P, s1, r, notes, olds, fl, rfl, G7.b, r3.mono f4.a, tb7, vd.ok, al, by omega, by omega, by omega, .inl ⟨d, rfl, hd, fun u F8 H8 g8 tb8 r8 => ?_⟩⟩
      obtain ⟨fh8, hh8⟩ := g8.c _ _ fh4 hh7
      obtain ⟨fn8, hn8⟩ := g8.c _ _ fn4 hn7
      obtain ⟨fo8, ho8⟩ := g8.c _ _ fo4 ho7
      have hh8 := hh8 (Ne.symm nth)
      have hn8 := hn8 (Ne.symm ntn)
      have ho8 := ho8 (Ne.symm nto)
      have W7 : ∀ q, Mx p t h n o q → (H7 q).isSome := by
        intro q m
        rcases m with rfl | rfl | rfl | rfl | rfl
        · exact dr7.isSome
        · exact tb7.isSome
        · rw [hh7]; rfl
        · rw [hn7]; rfl
        · rw [ho7]; rfl
      have G8 : Gr (Mx p t h n o) F H F8 H8 := G7.tr (g8.wide fun _ z => .inr (.inl z)) fun q m _ _ => W7 q m
      have W8 : Wl K C F8 H8 p t h n o (k + 1 + 1) P (behindM P (s1 :: r) d) (notes ++ [d]) (olds ++ [s1 :: r]) fl := by
        refine ⟨dr7.gr g8 npt, tb8, ⟨lv, nvs ++ [u3], ovs ++ [sv], fh8, hh8, fn8, hn8, fo8, ho8, r4.mono g8.a, ?_, ?_⟩, W.nd⟩
        · rw [List.map_append]
          exact (rn2.mono (a24.trans g8.a)).app (.cons (r3.mono (f4.a.trans g8.a)) .nil)
        · rw [List.map_append]
          exact (ro2.mono (a24.trans g8.a)).app (.cons (rs2.mono (a24.trans g8.a)) .nil)
      refine ⟨_, rfl, go_eq (C := C) u lv F8 _ (.d (oL (behindM P (s1 :: r) d))) (.d (oL (behindM P (s1 :: r) d))) (.d (.bool true)) g8.b ?_ ?_ (geq_self (LNm.shp_list (LNm.shp_map LNm.shp_S)) (by omega)) _ fun w H9 F9 f9 r9 => ?_⟩
      · exact r8
      · exact r4.mono g8.a
      cases (show Dr K F9 w (.bool true) from r9)
      refine q F9 H9 (k + 1 + 1) _ _ _ (G8.trW W8 f9.gr) (W8.fr f9) ?_ (by omega) (by omega) (by rw [List.length_append, List.length_singleton]; omega) (by rw [List.length_append, List.length_singleton]; omega)
      refine ⟨vd.ok, LNm.al_behind al d fun w i z => ?_, fun z => ?_, by rw [LNm.behind_len]; exact vd.le, fun s hs => ?_, by rw [List.length_append, List.length_append, lno]; rfl⟩
      · subst z; exact (LNm.one_mem w i _ hd).1
      · have := LNm.behind_len (P := P) (s1 :: r) d
        rw [z] at this; simp at this
      · rcases List.mem_append.mp hs with hs | hs
        · exact vd.ol s hs
        · rw [List.mem_singleton.mp hs]; exact ⟨al, by simp, vd.le⟩
end LNn
set_option maxHeartbeats 4000000
/-! with around a raise, at the library's level. -/
namespace LNw
open PySem PySem.W PySem.Calls PyProof.Rows
variable {prog : Program} {w : World} {A : Around} {E : Value → Shared → Prop} {s : Shared} {env : Env} {K : Frag} {x C fe fx : Addr} {ox : Obj} {od : Option Obj} {pos : Pos}
theorem core_x {b : Value → Sem Unit} {bdy : Sem Flow} {Q : Flow → Shared → Prop} (X : K.In s.heap) (I : InstAt s.heap x ox C od) (he : findIn K (.ref C) "__enter__" = some (some (.ref fe))) (hfe : isFn K (.ref fe) = true) (hx : findIn K (.ref C) "__exit__" = some (some (.ref fx))) (hfx : isFn K (.ref fx) = true)
    (h : wpAny (model prog w) A (call (.ref fe) [.ref x]) (fun v s₂ => wpAny (model prog w) A (b v >>= fun _ => bdy) (fun f s₄ => wpAny (model prog w) A (call (.ref fx) [.ref x, .none, .none, .none]) (fun _ s₅ => Q f s₅) E s₄)
      (fun e s₄ => ∃ a : Addr, e = .ref a ∧ wpAny (model prog w) A (noteFrame e env) (fun _ s5 => wpAny (model prog w) A (setFlight e none) (fun _ s6 => wpAny (model prog w) A (typeOf e) (fun c s7 => wpAny (model prog w) A (tracebackOf e) (fun tb s8 =>
        codeAny (model prog w) (A.mark (some e)) (.call (.ref fx) ⟨[.ref x, c, e, tb], []⟩) (fun r s9 => match r with
          | .ok (.ret v) => v = .bool false ∧ wpAny (model prog w) A (passOn "with" e env) Q E s9
          | _ => False) s8) E s7) E s6) E s5) E s₄) s₂) E s) :
    wpAny (model prog w) A (withItem false pos env (pure (.ref x)) (some b) bdy) Q E s := by
  obtain ⟨cd, hcd, ae⟩ := kw_along he
  obtain ⟨cd', hcd', ax⟩ := kw_along hx
  cases hcd.symm.trans hcd'
  obtain ⟨hh, g, d, tt, os⟩ := s
  have L1 : Looks (model prog w) hh (specialOnItsLine (.ref x) "__enter__") (some (.ref fe), cd.mro) := kw_special X I hcd ae
  have L2 : Looks (model prog w) hh (specialOnItsLine (.ref x) "__exit__") (some (.ref fx), cd.mro) := kw_special X I hcd ax
  have L3 : Looks (model prog w) hh (bindSpecial (.ref fe) (.ref x)) (.ref fe, [.ref x]) := bind_fn X _ (beq_iff_eq.mp hfe)
  have L4 : Looks (model prog w) hh (bindSpecial (.ref fx) (.ref x)) (.ref fx, [.ref x]) := bind_fn X _ (beq_iff_eq.mp hfx)
  have L5 : Looks (model prog w) hh (aMethodOfAnotherBuiltinTypeStops (.ref fe) cd.mro) () := Looks.of_pure rfl
  have L6 : Looks (model prog w) hh (aMethodOfAnotherBuiltinTypeStops (.ref fx) cd.mro) () := Looks.of_pure rfl
  unfold withItem
  refine wpAny_bind (wpAny_pure ?_)
  refine wpAny_bind (wpAny_standAt ?_)
  simp only [Bool.false_eq_true, if_false]
  kw_lk
  refine wpAny_mono h (fun v s₂ h₂ => ?_) fun _ _ z => z
  kw_lk
  refine wpAny_attempt (kw_held ?_)
  show wpAny _ _ (b v >>= fun _ => bdy) _ _ _
  refine wpAny_mono h₂ (fun f s₄ h₄ => ?_) fun e s₄ h₄ => ?_
  · kw_lk
    refine wpAny_mono h₄ (fun _ s₅ h₅ => ?_) fun _ _ z => z
    kw_lk
    exact h₅
  · obtain ⟨a, rfl, h₄⟩ := h₄
    refine wpAny_bind (wpAny_mono h₄ (fun _ s5 h5 => ?_) fun _ _ z => z)
    refine wpAny_bind (wpAny_mono h5 (fun _ s6 h6 => ?_) fun _ _ z => z)
    refine wpAny_bind (wpAny_standAt (wpAny_holding ?_))
    refine wpAny_bind (wpAny_mono h6 (fun c s7 h7 => ?_) fun _ _ z => z)
    refine wpAny_bind (wpAny_mono h7 (fun tb s8 h8 => ?_) fun _ _ z => z)
    refine wpAny_bind ?_
    unfold withItem.marked
    refine wpAny_bind (wpAny_run (codeAny_mono h8 fun r s9 h9 => ?_) (by intro z; cases z))
    cases r with
    | error e => exact h9.elim
    | ok f =>
      cases f with
      | ret v =>
        obtain ⟨rfl, h9⟩ := h9
        refine wpAny_pure ?_
        repeat (first | refine wpAny_bind (wpAny_pure ?_))
        exact h9
      | next => exact h9.elim
      | brk => exact h9.elim
      | cont => exact h9.elim
end LNw
set_option maxHeartbeats 4000000
/-! with m as y: .., m an own instance; what is raised within leaves behind __exit__ (which answers False). -/
namespace LNw
open PySem PySem.Spec PyProof.Rows L2 HotX L2H LNa LNb
/-- what is wished of an exception within: __exit__ runs, then Wout -/
def wWith (spX : Sp) (y : Addr) (Wout : WX) : WX := fun cls d σ H => ∃ vc, RelV vc cls ∧ ∀ ve vt, spX [.ref y, vc, ve, vt] H (fun v H' => v = .bl false ∧ Wout cls d σ H') (fun _ _ _ => False)
def endsX (spX : Sp) (y : Addr) (D : Ends) : Ends := { nx := fun σ' H' => spX [.ref y, .non, .non, .non] H' (fun _ H'' => D.nx σ' H'') (fun _ _ _ => False), rt := fun _ _ => False, bk := fun _ _ => False, ct := fun _ _ => False }
/-- the parts of the manager's class -/
structure Mgr (P : Program) (w : World) (K : PySem.W.Frag) (mg : Str → Option Value) (base : Heap) (c3 : Addr) (k : Nat) (spE spX : Sp) : Prop where
  ex : ∃ fe fx fde fdx p4, PySem.W.findIn K (.ref c3) "__enter__" = some (some (.ref fe)) ∧ PySem.W.isFn K (.ref fe) = true ∧ PySem.W.findIn K (.ref c3) "__exit__" = some (some (.ref fx)) ∧ PySem.W.isFn K (.ref fx) = true ∧
    Binds K fde ["self"] [] ∧ FnOk P w K mg base C8.CX0 k fe fde ["self"] spE ∧ Binds K fdx p4 [] ∧ FnW P w K mg base C8.CX0 k fx fdx p4 spX
section
variable {X : Cx} {c3 : Addr} {k i : Nat} {spE spX : Sp} {Wout : WX} {fx : Addr} {fdx : FuncData} {p4 : List Str}
/-- an exception of the body meets the with -/
theorem with_exc {pins : List (Addr × Obj)} {D : Ends} {u : Value} {s' : Shared} {y : Addr} {xe : Value → Shared → Prop} (hs : X.stack = X.env :: X.outer) (hf : X.env.frame = some X.env.locals) (hex : X.ex = []) (ok : X.Ok) (tk : L2N.Takes X Wout) (hr : RoomH k X.A)
    (bx : Binds X.K fdx p4 []) (Fx : FnW X.prog X.w X.K X.mg X.base C8.CX0 k fx fdx p4 spX) (xx : L2N.XE (X.tr (X.pn ++ pins) xe) (wWith spX y Wout) u s') :
    ∃ a : Addr, u = .ref a ∧ wpAny (model X.prog X.w) X.A (noteFrame u X.env) (fun _ s5 => wpAny (model X.prog X.w) X.A (setFlight u none) (fun _ s6 => wpAny (model X.prog X.w) X.A (typeOf u) (fun c s7 => wpAny (model X.prog X.w) X.A (tracebackOf u) (fun tb s8 =>
        codeAny (model X.prog X.w) (X.A.mark (some u)) (.call (.ref fx) ⟨[.ref y, c, u, tb], []⟩) (fun r s9 => match r with
          | .ok (.ret v) => v = .bool false ∧ wpAny (model X.prog X.w) X.A (passOn "with" u X.env : Sem Flow) (SP X pins D) X.xe s9
          | _ => False) s8) X.xe s7) X.xe s6) X.xe s5) X.xe s' := by
  have hfr : X.A.frames = some (X.env :: X.outer) := by rw [ok.frames, hs]
  obtain ⟨a, B, sI, pins', σ', H', cls, d, rfl, J', nb, up, sky, na, os, ag, vc, rvc, hw⟩ := xx
  refine ⟨a, rfl, ?_⟩
  have J : Inv X pins σ' H' sI := J'.ofTry ok
  have sky' : Sky B (X.env :: X.outer) a (L2N.Zn cls d) X.env.locals s'.heap := by rw [← hs]; exact sky
  refine L2N.Sky.land L2N.Zn.steady hfr hf sky' fun h3 fl3 up3 => ?_
  have J3 : Inv X pins σ' H' { s' with heap := h3 } := J.landed nb fl3.1 (up.trans up3) os ag
  obtain ⟨k1, k2, k3, oe, vs, T, oT, ts, he3, hz, hd, hv1, hnT, hTe, hT, hdT, ht3⟩ := id fl3
  have nT : H' T = none := (J.inGround nb).gone hnT
  have notFr : ∀ (b : Addr) (o : Obj) (fv : Array Value), h3.get? b = some o → o.data = .fields fv → b ∉ frs (X.env :: X.outer) := fun b o fv e dd hm => by
    obtain ⟨_, o', e', hnf⟩ := k3.mem hm
    have eo : o = o' := Option.some.inj (e.symm.trans e')
    rw [← eo] at hnf
    exact hnf _ dd
  have locF : X.env.locals ∈ frs (X.env :: X.outer) := List.mem_filterMap.mpr ⟨X.env, List.mem_cons_self, hf⟩
  have fsF : ∀ b, b ∈ X.fs → b ∈ frs (X.env :: X.outer) := fun b hm => by
    obtain ⟨e, he, q⟩ := List.mem_filterMap.mp hm
    exact List.mem_filterMap.mpr ⟨e, List.mem_cons_of_mem _ he, q⟩
  have fa := notFr a oe vs he3 hd
  have fT := notFr T oT ts hT hdT
  have S3 : Inv (X.suite a ((a, oe) :: (T, oT) :: (X.pn ++ pins))) [] σ' H' { s' with heap := h3 } :=
    ⟨J3.ok.suite _ _, J3.os, J3.bare, J3.base, J3.loc, J3.cell, J3.free, J3.freeC, fun p hp => by
      rw [List.append_nil] at hp
      rcases List.mem_cons.mp hp with z | hp
      · rw [z]
        exact ⟨he3, na, fun z2 => fa (by rw [show a = X.env.locals from z2]; exact locF), fun z2 => fa (fsF _ z2), fun v z2 => by
          have z3 : oe.data = .cell v := z2
          rw [hd] at z3
          cases z3⟩
      · rcases List.mem_cons.mp hp with z | hp
        · rw [z]
          exact ⟨hT, nT, fun z2 => fT (by rw [show T = X.env.locals from z2]; exact locF), fun z2 => fT (fsF _ z2), fun v z2 => by
            have z3 : oT.data = .cell v := z2
            rw [hdT] at z3
            cases z3⟩
        · exact J3.pin p hp, J3.hok, J3.len⟩
  have cc : oe.cls = cls := hz.1
  refine wpAny_typeOf_ref he3 ?_
  rw [cc]
  -- the traceback, in both its forms
  have go : ∀ (vt : V) (tb : Value), RelV vt tb → codeAny (model X.prog X.w) (X.A.mark (some (.ref a))) (.call (.ref fx) ⟨[.ref y, cls, .ref a, tb], []⟩) (fun r s9 => match r with
      | .ok (.ret v) => v = .bool false ∧ wpAny (model X.prog X.w) X.A (passOn "with" (.ref a) X.env : Sem Flow) (SP X pins D) X.xe s9
      | _ => False) { s' with heap := h3 } := by
    intro vt tb rvt
    have hq := hw (.ref a) vt
    have r4 : Vals [.ref y, vc, .ref a, vt] [.ref y, cls, .ref a, tb] := .cons rfl (.cons rvc (.cons rfl (.cons rvt .nil)))
    have hl : ([Value.ref y, cls, .ref a, tb] ++ []).length = p4.length := by
      have := Fx.ok.len _ _ _ _ hq
      rw [← this]; rfl
    have bb := bx { s' with heap := h3 } [.ref y, cls, .ref a, tb] S3.kIn hl
    rw [List.append_nil] at bb
    have P1 := S3.pin (a, oe) (List.mem_append_left _ List.mem_cons_self)
    have hpin : PinOk X.stack H' { s' with heap := h3 } (a, oe) := ⟨P1.1, P1.2.1, fun hm => (List.mem_cons.mp (S3.stkSub a hm)).elim P1.2.2.1 P1.2.2.2.1, P1.2.2.2.2⟩
    have hot : Hot1 (X.A.mark (some (.ref a))) (a, oe) := ⟨rfl, vs, hd, hz.2.2 vs hd⟩
    refine codeAny_mono (Fx.hot.run (X.A.mark (some (.ref a))) X.stack { s' with heap := h3 } H' _ _ _ _ (fun _ _ _ => False) (a, oe) ⟨hr.dp, hr.un⟩ hot hpin S3.env0 bb r4 hq) fun r s6 hq' => ?_
    cases r with
    | error er => exact hq'.elim
    | ok fl =>
      cases fl with
      | next => exact hq'.elim
      | brk => exact hq'.elim
      | cont => exact hq'.elim
      | ret u =>
        obtain ⟨v6, H6, S6, rv6, rfl, q6⟩ := S3.after hq'
        obtain rfl : u = Value.bool false := rv6
        refine ⟨rfl, ?_⟩
        have J6 : Inv X pins σ' H6 s6 := ⟨ok, S6.os, S6.bare, S6.base, S6.loc, S6.cell, S6.free, S6.freeC, fun p hp => S6.pin p (List.mem_append_left _ (List.mem_cons_of_mem _ (List.mem_cons_of_mem _ hp))), S6.hok, S6.len⟩
        have pa := S6.pin (a, oe) (List.mem_append_left _ List.mem_cons_self)
        have pT := S6.pin (T, oT) (List.mem_append_left _ (List.mem_cons_of_mem _ List.mem_cons_self))
        have ga : s6.heap.get? a = some oe := pa.1
        have gT : s6.heap.get? T = some oT := pT.1
        have na6 : H6 a = none := pa.2.1
        have nT6 : H6 T = none := pT.2.1
        have far : ∀ b o, sI.heap.get? b = some o → b ≠ a ∧ b ≠ T := fun b o e => by
          by_cases hb : b ∈ frs X.stack
          · rw [hs] at hb
            exact ⟨fun z => fa (by rw [← z]; exact hb), fun z => fT (by rw [← z]; exact hb)⟩
          · have q := nb b o e hb
            exact ⟨fun z => by rw [z, k2] at q; exact (nomatch q), fun z => by rw [z, hnT] at q; cases q⟩
        have far0 : ∀ b o, X.s_0.heap.get? b = some o → b ≠ a ∧ b ≠ T := fun b o e => by
          obtain ⟨o', q⟩ := J.base.there b o e (by rw [hex]; simp)
          exact far b o' q
        have farP : ∀ p ∈ X.pn ++ pins, p.1 ≠ a ∧ p.1 ≠ T := fun p hp => far p.1 p.2 (J.pin p hp).1
        obtain ⟨G, g1, g2⟩ := restrict s6.heap fun b => !(decide (b = a) || decide (b = T))
        have gIn : ∀ b o, G.get? b = some o → s6.heap.get? b = some o ∧ b ≠ a ∧ b ≠ T := fun b o e => by
          cases q : (!(decide (b = a) || decide (b = T))) with
          | false => rw [g2 b q] at e; cases e
          | true =>
            rw [g1 b q] at e
            simp only [Bool.not_eq_true', Bool.or_eq_false_iff, decide_eq_false_iff_not] at q
            exact ⟨e, q.1, q.2⟩
        have gOf : ∀ b o, b ≠ a → b ≠ T → s6.heap.get? b = some o → G.get? b = some o := fun b o h1 h2 e => by
          rw [g1 b (by simp [h1, h2])]
          exact e
        have I6 : Inv X pins σ' H6 { s6 with heap := G } := Inv.less J6 (fun b o e => (gIn b o e).1) gOf ⟨oe, vs, ga, hd⟩ ⟨oT, ts, gT, hdT⟩ na6 nT6 far0 farP
        have B6in : ∀ b o, (PySem.W.hideAll G (frs X.stack)).get? b = some o → s6.heap.get? b = some o := fun b o e => (gIn b o (PySem.W.of_hideAll _ e)).1
        have Bno : ∀ b, (b = a ∨ b = T) → (PySem.W.hideAll G (frs X.stack)).get? b = none := fun b hb => by
          cases q : (PySem.W.hideAll G (frs X.stack)).get? b with
          | none => rfl
          | some o =>
            obtain ⟨_, n1, n2⟩ := gIn b o (PySem.W.of_hideAll _ q)
            rcases hb with z | z
            · exact absurd z n1
            · exact absurd z n2
        have fl6 : HandSPX.FlyingZ (PySem.W.hideAll G (frs X.stack)) (X.env :: X.outer) a (L2N.Zn cls d) s6.heap := by
          refine ⟨B6in, Bno a (.inl rfl), ?_, oe, vs, T, oT, ts, ga, hz, hd, hv1, Bno T (.inr rfl), hTe, gT, hdT, ht3⟩
          have ff := funFrames_none (B := PySem.W.hideAll G (frs X.stack)) J6.stack fun b hb => PySem.W.hideAll_none _ hb
          rw [← hs]
          exact ff
        unfold PySem.passOn
        refine wpAny_bind (wpAny_field ga hd hv1 ?_)
        rw [if_neg (show ¬ ((Value.ref T == Value.none) = true) from by simp)]
        have goOn : wpAny (model X.prog X.w) X.A (setFlight (.ref a) X.env.frame) (fun _ s7 => wpAny (model X.prog X.w) X.A (throw (.ref a) : Sem Flow) (SP X pins D) X.xe s7) X.xe s6 := by
          rw [hf]
          refine HandSPX.setFlight_upZ fl6 fun h7 hh7 up7 => wpAny_throw (tk _ _ ?_)
          refine ⟨a, PySem.W.hideAll G (frs X.stack), { s6 with heap := G }, pins, σ', H6, cls, d, rfl, I6, fun b o e hb => PySem.W.hideAll_get _ e hb, ?_, .inr (.inr (by rw [← hs] at hh7; exact hh7)), na6, rfl, J6.bare, q6⟩
          exact Heap.UpToSlots.trans (Heap.UpToSlots.of_keeps fun b o e => (gIn b o e).1) up7
        first
          | exact wpAny_bind (wpAny_pure (wpAny_bind goOn))
          | exact wpAny_bind goOn
  unfold tracebackOf
  refine wpAny_bind (wpAny_field he3 hd hv1 ?_)
  obtain ⟨t1, ht1⟩ : ∃ t1, ts[1]? = some t1 := by
    have := (Array.getElem?_eq_some_iff.mp ht3).1
    exact ⟨ts[1], Array.getElem?_eq_some_iff.mpr ⟨by omega, rfl⟩⟩
  refine wpAny_bind (wpAny_field hT hdT ht1 ?_)
  by_cases hn : (t1 == Value.none) = true
  · rw [if_pos hn]
    exact wpAny_pure (go .non .none rfl)
  · rw [if_neg hn]
    exact wpAny_pure (go (.ref T) (.ref T) rfl)
end
end LNw
set_option maxHeartbeats 4000000
/-! The rule for: with m as y: body. -/
namespace LNw
open PySem PySem.Spec PyProof.Rows L2 HotX L2H LNa LNb
def tWith (c3 : Addr) (i : Nat) (spE spX : Sp) (te : TE) (tb : WX → TS) (Wout : WX) : TS := fun D σ H => te σ H fun x H1 => ∃ y dx fs, x = .ref y ∧ H1 y = some (.ins c3 dx fs) ∧
  spE [.ref y] H1 (fun v H2 => tb (wWith spX y Wout) (endsX spX y D) (σ.set i (some v)) H2) (fun _ _ _ => False)
def xeW (X : Cx) (pins : List (Addr × Obj)) (D : Ends) (fx y : Addr) : Value → Shared → Prop := fun u s' =>
    ∃ a : Addr, u = .ref a ∧ wpAny (model X.prog X.w) X.A (noteFrame u X.env) (fun _ s5 => wpAny (model X.prog X.w) X.A (setFlight u none) (fun _ s6 => wpAny (model X.prog X.w) X.A (typeOf u) (fun c s7 => wpAny (model X.prog X.w) X.A (tracebackOf u) (fun tb s8 =>
        codeAny (model X.prog X.w) (X.A.mark (some u)) (.call (.ref fx) ⟨[.ref y, c, u, tb], []⟩) (fun r s9 => match r with
          | .ok (.ret v) => v = .bool false ∧ wpAny (model X.prog X.w) X.A (passOn "with" u X.env : Sem Flow) (SP X pins D) X.xe s9
          | _ => False) s8) X.xe s7) X.xe s6) X.xe s5) X.xe s'
section
variable {X : Cx} {c3 : Addr} {k j i : Nat} {spE spX : Sp} {Wout : WX} {ctx : Expr} {y : Str} {py pos : Pos} {body : List Stmt} {te : TE} {tb : WX → TS}
theorem ps_with (hs : X.stack = X.env :: X.outer) (hf : X.env.frame = some X.env.locals) (hex : X.ex = []) (tk : L2N.Takes X Wout) (M : Mgr X.prog X.w X.K X.mg X.base c3 k spE spX) (hr : Room j X.A) (hk : k ≤ j) (hctx : PE X ctx te)
    (hN : X.N.Nodup) (hi : X.N[i]? = some y) (hy : Loc X.env.scope y) (hv : X.fn y = true ∨ X.env.scope.names.lookup y = some .local)
    (hb : ∀ (W : WX) (pn : List (Addr × Obj)) (xe : Value → Shared → Prop), L2N.Takes (X.tr pn xe) W → PSs (X.tr pn xe) body (tb W)) :
    PS X (.With [⟨ctx, some (.Name y py)⟩] body pos) (tWith c3 i spE spX te tb Wout) := by
  refine ⟨fun pins s σ H D I h => ?_⟩
  have ok := I.ok
  obtain ⟨fe, fx, fde, fdx, p4, he, hfe, hx, hfx, be, Fe, bx, Fx⟩ := M.ex
  refine PySem.W.kw_execN (thn (hctx.run pins s σ H _ I h) fun u s1 ⟨x, H1, I1, r1, a, dx, fs, ex, ea, q⟩ => ?_)
  subst ex
  obtain rfl : u = Value.ref a := r1
  obtain ⟨mA, O, _, _, _, _⟩ := ins_get I1.hok ea
  obtain ⟨od, Mi, _⟩ := O.look
  refine core_x (b := assign (.Name y py) X.env) I1.kIn Mi he hfe hx hfx ?_
  refine thn (run_fn (us := [.ref a]) (vs := [.ref a]) Fe (hr.mono hk) be .nil (C8.pass0 (E := fun _ _ _ => False)) I1 (.cons rfl .nil) (Q := fun v H2 => tb (wWith spX a Wout) (endsX spX a D) (σ.set i (some v)) H2) (by rw [List.append_nil]; exact q)) fun v s2 ⟨vv, H2, I2, rv, q2⟩ => ?_
  refine wpAny_bind (wpAny_assign_Name (store_ok I2 hN hi hy rv (fun s3 I3 => ?_) hv))
  refine wpAny_mono ((hb (wWith spX a Wout) (X.pn ++ pins) (xeW X pins D fx a) (fun u s' xx => with_exc hs hf hex ok tk ⟨(hr.mono hk).dp, (hr.mono hk).un⟩ bx Fx xx)).run [] s3 _ H2 (endsX spX a D) (I3.toTry _) q2) (fun f s4 hsp => ?_) (fun e s4 xx => xx)
  cases f with
  | ret u =>
    obtain ⟨_, _, _, _, _, q⟩ := hsp
    exact False.elim q
  | brk =>
    obtain ⟨_, _, _, q⟩ := hsp
    exact False.elim q
  | cont =>
    obtain ⟨_, _, _, q⟩ := hsp
    exact False.elim q
  | next =>
    obtain ⟨σ4, H4, I4', q4⟩ := hsp
    have I4 := I4'.ofTry ok
    refine thn (run_fn (us := [.ref a, .none, .none, .none]) (vs := [.ref a, .non, .non, .non]) Fx.ok (hr.mono hk) bx .nil (C8.pass0 (E := fun _ _ _ => False)) I4 (.cons rfl (.cons rfl (.cons rfl (.cons rfl .nil)))) (Q := fun _ H5 => D.nx σ4 H5) (by rw [List.append_nil]; exact q4)) fun v5 s5 ⟨_, H5, I5, _, q5⟩ => ?_
    exact ⟨σ4, H5, I5, q5⟩
end
end LNw
set_option maxHeartbeats 4000000
/-! A lambda that captures names, called. -/
namespace LNw
open PySem PySem.Spec PyProof.Rows L2 HotX L2H LNa LNb LamX NdefX
section
variable {CX : CXT} {P : Program} {w : World} {K : PySem.W.Frag} {mg : Str → Option Value} {base : Heap} {N ps fr : List Str} {F : NF} {f : Addr} {A : Around} {outer : List Env} {s : Shared} {H : Hp} {E : XK} {Q : VK} {us : List Value} {vs : List V} {ws : List (Option V)} {params : Arguments} {body : Expr} {pm ctv : Value} {k : Nat}
theorem lam_run (ho : s.heap.get? f = some (PySem.W.kla_obj "<lambda>" F.qual params body F.scope F.cl pm F.c ctv)) (rec_ : s.heap.CodeRec (.ref F.c) F.qual) (S : NScope N ps fr F.scope)
    (hb : bindArgs (PySem.W.kla_fn "<lambda>" F.qual params body F.scope F.cl pm (.ref F.c) ctv) ⟨us, []⟩ = pure (ps.zip us)) (hr : Room (k + 1) A) (e0 : Env0 P w K mg base A outer s H) (C : CellsAt F.cl fr ws s.heap H) (r : Vals vs us) (hl : vs.length = ps.length)
    (hbody : Room k (A.deeper (envF F f s.heap.objs.size)) → ∃ t, PE (ncx CX P w K mg base N F f A outer s H E) body t ∧ t (startF N vs ws) H Q) :
    codeAny (model P w) A (.call (.ref f) ⟨us, []⟩) (CR CX outer P w H s Q E) s := by
  have lim : s.heap.NoLimit := e0.mod.nolimit.keeps fun b o e => (e0.bs b o e).1
  refine PySem.W.kla_callFunE hr.depth ho rfl S.co S.gen rfl rec_ ?_
  rw [hb]
  refine wpAny_pure (wpAny_newFunctionEnv S.nocell (fun ⟨n, _⟩ hy => S.par n (List.of_mem_zip hy).1) (fun h₁ hns hsb => ⟨lim.fresh _ hsb, ?_⟩) S.kind)
  show codeAny _ _ (.expr body (envF F f s.heap.objs.size)) _ _
  have kp : ∀ b o, s.heap.get? b = some o → h₁.get? b = some o := fun b o e => hsb.extBut b o (Nat.ne_of_lt (Heap.lt_size e)) (Heap.get?_push_of_some _ e)
  obtain ⟨t, ht, hq⟩ := hbody (hr.deeper _)
  have I : Inv (ncx CX P w K mg base N F f A outer s H E) [] (startF N vs ws) H { s with heap := h₁, toks := s.toks + (ps.zip us).length } := inv_startN S hr.hd e0 hl r C hns kp
  refine PySem.W.kla_codeExpr (wpAny_mono (ht.run [] _ (startF N vs ws) H Q I hq) (fun v s' hq => ?_) fun e s' hq => hq)
  obtain ⟨w', H', J', rv, q⟩ := hq
  exact ⟨w', H', J'.os, J'.bare, J'.base, J'.hok, rv, q⟩
end
/-- what a lambda is, made by the frame of X -/
def lamF (X : Cx) (scope : Scope) (c' : Addr) : NF := ⟨"<lambda>", X.env.qual ++ "<lambda>", { posonlyargs := [], args := [], vararg := none, kwonlyargs := [], kw_defaults := [], kwarg := none, defaults := [] }, [], scope, cloFrom X.env.cells scope.names [], c'⟩
/-- at the state s, the lambda at f -/
structure LamAt (X : Cx) (params : Arguments) (body : Expr) (scope : Scope) (fr : List Str) (ws : List (Option V)) (f c' : Addr) (s : Shared) (H : Hp) : Prop where
  obj : ∃ pm ctv, s.heap.get? f = some (PySem.W.kla_obj "<lambda>" (X.env.qual ++ "<lambda>") params body scope (cloFrom X.env.cells scope.names []) pm c' ctv)
  nf : H f = none
  cells : CellsAt (cloFrom X.env.cells scope.names []) fr ws s.heap H
  code : H c' = some (CodeO c' (X.env.qual ++ "<lambda>"))
section
variable {X Z : Cx} {params : Arguments} {body : Expr} {scope : Scope} {fr : List Str} {ws : List (Option V)} {f c' : Addr} {pins : List (Addr × Obj)} {σ : L2.St} {H : Hp} {s : Shared}
/-- what stood at the entry of Z's frame stands still -/
theorem LamAt.later (L : LamAt X params body scope fr ws f c' Z.s_0 Z.H_0) (hf : f ∉ Z.fs) (hx : Z.ex = []) (nfs : ∀ y c, (cloFrom X.env.cells scope.names []).lookup y = some c → c ∉ Z.fs) (I : Inv Z pins σ H s) (hc : H c' = some (CodeO c' (X.env.qual ++ "<lambda>"))) :
    LamAt X params body scope fr ws f c' s H := by
  obtain ⟨pm, ctv, ho⟩ := L.obj
  have nx : ∀ b, b ∉ Z.ex := fun b z => by rw [hx] at z; cases z
  exact ⟨⟨pm, ctv, I.base.keep f _ ho L.nf hf (nx f)⟩, I.base.free f _ ho L.nf (nx f), L.cells.later nfs (fun y c _ => nx c) I, hc⟩
end
section
variable {X Z : Cx} {CX : CXT} {params : Arguments} {body : Expr} {scope : Scope} {fr ps N : List Str} {ws : List (Option V)} {f c' : Addr} {k i : Nat} {E : L2.St → XK} {a : Str} {e : Expr} {es : List Expr} {p1 p2 : Pos} {tl : XK → TE} {ta : TA}
/-- a(e, ..) in Z's frame, a its name for the lambda -/
theorem pe_lamact (h0 : LamAt X params body scope fr ws f c' Z.s_0 Z.H_0) (hf : f ∉ Z.fs) (hex : Z.ex = []) (nfs : ∀ y c, (cloFrom X.env.cells scope.names []).lookup y = some c → c ∉ Z.fs) (S : NScope N ps fr scope)
    (hbind : ∀ (pm ctv : Value) (us : List Value), us.length = ps.length → bindArgs (PySem.W.kla_fn "<lambda>" (X.env.qual ++ "<lambda>") params body scope (cloFrom X.env.cells scope.names []) pm (.ref c') ctv) ⟨us, []⟩ = pure (ps.zip us))
    (hr : Room (k + 1) Z.A) (hx : ∀ σ, PassesAt CX Z σ (E σ))
    (hbody : ∀ (A : Around) (outer : List Env) (s : Shared) (H : Hp) (E : XK), Room k (A.deeper (envF (lamF X scope c') f s.heap.objs.size)) → PE (ncx CX Z.prog Z.w Z.K Z.mg Z.base N (lamF X scope c') f A outer s H E) body (tl E))
    (hN : Z.N[i]? = some a) (hv : Vis Z.env.scope a) (ha : PA Z (e :: es) ta) (hd : (a == ("__debug__" : Str)) = false := by decide) (hcd : (a == ("__classdict__" : Str)) = false := by decide)
    (he : starEach (e :: es) Z.env = (false, eval e Z.env) :: starEach es Z.env := by rfl) (hpl : (backTo p2 (starEach es Z.env)).any (·.1) = false := by rfl) :
    PE Z (.Call (.Name a p1) (e :: es) [] p2) (fun σ H Q => σ[i]? = some (some (.ref f)) ∧ ta σ H fun vs H1 => vs.length = ps.length ∧ H1 c' = some (CodeO c' (X.env.qual ++ "<lambda>")) ∧ tl (E σ) (startF N vs ws) H1 Q) := by
  refine ⟨fun pins s σ H Q I h => ?_⟩
  obtain ⟨hs, h⟩ := h
  refine wpAny_Call_Name_kw (thn ((pe_var (pos := p1) (i := i) hN hv hd hcd).run pins s σ H (fun v H1 => v = .ref f ∧ H1 = H) I ⟨.ref f, hs, rfl, rfl⟩) fun u s1 ⟨v, H1, I1, r1, q1⟩ => ?_)
  obtain ⟨ev, eH⟩ := q1
  subst ev
  rw [eH] at I1
  obtain rfl : u = Value.ref f := r1
  have nx : ∀ b, b ∉ Z.ex := fun b z => by rw [hex] at z; cases z
  have at_ : ∀ {s' : Shared} {H' : Hp} {σ' : L2.St} {pp : List (Addr × Obj)}, Inv Z pp σ' H' s' → ∃ pm ctv, s'.heap.get? f = some (PySem.W.kla_obj "<lambda>" (X.env.qual ++ "<lambda>") params body scope (cloFrom X.env.cells scope.names []) pm c' ctv) := fun J => by
    obtain ⟨pm, ctv, ho⟩ := h0.obj
    exact ⟨pm, ctv, J.base.keep f _ ho h0.nf hf (nx f)⟩
  obtain ⟨pm1, ctv1, of1⟩ := at_ I1
  refine PySem.W.callWith_F (first := []) ⟨_, _, _, _, of1⟩ (thn (ha.run p2 pins s1 σ H _ I1 h) fun us s2 ⟨vs, H2, I2, r, hl, hc, q⟩ => ?_) he hpl
  have L2' := h0.later hf hex nfs I2 hc
  obtain ⟨pm, ctv, of2⟩ := L2'.obj
  refine ⟨⟨_, _, _, _, of2⟩, ?_⟩
  show wpAny _ _ (call (.ref f) us) _ _ _
  refine wpAny_call (codeAny_mono (lam_run (F := lamF X scope c') (CX := CX) (Q := Q) (E := E σ) of2 (codeO_at I2.hok hc) S (hbind pm ctv us (by rw [← r.length]; exact hl)) hr I2.env0 L2'.cells r hl fun hr2 => ⟨_, hbody _ _ _ _ _ hr2, q⟩) fun r s3 hq => ?_)
  cases r with
  | error e => exact hx σ pins H2 s2 e s3 I2 hq
  | ok fl =>
    cases fl with
    | ret u => exact I2.after hq
    | next => exact False.elim hq
    | brk => exact False.elim hq
    | cont => exact False.elim hq
end
end LNw
set_option maxHeartbeats 4000000
/-! o.m(lambda ..: ..): the lambda is made, the method is entered with it. -/
namespace LNw
open PySem PySem.Spec PyProof.Rows L2 HotX L2H LNa LNb LamX NdefX
/-- how the method's body reads, given what the lambda reads (tl) -/
def GivesM (X : Cx) (CX : CXT) (Ng : List Str) (qual : Str) (sg : Scope) (g : Addr) (cdg : Value) (bg : List Stmt) (params : Arguments) (body : Expr) (scope : Scope) (fr : List Str) (k : Nat) (TT : Addr → List (Option V) → Hp → VK → XK → Prop) : Prop :=
  ∀ (t f c' : Addr) (ws : List (Option V)) (s : Shared) (H : Hp) (Q : VK) (E : XK), LamAt X params body scope fr ws f c' s H → f ∉ frs X.stack → (∀ y c, (cloFrom X.env.cells scope.names []).lookup y = some c → c ∉ frs X.stack) → Room k (X.A.deeper (envOfC qual sg s.heap.objs.size g cdg)) → TT t ws H Q E →
    ∃ t', PSs (cxOf CX X.prog X.w X.K X.mg X.base Ng qual sg g cdg X.A X.stack s H E) bg t' ∧ t' { nx := fun _ H' => Q .non H', rt := Q } (L2.start Ng [.ref t, .ref f]) H
section
variable {X : Cx} {CX : CXT} {C g c P : Addr} {m : Str} {params : Arguments} {body : Expr} {scope : Scope} {fr : List Str} {js : List Nat} {T : List (Addr × Str)} {TT : Addr → List (Option V) → Hp → VK → XK → Prop} {ta : TE} {o : Expr} {pg : Arguments} {bg : List Stmt} {sg : Scope} {dV kV doc pm cdv ct oc : Value} {an od : Option Addr} {osl : Array (Option Value)} {Ng : List Str}
  {qual name : Str} {a1 a2 : Str} {k : Nat} {E : L2.St → XK} {lpos apos pos : Pos}
theorem pe_metlam {pl : Sem Bool} (he : PE X o ta) (cl : Cls X.K C) (hm : Meth X.K C m g) (lk : X.K.lookup g = some ⟨oc, od, .func (PySem.W.fnOf name qual pg bg sg dV kV doc pm an cdv ct), osl⟩) (hcg : PySem.W.codeIn X.K cdv qual = true) (hb : Binds X.K (PySem.W.fnOf name qual pg bg sg dV kV doc pm an cdv ct) [a1, a2] []) (Sg : FnScope Ng [a1, a2] sg)
    (hG : GivesM X CX Ng qual sg g cdv bg params body scope fr k TT) (TB : TabB X.base X.mg c P) (hcode : X.env.code = .ref c) (hmT : (P, X.env.qual ++ "<lambda>") ∈ T) (hu : ∀ p ∈ T, p.1 = P → p.2 = X.env.qual ++ "<lambda>") (hr : Room (k + 1) X.A)
    (hfree : ∀ y ∈ scope.names, y.2 = .free → X.env.scope.names.lookup y.1 = some .cell ∨ X.env.scope.names.lookup y.1 = some .free) (hfr : ∀ y ∈ fr, (y, NameKind.free) ∈ scope.names) (hjs : js.map (fun j => X.N[j]?) = fr.map some) (hfn : ∀ y, X.fn y = true)
    (hdef : defaultsOf params X.env = ([], [])) (hx : ∀ σ, PassesAt CX X σ (E σ))
    (ht : eval (.Call (.Attribute o m apos) [.Lambda params body scope lpos] [] pos) X.env = (do
      let ov ← eval o X.env; standAt apos.atName; let (f, first) ← holding [ov] (getMethod ov m pl); callWith pos f first (backTo pos (starEach [.Lambda params body scope lpos] X.env)) (backToKw pos (keywordEach [] X.env))) := by rfl) :
    PE X (.Call (.Attribute o m apos) [.Lambda params body scope lpos] [] pos) (fun σ H Q => ta σ H fun x H1 => ∃ t dx fs, x = .ref t ∧ H1 t = some (.ins C dx fs) ∧ fs.lookup m = none ∧ Tabs T H1 ∧ ∀ H2, ExtN H1 H2 → Tabs T H2 → TT t (js.map (slotAt σ)) H2 Q (E σ)) := by
  refine ⟨fun pp s σ H Q J h => PySem.W.methodCall_KW (pl := pl) (thn (he.run pp s σ H _ J h) fun u s1 ⟨x, H1, J1, rx, t, dx, fs, ex, ea, l, hT, q⟩ => ?_) ht⟩
  subst ex
  obtain rfl : u = Value.ref t := rx
  have hfr' : ∀ y ∈ scope.names, y.2 = .free → ∃ c, X.env.cells.lookup y.1 = some c := fun y hy e => (hfree y hy e).elim (fun z => J.ok.has _ (.inl z)) fun z => J.ok.has _ (.inr z)
  refine getmeth_ok J1 ea cl hm l (PySem.W.callWith_K (first := [.ref t]) (h₀ := X.base) J.ok.mod.kin hm.kp ?_ (by rfl) (by rfl))
  show wpAny _ _ (spliced ((false, eval (.Lambda params body scope lpos) X.env) :: backTo pos (starEach [] X.env))) _ _ _
  refine Calls.spliced_cons (lam_make2 J1 TB hcode hmT hu hT hdef hfr' fun f c' pm' ctv H2 s2 I2 eN T2 hf hfn' hff hco => ?_)
  refine Calls.spliced_nil ⟨I2.kIn, ?_⟩
  have notF : ∀ y c, X.env.cells.lookup y = some c → c ∉ frs X.stack := fun y c e hmem => by
    rcases List.mem_cons.mp (I2.stkSub c hmem) with z | z
    · exact I2.cne y c e z
    · have a := I2.ok.cab y c (hfn y) e
      obtain ⟨_, o', ho', _⟩ := I2.ok.funs.mem z
      exact absurd (Nat.lt_of_lt_of_le (Heap.lt_size ho') a) (Nat.lt_irrefl _)
  have LA : LamAt X params body scope fr (js.map (slotAt σ)) f c' s2 H2 := ⟨⟨pm', ctv, hf⟩, hfn', cells_of I2 (Caps.made I2.ok hfree hfr hjs), hco⟩
  have rc : codeAny (model X.prog X.w) X.A (.call (.ref g) ⟨[.ref t, .ref f], []⟩) (CR CX X.stack X.prog X.w H2 s2 Q (E σ)) s2 := by
    have bt := hb s2 [.ref t, .ref f] I2.kIn rfl
    rw [List.append_nil] at bt
    refine run_ofS (N := Ng) (ps := [a1, a2]) (us := [.ref t, .ref f]) (vs := [.ref t, .ref f]) lk hcg Sg hr I2.env0 bt (.cons rfl (.cons rfl .nil)) rfl fun hr' => ?_
    exact hG t f c' _ s2 H2 Q (E σ) LA hff (fun y c e => notF y c (clo_cm hfr' e)) hr' (q H2 eN T2)
  show wpAny _ _ (call (.ref g) [.ref t, .ref f]) _ _ _
  refine wpAny_call (codeAny_mono rc fun r s3 hq => ?_)
  cases r with
  | error e => exact hx σ pp H2 s2 e s3 I2 hq
  | ok fl =>
    cases fl with
    | ret u => exact I2.after hq
    | next => exact False.elim hq
    | brk => exact False.elim hq
    | cont => exact False.elim hq
end
end LNw
set_option maxHeartbeats 4000000
/-! Heaps without tables of code objects. -/
namespace LNw
open PySem PySem.Spec PyProof.Rows L2 HotX L2H LNa LNb LNi LNt LNp LNn LamX NdefX
open LNm (Pt PtOk PtD Sx eO eRow eRdr eS eH eP eW eK Dd eD Al canD behindM)
open Evl (Ex Ex.refl Ex.trans Ex.new ex_t ex_l ex_rd fresh_back)
/-! ### no tables in F -/
def NT (F : Hp) : Prop := ∀ q ps, F q ≠ some (.tbl ps)
def nt (F : Hp) : Hp := fun q => match F q with
  | some (.tbl _) => none
  | u => u
theorem nt_some {F : Hp} {q : Addr} {u : HO} (h : F q = some u) (hu : ∀ ps, u ≠ .tbl ps) : nt F q = some u := by
  unfold nt
  rw [h]
  cases u <;> first | rfl | exact absurd rfl (hu _)
theorem nt_none {F : Hp} {q : Addr} (h : F q = none) : nt F q = none := by unfold nt; rw [h]
theorem nt_le (F : Hp) : Ex (nt F) F := fun q u h => by
  unfold nt at h
  split at h
  · cases h
  · exact h
theorem nt_NT (F : Hp) : NT (nt F) := fun q ps h => by
  unfold nt at h
  split at h
  · cases h
  · rename_i h1; exact h1 ps h
mutual
theorem dr_nt {K : PySem.W.Frag} {F : Hp} : ∀ {v : V} {d : PyData}, Dr K F v d → Dr K (nt F) v d
  | _, _, .non => .non
  | _, _, .bl b => .bl b
  | _, _, .int i => .int i
  | _, _, .str x => .str x
  | _, _, .lst h t => .lst (nt_some h (fun _ z => by cases z)) (drall_nt t)
  | _, _, .tup h t => .tup (by
      rcases h with (h | ⟨o, h⟩) | h
      · exact .inl (.inl (nt_some h (fun _ z => by cases z)))
      · exact .inl (.inr ⟨o, nt_some h (fun _ z => by cases z)⟩)
      · exact .inr h) (drall_nt t)
theorem drall_nt {K : PySem.W.Frag} {F : Hp} : ∀ {vs : List V} {ds : List PyData}, DrAll K F vs ds → DrAll K (nt F) vs ds
  | _, _, .nil => .nil
  | _, _, .cons h t => .cons (dr_nt h) (drall_nt t)
end
theorem rw_nt {K : PySem.W.Frag} {C : Cs K} {F : Hp} {v : V} {w : Whl} (h : Rw K C F v w) : Rw K C (nt F) v w := by
  obtain ⟨a, dx, gs, r, g, k⟩ := h
  exact ⟨a, dx, gs, r, nt_some g (fun _ z => by cases z), fun f d z => let ⟨u, l, m⟩ := k f d z; ⟨u, l, dr_nt m⟩⟩
theorem tb_nt {K : PySem.W.Frag} {C : Cs K} {F H : Hp} {t : Addr} {P : Pt} {sts : List Sx} {notes : List Dd} {olds : List (List Sx)} {fl : Int} (h : Tb K C F H t P sts notes olds fl) : Tb K C (nt F) H t P sts notes olds fl := by
  obtain ⟨dx, wv, kv, a, b, c, e⟩ := h.ex
  exact ⟨dx, wv, kv, nt_none a, b, rw_nt c, dr_nt e⟩
theorem scr_nt {K : PySem.W.Frag} {F : Hp} {v : V} {cells : List Int} (h : Scr K F v cells) : Scr K (nt F) v cells := by
  obtain ⟨a, e, h⟩ := h.ex
  refine ⟨a, e, ?_⟩
  rcases h with (h | ⟨o, h⟩) | h
  · exact .inl (.inl (nt_some h (fun _ z => by cases z)))
  · exact .inl (.inr ⟨o, nt_some h (fun _ z => by cases z)⟩)
  · exact .inr h
theorem drw_nt {K : PySem.W.Frag} {F H : Hp} {p : Addr} {k : Int} (h : Drw K F H p k) : Drw K (nt F) H p k := by
  obtain ⟨sv, cells, a, b, c⟩ := h.ex
  exact ⟨sv, cells, nt_none a, b, scr_nt c⟩
theorem hr_nt {K : PySem.W.Frag} {F H : Hp} {h n o : Addr} {sts : List Sx} {notes : List Dd} {olds : List (List Sx)} (x : Hr K F H h n o sts notes olds) : Hr K (nt F) H h n o sts notes olds := by
  obtain ⟨sv, nvs, ovs, a1, a2, b1, b2, c1, c2, d1, d2, d3⟩ := x.ex
  exact ⟨sv, nvs, ovs, nt_none a1, a2, nt_none b1, b2, nt_none c1, c2, dr_nt d1, drall_nt d2, drall_nt d3⟩
theorem wl_nt {K : PySem.W.Frag} {C : Cs K} {F H : Hp} {p t h n o : Addr} {k : Int} {P : Pt} {sts : List Sx} {notes : List Dd} {olds : List (List Sx)} {fl : Int} (W : Wl K C F H p t h n o k P sts notes olds fl) : Wl K C (nt F) H p t h n o k P sts notes olds fl :=
  ⟨drw_nt W.dr, tb_nt W.tb, hr_nt W.hr, W.nd⟩
theorem gr_nt {M : Addr → Prop} {F H F' H' : Hp} (g : Gr M F H F' H') (hF : NT F) : Gr M F H (nt F') H' :=
  ⟨fun q u z => nt_some (g.a q u z) fun ps e => hF q ps (by rw [z, e]), (nt_le F').trans g.b, fun p o z1 z2 => ⟨nt_none (g.c p o z1 z2).1, (g.c p o z1 z2).2⟩⟩
end LNw
set_option maxHeartbeats 4000000
/-! attempt. -/
namespace LNw
open PySem PySem.Spec PyProof.Rows L2 HotX L2H LNa LNb LNi LNt LNp LNn LamX NdefX
open LNm (Pt PtOk PtD Sx eO eRow eRdr eS eH eP eW eK Dd eD Al canD behindM)
open Evl (Ex Ex.refl Ex.trans Ex.new ex_t ex_l ex_rd fresh_back)
/-- behind the lambda: the table t is some table, the trial at y is as it was; what comes of it when the table is as before -/
def BackT (K : PySem.W.Frag) (C : Cs K) (c3 : Addr) (t y dy : Addr) (kv : V) (F2 : Hp) (P : Pt) (sts : List Sx) (notes : List Dd) (olds : List (List Sx)) (fl : Int) (H3 : Hp) (Q : Hp → Prop) : Prop :=
  ∃ F3 sts3 notes3 olds3 fl3, Ex (nt F2) F3 ∧ Ex F3 H3 ∧ H3 y = some (.ins c3 dy [("table", .ref t), ("before", kv)]) ∧ Tb K C F3 H3 t P sts3 notes3 olds3 fl3 ∧ ∀ H4, Gr (· = t) F3 H3 F3 H4 → Tb K C F3 H4 t P sts notes olds fl → Q H4
def ttAt (K : PySem.W.Frag) (C : Cs K) (c3 : Addr) (Nl : List Str) (tl : XK → TE) : Addr → List (Option V) → Hp → VK → XK → Prop := fun t ws H Q E => ∃ F P sts notes olds fl, Ex F H ∧ Tb K C F H t P sts notes olds fl ∧
  ∀ y dy kv F2 H2, H y = none → Gr (· = t) F H F2 H2 → F2 y = none → H2 y = some (.ins c3 dy [("table", .ref t), ("before", kv)]) → Tb K C F2 H2 t P sts notes olds notes.length →
    ∀ (E' : XK) (Q' : VK), (∀ cls d H3, (∃ vc, L2.RelV vc cls) → BackT K C c3 t y dy kv F2 P sts notes olds fl H3 (E cls d) → E' cls d H3) → (∀ v H3, BackT K C c3 t y dy kv F2 P sts notes olds fl H3 (Q v) → Q' v H3) → tl E' (startF Nl [.ref t] ws) H2 Q'
abbrev N_att : List Str := ["self", "work", "inner", "found"]
theorem s_att : FnScope N_att ["self", "work"] (defScope (met 38 12)) := ⟨rfl, rfl, rfl, by decide +kernel, rfl, by decide +kernel, by decide +kernel⟩
theorem att_gives {X : Cx} {C : Cs X.K} {c3 g : Addr} {cdg : Value} {params : Arguments} {body : Expr} {scope : Scope} {fr Nl : List Str} {p1 : Str} {tl : XK → TE} {k : Nat} (T : Tw X.K X.mg C) (M : Mgr X.prog X.w X.K X.mg X.base c3 1 (spEnter X.K C c3) (spExit X.K C c3))
    (D : DmM C8.CX0 X.prog X.w X.K X.mg X.base C.ct "trial" 3 (spTrial X.K C c3)) (S : NScope Nl [p1] fr scope)
    (hbind : ∀ (q : Str) (cl : List (Str × Addr)) (c' : Addr) (pm ctv : Value) (us : List Value), us.length = 1 → bindArgs (PySem.W.kla_fn "<lambda>" q params body scope cl pm (.ref c') ctv) ⟨us, []⟩ = pure ([p1].zip us))
    (hbody : ∀ (f c' : Addr) (A : Around) (outer : List Env) (s : Shared) (H : Hp) (E : XK), Room k (A.deeper (envF (lamF X scope c') f s.heap.objs.size)) → PE (ncx (L2N.CX X.prog X.w) X.prog X.w X.K X.mg X.base Nl (lamF X scope c') f A outer s H E) body (tl E)) (hk : 3 ≤ k + 1) :
    GivesM X (L2N.CX X.prog X.w) N_att "LiveTable.attempt" (defScope (met 38 12)) g cdg (defBody (met 38 12)) params body scope fr (k + 1) (ttAt X.K C c3 Nl tl) := by
  intro t f c' ws s H Q E LA hff nfs hr h
  refine ⟨_, pss_cons (ps_with (i := 2) (k := 1) (j := k + 1) (Wout := fun cls d _ H => E cls d H) rfl rfl rfl (L2N.takes_of rfl rfl rfl rfl) M hr (by omega) (m_meth0 (E := fun _ _ _ _ => False) D hr (fun σ => passAt0 σ) (vv 0) hk) s_att.nd rfl (by first | exact .inl rfl | exact .inr rfl) (by first | exact .inl rfl | exact .inr rfl)
      (fun W pn xe tk => pss_one (ps_asg (pe_lamact (X := X) (Z := (cxOf (L2N.CX X.prog X.w) X.prog X.w X.K X.mg X.base N_att "LiveTable.attempt" (defScope (met 38 12)) g cdg X.A X.stack s H E).tr pn xe) (CX := L2N.CX X.prog X.w) (i := 1) (E := L2.WE W) LA hff rfl nfs S (fun pm ctv us hl => hbind _ _ _ pm ctv us hl) hr (fun σ => L2N.passAt tk σ) (fun A outer s H E => hbody f c' A outer s H E) rfl (by first | exact Or.inl rfl | exact Or.inr (Or.inl rfl)) (pa_cons (vv 2) pa_nil)) (pg_name (i := 3) s_att.nd rfl (by first | exact .inl rfl | exact .inr rfl)))))
    (pss_one (ps_ret (vv 3))), ?_⟩
  obtain ⟨F, P, sts, notes, olds, fl, e, tb, h⟩ := h
  obtain ⟨dx, wv, kv0, ft, ht, rw_, rk⟩ := tb.ex
  refine ⟨_, rfl, t, dx, _, rfl, ht, rfl, F, t, dx, wv, kv0, rfl, e, ft, ht, fun y dy H1 hy f1 hy1 => ?_⟩
  have fy : F y = none := fresh_back e hy
  have ne : y ≠ t := (ne_of_none ht hy).symm
  refine ⟨y, dy, _, rfl, hy1, F, y, dy, kv0, t, P, sts, notes, olds, fl, rfl, f1.b, fy, hy1, ne, tb.fr f1, fun kv F2 H2 g2 hy2 rk2 tb2 => ?_⟩
  have fy2 : F2 y = none := (g2.c y _ fy hy1).1
  have G : Gr (· = t) F H F2 H2 := ⟨f1.a.trans g2.a, g2.b, fun p o a b => by
    obtain ⟨x1, x2⟩ := f1.c p o a b
    obtain ⟨z1, z2⟩ := g2.c p o x1 x2
    refine ⟨z1, fun w => z2 fun w2 => ?_⟩
    rcases w2 with w2 | w2
    · exact absurd w2 (ne_of_none b hy)
    · exact w w2⟩
  have hc2 : H2 c' = some (CodeO c' (X.env.qual ++ "<lambda>")) := by
    have code := LA.code
    have nct : c' ≠ t := fun z => by
      rw [z, ht] at code
      unfold CodeO at code
      cases code
    cases hF : F c' with
    | none => exact (G.c c' _ hF code).2 nct
    | some o =>
      have := e c' o hF
      rw [code] at this
      cases this
      exact G.b _ _ (G.a _ _ hF)
  refine ⟨rfl, _, rfl, rfl, hc2, ?_⟩
  refine h y dy kv F2 H2 hy G fy2 hy2 tb2 _ _ (fun cls d H3 hv hb => ?_) fun v H3 hb => ?_
  · obtain ⟨vc, rvc⟩ := hv
    obtain ⟨F3, sts3, notes3, olds3, fl3, e23, e3, hy3, tb3, q⟩ := hb
    exact ⟨vc, rvc, fun ve vt => ⟨F3, y, dy, kv, t, P, sts, notes, olds, fl, sts3, notes3, olds3, fl3, vc, ve, vt, rfl, e3, hy3, (dr_nt rk2).mono e23, tb3, fun H4 g4 tb4 => ⟨rfl, q H4 g4 tb4⟩⟩⟩
  · obtain ⟨F3, sts3, notes3, olds3, fl3, e23, e3, hy3, tb3, q⟩ := hb
    exact ⟨F3, y, dy, kv, t, P, sts, notes, olds, fl, sts3, notes3, olds3, fl3, .non, .non, .non, rfl, e3, hy3, (dr_nt rk2).mono e23, tb3, fun H4 g4 tb4 => ⟨_, rfl, q H4 g4 tb4⟩⟩
end LNw
set_option maxHeartbeats 4000000
/-! raise KeyError(..), its context None; the law's fall. -/
namespace LNw
open PySem PySem.Spec PyProof.Rows L2 HotX L2H LNa LNb LNi LNt LNp LNn LamX NdefX
open LNm (Pt PtOk PtD Sx eO eRow eRdr eS eH eP eW eK Dd eD Al canD behindM)
open Evl (Ex Ex.refl Ex.trans Ex.new ex_t ex_l ex_rd fresh_back)
section
variable {X : Cx} {T N I : String} {x : Str} {p pos : Pos} {e : Expr} {es : List Expr} {t : TA}
theorem pmk_excN (hc : ExcClass T N I) (ty : typeOf (.type T) = pure (.type "type")) (hg : Gl X x) (hm : X.mg x = none) (hv : bootBuiltins x = some (.type T)) (ha : PA X (e :: es) t) (hn : x ≠ "__name__" := by decide) (hdb : (x == ("__debug__" : Str)) = false := by decide)
    (he : starEach (e :: es) X.env = (false, eval e X.env) :: starEach es X.env := by rfl) (hpl : (backTo pos (starEach es X.env)).any (·.1) = false := by rfl) :
    L2N.PMk X (.Call (.Name x p) (e :: es) [] pos) (fun σ H Q => t σ H fun vs H1 => vs.length ≤ sizeLine ∧ ∀ d, Q (.type T) d H1) := by
  intro pins s σ H Q J h
  refine wpAny_Call_Name_kw (ld_blt J hg hm hv ?_ hn hdb)
  refine PyProof.Rows.callWith_type1 (thn (ha.run pos pins s σ H _ J h) fun us s1 hh => ?_) he hpl
  obtain ⟨vs, H1, I1, r1, q0, q1⟩ := hh
  refine PyProof.Rows.call_exc hc (fun h' a mk => ?_) (Nat.le_trans (Nat.le_of_eq r1.length.symm) q0)
  obtain ⟨ob, t0, ha', hcls, hd⟩ := mk.there
  exact ⟨a, ob, _, s1, H1, .type T, ob.dict, rfl, I1, mk.keeps, mk.new, ha', ⟨hcls, rfl, fun vs e => by rw [hd] at e; cases e; rfl⟩, hd, rfl, I1.hok.gone mk.new, rfl, I1.bare, (fun _ _ _ => ⟨PySem.W.Looks.of_pure hc.base, PySem.W.Looks.of_pure ty⟩), q1 ob.dict⟩
end
def spFall (K : PySem.W.Frag) (C : Cs K) : Sp := fun vs H Q E => ∃ F t x P s r notes olds fl, vs = [.ref t, .str x] ∧ Ex F H ∧ Tb K C F H t P (s :: r) notes olds fl ∧ PtOk P ∧ Al P (s :: r) ∧ r.length ≤ 10 ∧ notes.length < 80000 ∧ olds.length < 80000 ∧
  ∀ d F' H' sts' notes' olds', Gr (· = t) F H F' H' → Tb K C F' H' t P sts' notes' olds' fl → E (.type "KeyError") d H'
abbrev N_fall : List Str := ["_law_table", "_law_word"]
theorem s_fall : FnScope N_fall ["_law_table", "_law_word"] (defScope (top 66)) := ⟨rfl, rfl, rfl, by decide +kernel, rfl, by decide +kernel, by decide +kernel⟩
theorem pass_in {P : Pt} (s : Sx) (r : List Sx) : Dd.all .pass ∈ canD P (s :: r) := by
  unfold canD
  refine List.mem_append_right _ (List.mem_map.mpr ⟨.pass, ?_, rfl⟩)
  rw [List.mem_filter]
  exact ⟨by simp, by rw [LNm.hasw_iff]⟩
theorem t_fall {P : Program} {w : World} {K : PySem.W.Frag} {mg : Str → Option Value} {base : Heap} {C : Cs K} {f cB : Addr} (T : Tw K mg C) (F : FdS K "_law_fall" "_law_fall" (top 66) f) (D : DmM (L2.CX P w) P w K mg base C.ct "do" 6 (spDo K C cB)) :
    ∃ fd, Binds K fd ["_law_table", "_law_word"] [] ∧ FnOk P w K mg base (L2N.CX P w) 7 f fd ["_law_table", "_law_word"] (spFall K C) := by
  refine fd_M F s_fall (fun _ _ _ _ _ _ us hl => match us, hl with | [_, _], _ => rfl) (fun vs H Q E ⟨_, _, _, _, _, _, _, _, _, e, _⟩ => by rw [e]; rfl) fun cdv A outer s H vs Q E hr h => ?_
  refine ⟨_, pss_cons (ps_expr (m_meth D hr (E := fun _ _ _ _ => False) passAtF (vv 0) (pa_cons pe_str pa_nil)) rfl) (pss_one (L2N.ps_raise rfl (L2N.takes_of rfl rfl rfl rfl) (pmk_excN PyProof.Rows.excClass_KeyError ty_KeyError (by rfl) T.f_KeyError boot_KeyError (pa_cons (vv 1) pa_nil)))), ?_⟩
  obtain ⟨F, t, x, P, s1, r, notes, olds, fl, rfl, e, tb, hP, al, hr10, hn, ho, q⟩ := h
  obtain ⟨dx, wv, kv, ft, ht, _, _⟩ := tb.ex
  refine ⟨_, rfl, t, dx, _, rfl, ht, rfl, F, t, _, _, P, s1, r, notes, olds, fl, rfl, e, .str _, tb, hP, al, hr10, hn, ho, .inl ⟨.all .pass, rfl, pass_in s1 r, fun u F' H' g tb' ru => ?_⟩⟩
  refine ⟨_, rfl, by simp [sizeLine_eq], fun d => q d F' H' _ _ _ g tb'⟩
end LNw
set_option maxHeartbeats 4000000
/-! The law's stands, asked of a table and the account; heaps without tables of code objects. -/
namespace LNw
open PySem PySem.Spec PyProof.Rows L2 HotX L2H LNa LNb LNi LNt LNp LNn LamX NdefX
open LNm (Pt PtOk PtD Sx eO eRow eRdr eS eH eP eW eK Dd eD Al canD behindM)
open Evl (Ex Ex.refl Ex.trans Ex.new ex_t ex_l ex_rd fresh_back)
theorem freeze1 {F H : Hp} {a : Addr} {o : HO} (e : Ex F H) (h0 : F a = none) (h1 : H a = some o) : Ex F (upd F a o) ∧ Ex (upd F a o) H := by
  refine ⟨Ex.new h0, fun q u z => ?_⟩
  by_cases hq : q = a
  · subst hq; rw [upd_same] at z; cases z; exact h1
  · rw [upd_ne hq] at z; exact e q u z
theorem stands_sp {K : PySem.W.Frag} {C : Cs K} {F H : Hp} {p t h n o : Addr} {k : Int} {P : Pt} {sts : List Sx} {notes : List Dd} {olds : List (List Sx)} {fl : Int} {pv : V} {Q : VK} {E : XK} (W : Wl K C F H p t h n o k P sts notes olds fl) (vd : Vd P sts notes olds) (rp : Dr K F pv (eP P)) (e : Ex F H) (hn : notes.length < 70000)
    (q : ∀ H', Fr F H F H' → Q (.bl true) H') : spD K C f_l_stands [.ref t, pv, .ref h] H Q E := by
  obtain ⟨s1, r, rfl⟩ := List.exists_cons_of_ne_nil vd.ne
  obtain ⟨npt, nph, npn, npo, nth, ntn, nto, nhn, nho, nno⟩ := nes_of W.nd
  have hr2 : r.length ≤ 2 := by have := vd.le; rw [List.length_cons] at this; omega
  obtain ⟨dx, wv, kv, ft, ht, rw_, rk⟩ := W.tb.ex
  obtain ⟨sv, nvs, ovs, fh, hh, fn, hn', fo, ho, rs, rn, ro⟩ := W.hr.ex
  obtain ⟨a1, b1⟩ := freeze1 e ft ht
  have fh1 : upd F t (.ins C.ct dx [("base", wv), ("kept", kv)]) h = none := (upd_ne (Ne.symm nth)).trans fh
  obtain ⟨a2, b2⟩ := freeze1 b1 fh1 hh
  have fn2 : upd (upd F t (.ins C.ct dx [("base", wv), ("kept", kv)])) h (.lst [sv, .ref n, .ref o]) n = none := by rw [upd_ne (Ne.symm nhn), upd_ne (Ne.symm ntn)]; exact fn
  obtain ⟨a3, b3⟩ := freeze1 b2 fn2 hn'
  have fo3 : upd (upd (upd F t (.ins C.ct dx [("base", wv), ("kept", kv)])) h (.lst [sv, .ref n, .ref o])) n (.lst nvs) o = none := by rw [upd_ne (Ne.symm nno), upd_ne (Ne.symm nho), upd_ne (Ne.symm nto)]; exact fo
  obtain ⟨a4, b4⟩ := freeze1 b3 fo3 ho
  have eA : Ex F _ := a1.trans (a2.trans (a3.trans a4))
  have ht4 : upd (upd (upd (upd F t (.ins C.ct dx [("base", wv), ("kept", kv)])) h (.lst [sv, .ref n, .ref o])) n (.lst nvs)) o (.lst ovs) t = some (.ins C.ct dx [("base", wv), ("kept", kv)]) := a4 _ _ (a3 _ _ (a2 _ _ upd_same))
  have hh4 : upd (upd (upd (upd F t (.ins C.ct dx [("base", wv), ("kept", kv)])) h (.lst [sv, .ref n, .ref o])) n (.lst nvs)) o (.lst ovs) h = some (.lst [sv, .ref n, .ref o]) := a4 _ _ (a3 _ _ upd_same)
  have hn4 : upd (upd (upd (upd F t (.ins C.ct dx [("base", wv), ("kept", kv)])) h (.lst [sv, .ref n, .ref o])) n (.lst nvs)) o (.lst ovs) n = some (.lst nvs) := a4 _ _ upd_same
  have ho4 : upd (upd (upd (upd F t (.ins C.ct dx [("base", wv), ("kept", kv)])) h (.lst [sv, .ref n, .ref o])) n (.lst nvs)) o (.lst ovs) o = some (.lst ovs) := upd_same
  have eq := LNm.l_stands_eq (P := P) (notes := notes.map eD) (olds := olds.map oT) (fl := fl) vd.ok s1 r (.list (olds.map oL)) (by omega) (LNm.shp_map LNm.shp_D) (by rw [List.length_map]; omega)
  generalize upd (upd (upd (upd F t (.ins C.ct dx [("base", wv), ("kept", kv)])) h (.lst [sv, .ref n, .ref o])) n (.lst nvs)) o (.lst ovs) = G at b4 eA ht4 hh4 hn4 ho4
  refine ⟨G, _, _, b4, .cons (show Rd1 K C G (.ref t) (.tbl (eW P) (eK (s1 :: r) (notes.map eD) (olds.map oT) fl)) from ⟨t, dx, wv, kv, rfl, ht4, rw_.mono eA, rk.mono eA⟩)
    (.cons (show Rd1 K C G pv (.d (eP P)) from rp.mono eA) (.cons (show Rd1 K C G (.ref h) (.d (.list [oL (s1 :: r), .list (notes.map eD), .list (olds.map oL)])) from .lst hh4 (.cons (rs.mono eA) (.cons (.lst hn4 (rn.mono eA)) (.cons (.lst ho4 (ro.mono eA)) .nil)))) .nil)), eq, fun v H1 G1 f1 r1 => ?_⟩
  cases (show Dr K G1 v (.bool true) from r1)
  exact q H1 ⟨Ex.refl F, eA.trans (f1.a.trans f1.b), fun p o z1 z2 => ⟨z1, f1.ex b4 p o z2⟩⟩
end LNw
set_option maxHeartbeats 4000000
/-! Chains of deeds. -/
namespace LNw
open PySem PySem.Spec PyProof.Rows L2 HotX L2H LNa LNb LNi LNt LNp LNn
open LNm (Pt PtOk PtD Sx eO eRow eRdr eS eH eP eW eK Dd eD Al canD behindM)
/-- the lists of states behind each deed -/
def statesM (P : Pt) : List Sx → List Dd → List (List Sx)
  | _, [] => []
  | sts, d :: r => behindM P sts d :: statesM P (behindM P sts d) r
def lastM (P : Pt) : List Sx → List Dd → List Sx
  | sts, [] => sts
  | sts, d :: r => lastM P (behindM P sts d) r
def LegalM (P : Pt) : List Sx → List Dd → Prop
  | _, [] => True
  | sts, d :: r => d ∈ canD P sts ∧ LegalM P (behindM P sts d) r
variable {P : Pt}
theorem last_snoc (sts : List Sx) (ds : List Dd) (d : Dd) : lastM P sts (ds ++ [d]) = behindM P (lastM P sts ds) d := by
  induction ds generalizing sts with
  | nil => rfl
  | cons a r ih => exact ih (behindM P sts a)
theorem states_snoc (sts : List Sx) (ds : List Dd) (d : Dd) : statesM P sts (ds ++ [d]) = statesM P sts ds ++ [behindM P (lastM P sts ds) d] := by
  induction ds generalizing sts with
  | nil => rfl
  | cons a r ih =>
    show behindM P sts a :: statesM P (behindM P sts a) (r ++ [d]) = _
    rw [ih]; rfl
theorem legal_snoc (sts : List Sx) (ds : List Dd) (d : Dd) : LegalM P sts (ds ++ [d]) ↔ LegalM P sts ds ∧ d ∈ canD P (lastM P sts ds) := by
  induction ds generalizing sts with
  | nil => simp [LegalM, lastM]
  | cons a r ih =>
    show (a ∈ canD P sts ∧ LegalM P (behindM P sts a) (r ++ [d])) ↔ _
    rw [ih]
    simp [LegalM, lastM, and_assoc]
/-- states that are alike, one to three -/
structure Okv (P : Pt) (sts : List Sx) : Prop where
  al : Al P sts
  ne : sts ≠ []
  le : sts.length ≤ 3
theorem okv_behind {sts : List Sx} (h : Okv P sts) {d : Dd} (hd : d ∈ canD P sts) : Okv P (behindM P sts d) := by
  refine ⟨LNm.al_behind h.al d fun w i z => ?_, fun z => ?_, by rw [LNm.behind_len]; exact h.le⟩
  · subst z; exact (LNm.one_mem w i _ hd).1
  · have := LNm.behind_len (P := P) sts d
    rw [z] at this
    exact h.ne (List.length_eq_zero_iff.mp this.symm)
theorem okv_last {sts : List Sx} {ds : List Dd} (h : Okv P sts) (l : LegalM P sts ds) : Okv P (lastM P sts ds) := by
  induction ds generalizing sts with
  | nil => exact h
  | cons a r ih => exact ih (okv_behind h l.1) l.2
theorem states_len (sts : List Sx) (ds : List Dd) : (statesM P sts ds).length = ds.length := by
  induction ds generalizing sts with
  | nil => rfl
  | cons a r ih => show (statesM P _ r).length + 1 = _; rw [ih]; rfl
end LNw
set_option maxHeartbeats 4000000
/-! super().__init__(..) of an own error over ValueError: the wrapper is called. -/
namespace LNw
open PySem PySem.W PySem.Calls PyProof.Rows PySem.HandSPX
section
variable {prog : Program} {w : World} {A : Around} {E : Value → Shared → Prop} {h : Heap} {g : Array GenState} {d : Drawn} {t : Nat} {os : OsState}
variable {nm q : Str} {C N : Addr} {bs bm : List Value} {hdct : Bool} {sn : List Str} {sub : List Value} {ab : Bool} {col : Option Bool} {dd : Option Addr} {k0 k1 k2 k3 k5 : Option Value}
theorem call_mw {u e t0 : Addr} {rest : List Value} {Q : Value → Shared → Prop} (hC : h.get? C = some (excClassObj nm q C N bs bm hdct sn sub ab col dd k0 k1 k2 k3 k5 "ValueError.__new__")) (he : h.get? e = some (excO C t0)) (hu : h.get? u = some (kxs_mw "ValueError.__init__" e)) (hz : rest.length ≤ sizeLine)
    (hq : ∀ h' t1, (∀ b o, b ≠ e → h.get? b = some o → h'.get? b = some o) → h'.get? e = some (excO C t1) → Q .none ⟨h', g, d, t, os⟩) :
    wpAny (model prog w) A (call (.ref u) rest) Q E ⟨h, g, d, t, os⟩ := by
  refine wpAny_call (codeAny_of_tree ?_)
  show wpAny _ A.in1 (callAny (.ref u) ⟨rest, []⟩) _ _ _
  simp only [callAny]
  refine wpAny_bind (wpAny_load hu ?_)
  simp only [kxs_mw, show (Value.type "method-wrapper" == Value.type "method" || Value.type "method-wrapper" == Value.type "builtin_function_or_method" || Value.type "method-wrapper" == Value.type "method-wrapper") = true by decide, if_true]
  refine KFB.if_so (by decide) ?_
  refine wpAny_bind (check_bound_init F.excBase_ValueError.toExcCallFacts hC he rfl ?_)
  refine wpAny_bind (wpAny_pure (wpAny_pure ?_))
  refine ⟨plainId_quiet F.excBase_ValueError.init.plain _, codeAny_builtin F.excBase_ValueError.initEntry ?_⟩
  rw [Around.under_plainId F.excBase_ValueError.init.plain _]
  wp_walk
  refine hq _ h.objs.size (fun b o hb ho => ?_) ?_
  · rw [Heap.get?_update_other _ _ (Ne.symm hb)]
    exact Heap.get?_push_of_some _ ho
  · rw [Heap.get?_update_self _ (Heap.get?_push_of_some _ he) rfl]
    rfl
end
end LNw
set_option maxHeartbeats 4000000
/-! BadHistory's __init__ run. -/
namespace LNw
open PySem PySem.W PySem.Calls PyProof.Rows PySem.HandSPX
open LNt (met)
open L2 (defArgs defBody defScope)
/-- what the written part says of BadHistory, at C, of its __init__, at fI; mb: the built-ins -/
structure BhTxt (prog : Program) (K : Frag) (mg : Str → Option Value) (C fI : Addr) : Prop where
  gC : mg "BadHistory" = some (.ref C)
  cls : ∃ nm q N bs bm sn sub ab col dd k0 k1 k2 k3 k5, K.lookup C = some (excClassObj nm q C N bs bm true sn sub ab col dd k0 k1 k2 k3 k5 "ValueError.__new__") ∧ refsVE bm = true
  sa : findIn K (.ref C) "__setattr__" = some (some (.builtin "object.__setattr__"))
  ga : findIn K (.ref C) "__getattribute__" = some (some (.builtin "BaseException.__getattribute__"))
  gg : findIn K (.ref C) "__getattr__" = some none
  noN : findIn K (.ref C) "index" = some none
  iC : findIn K (.ref C) "__init__" = some (some (.ref fI))
  tC : typeIn K (.ref fI) = some (.type "function")
  kC : keepIn K (.ref C) = true
  exC : subIn K (.ref C) (.type "BaseException") = some true
  veC : subIn K (.ref C) (.type "ValueError") = some true
  tyC : typeIn K (.ref C) = some (.type "type")
  hdC : hasDictIn K C = true
  te : exmOne K (.ref C) (.ref C) = some true
  opq : nsIn K cStatics "thirdparty.any" = some none
  sup : ks_superIn K C C "__init__" = some (some (.builtin "ValueError.__init__"))
  mro : mroIn K C (.ref C) = some true
  gS : mg "super" = none
  gT : mg "str" = none
  top : (prog.main.scope.names.lookup ("super" : Str)).isSome = false
  fn : ∃ (oc dv0 kV doc pm ct ccl cl : Value) (od cdd cld an : Option Addr) (osl ccs csl : Array (Option Value)) (cda cc Dt : Addr) (oD : Obj) (mD : Nat) (vs : Array Value) (file : Str) (tf : Tok),
    K.lookup fI = some ⟨oc, od, .func (fnX "__init__" "BadHistory.__init__" (defArgs (met 5 0)) (defBody (met 5 0)) (defScope (met 5 0)) [("__class__", cc)] (.ref Dt) kV doc pm an (.ref cda) ct), osl⟩ ∧ K.lookup Dt = some oD ∧ oD.data = .seq [dv0].toArray mD ∧ codeIn K (.ref cda) "BadHistory.__init__" = true ∧
    K.lookup cda = some ⟨ccl, cdd, .fields vs, ccs⟩ ∧ vs[2]? = some (.str file tf) ∧ ((prog.main.file : Str) == file) = true ∧ K.lookup cc = some ⟨cl, cld, .cell (some (.ref C)), csl⟩
theorem Nat.log2_lt_two_pow_of {n : Nat} (h : n < 1048576) : n.log2 < 20 := by
  by_cases z : n = 0
  · subst z; decide
  · exact (Nat.log2_lt z).mpr h
theorem no_then {A B : Prop} (h : B) : if false = true then A else B := by
  rw [if_neg Bool.false_ne_true]
  exact h
section
variable {prog : Program} {w : World} {A : Around} {E : Value → Shared → Prop} {R : Result → Shared → Prop} {s : Shared} {K : Frag} {mg mb : Str → Option Value} {C fI : Addr}
theorem bh_init (T : BhTxt prog K mg C fI) {x t0 : Addr} {i : Int} {ti : Tok} (X : K.In s.heap) (hg : s.heap.Ns mainGlobals mg) (hb : s.heap.Ns builtinsNs mb) (hmb : ∀ y : Str, y ≠ "__name__" → mb y = bootBuiltins y) (hlim : s.heap.NoLimit) (hx : s.heap.get? x = some (excO C t0)) (hnx : K.lookup x = none) (hroom : A.depth < recursionLimit) (hi : i.natAbs < 1048576)
    (hq : ∀ h' tk dx t1, (∀ b o, b ≠ x → s.heap.get? b = some o → h'.get? b = some o) → h'.get? x = some { cls := .ref C, dict := some dx, data := .fields #[.ref t1, .none, .none, .none, .bool false, .none] } → s.heap.objs.size ≤ dx → dx ≠ x → h'.Ns1 dx (fun y => if y = "index" then some (.int i ti) else none) → R (.ok (.ret .none)) { s with heap := h', toks := tk }) :
    codeAny (model prog w) A (.call (.ref fI) ⟨[.ref x, .int i ti], []⟩) R s := by
  obtain ⟨oc, dv0, kV, doc, pm, ct, ccl, cl, od, cdd, cld, an, osl, ccs, csl, cda, cc, Dt, oD, mD, vs, file, tf, ho, lT, oT, hcd, hcode, hvs, hfile, hcell⟩ := T.fn
  obtain ⟨nm, q, N, bs, bm, sn, sub, ab, col, dd, k0, k1, k2, k3, k5, hC, hbm⟩ := T.cls
  have bd : BindsTo s (fnX "__init__" "BadHistory.__init__" (defArgs (met 5 0)) (defBody (met 5 0)) (defScope (met 5 0)) [("__class__", cc)] (.ref Dt) kV doc pm an (.ref cda) ct) ⟨[.ref x, .int i ti], []⟩ [("self", .ref x), ("index", .int i ti)] := L2.BindsTo.of_looks fun M => by
    obtain ⟨k, e1, e2⟩ : ∃ k, bindArgs (fnX "__init__" "BadHistory.__init__" (defArgs (met 5 0)) (defBody (met 5 0)) (defScope (met 5 0)) [("__class__", cc)] (.ref Dt) kV doc pm an (.ref cda) ct) ⟨[Value.ref x, Value.int i ti], []⟩ = seqItems? (.ref Dt) >>= k ∧ k (some [dv0].toArray) = pure ([("self", Value.ref x), ("index", Value.int i ti)] : List (Str × Value)) := ⟨_, rfl, by with_unfolding_all rfl⟩
    rw [e1]
    exact L2.looks_items X lT oT (.of_pure e2)
  have hloc : ∀ y ∈ ([("self", .ref x), ("index", .int i ti)] : List (Str × Value)), (defScope (met 5 0)).names.lookup y.1 = some .local := by
    intro y hy
    rcases List.mem_cons.mp hy with rfl | hy
    · show (defScope (met 5 0)).names.lookup ("self" : Str) = some .local
      decide +kernel
    · rw [List.mem_singleton.mp hy]
      show (defScope (met 5 0)).names.lookup ("index" : Str) = some .local
      decide +kernel
  refine ks_codeAny_call_defAt (binds := [("self", .ref x), ("index", .int i ti)]) hroom (X _ _ ho) rfl hlim (codeRec_of X hcd) rfl bd (show ∀ y ∈ (defScope (met 5 0)).names, y.2 ≠ .cell by decide +kernel) hloc (fun h₁ hns kp => ?_) (by rfl) (by rfl) (by rfl)
  have hxL : s.heap.objs.size ≠ x := Nat.ne_of_gt (Heap.lt_size hx)
  have X₁ : K.In h₁ := X.keeps kp
  have hx₁ := kp _ _ hx
  have hg₁ := hg.keeps kp
  have hb₁ := hb.keeps kp
  have hC₁ := X₁ _ _ hC
  have cdC : clsIn K C = some { name := nm, bases := bs, mro := .ref C :: bm, ns := N, qualname := q, hasDict := true, slotNames := sn, subclasses := sub, abstract := ab, collection := col, hasDel := false } := by unfold clsIn; rw [hC] <;> rfl
  refine ks_wpAt_execs_cons (ks_wpAt_Expr_any (ks_wpAt_MethodCall ?_) (by rfl) (by rfl))
  refine ks_wpAt_super_base (by first | rfl | decide +kernel) (by first | rfl | decide +kernel) rfl rfl (X₁ _ _ ho) rfl rfl rfl (X₁ _ _ hcode) rfl hvs hfile T.top ?_
  refine ks_loadName_global (by rfl) (by first | rfl | decide +kernel) (loadGlobal_builtin hg₁ T.gS hb₁ ((hmb "super" (by decide)).trans (by first | rfl | decide +kernel)) ⟨rfl, ?_⟩)
  refine wpAny_loadName_free (by rfl) (by first | rfl | decide +kernel) rfl ⟨_, X₁ _ _ hcell, rfl⟩ ?_
  refine wpAny_loadName_local (by rfl) (by first | rfl | decide +kernel) hns rfl ?_
  refine ks_wpAny_isType_cls hC₁ rfl ⟨rfl, ?_⟩
  refine ks_wpAny_call_super hC₁ rfl hx₁ rfl (fun c e => by cases e) (looks_mroIn X₁ T.mro) (fun h₂ hso kp₂ => ?_)
  have kp02 : ∀ b o, s.heap.get? b = some o → h₂.get? b = some o := fun b o z => kp₂ b o (kp b o z)
  have X₂ : K.In h₂ := X.keeps kp02
  have hx₂ := kp02 _ _ hx
  have hxC : x ≠ C := fun z => by rw [z, hC] at hnx; cases hnx
  have hI : Looks (model prog w) h₂ (isInstance (.ref x) (.type "ValueError")) true := (show InstAt h₂ x (excO C t0) C none from ⟨hx₂, rfl, rfl, trivial⟩).type.andThen (looks_subIn X₂ T.veC)
  have hm := T.sup
  unfold ks_superIn at hm
  rw [cdC] at hm
  refine kxs_getMethod kxs_ValueError hso (looks_opaque X₂ T.opq) (l₀ := .ref C :: bm) (fun A Q E s k q => wpAny_bind ((looks_clsIn X₂ cdC) A _ E s k (wpAny_pure q))) rfl X₂ hm hI hxC (by decide) ?_
  have kp₃ : ∀ b o, h₂.get? b = some o → (h₂.push (kxs_mw "ValueError.__init__" x)).get? b = some o := fun b o z => Heap.get?_push_of_some _ z
  have hu : (h₂.push (kxs_mw "ValueError.__init__" x)).get? h₂.objs.size = some (kxs_mw "ValueError.__init__" x) := Heap.get?_push_at rfl rfl
  have ns₃ := (hns.keeps kp₂).keeps kp₃
  have hg₃ := (hg₁.keeps kp₂).keeps kp₃
  have hb₃ := (hb₁.keeps kp₂).keeps kp₃
  generalize (h₂.push (kxs_mw "ValueError.__init__" x)) = h₃ at hu ns₃ hg₃ hb₃ kp₃ ⊢
  refine kxs_callWith (i := "ValueError.__init__") (x := x) (by rfl) ?_
  refine evalArgs_plain (spliced_cons ?_)
  refine wpAny_IfExp (pos := ⟨0, 0, 0, 0⟩) (wpAny_isTrue_Compare1 ?_ (by rfl))
  refine wpAny_Name (wpAny_loadName_local (by rfl) (by first | rfl | decide +kernel) ns₃ (v := .int i ti) (by rfl) ?_) (by decide)
  refine PyProof.Rows.Constant_none (k := 0) (pos := ⟨0, 0, 0, 0⟩) ?_
  refine is_none_gen ?_
  refine wpAny_of_eq (a := false) (by rfl) ?_
  refine no_then ?_
  refine wpAny_BinOp (Calls.Constant_str ?_)
  refine wpAny_Call_Name_kw (wpAny_Name (ks_loadName_global (by rfl) (by first | rfl | decide +kernel) (loadGlobal_builtin hg₃ T.gT hb₃ ((hmb "str" (by decide)).trans (by first | rfl | decide +kernel)) ?_)) (by decide))
  refine PyProof.Rows.callWith_type1 (Calls.spliced_cons (wpAny_Name (wpAny_loadName_local (by rfl) (by first | rfl | decide +kernel) ns₃ (v := .int i ti) (by rfl) (Calls.spliced_nil ?_)) (by decide))) (by rfl) (by rfl)
  have hlog : i.natAbs.log2 < 1920 := Nat.lt_of_lt_of_le (Nat.log2_lt_two_pow_of hi) (by decide)
  refine PySem.P.str_of_int hlog ?_
  refine PyProof.Rows.add_str (fun t' tk => ?_) ?_
  · refine Calls.spliced_nil ⟨hu, ?_⟩
    have kp03 : ∀ b o, s.heap.get? b = some o → h₃.get? b = some o := fun b o z => kp₃ b o (kp02 b o z)
    have X₃ : K.In h₃ := X.keeps kp03
    refine call_mw (rest := [_]) (X₃ _ _ hC) (kp03 _ _ hx) hu (show 1 ≤ sizeLine by rw [sizeLine_eq]; decide) (fun h₄ t1 k₄ e₄ => ?_)
    have X₄ : K.In h₄ := fun a o e => k₄ a o (fun z => by rw [z, hnx] at e; cases e) (X₃ a o e)
    have ns₄ : h₄.Ns s.heap.objs.size (fun y => ([("self", Value.ref x), ("index", Value.int i ti)] : List (Str × Value)).reverse.lookup y) := by
      obtain ⟨oL, es, ep, hL, r⟩ := ns₃
      exact ⟨oL, es, ep, k₄ _ _ hxL hL, r⟩
    refine wpAt_of_wpAny ?_
    show wpAny _ _ (execs _ _) _ _ _
    refine wpAny_execs_cons (plainObj_wpAny_Assign_Attribute ?_)
    refine wpAny_Name (wpAny_loadName_local (by rfl) (by first | rfl | decide +kernel) ns₄ (v := .int i ti) (by rfl) ?_) (by decide)
    refine wpAny_Name (wpAny_loadName_local (by rfl) (by first | rfl | decide +kernel) ns₄ (v := .ref x) (by rfl) ?_) (by decide)
    refine set_plain X₄ (ox := excO C t1) (od := none) ⟨e₄, rfl, rfl, trivial⟩ T.sa ?_
    refine exc_osa X₄ e₄ cdC (show refsVE (.ref C :: bm) = true from hbm) rfl T.noN (fun h₅ tk₅ dx k₅ dn dne hx₅ hn₅ => ?_)
    show wpAny _ _ (execs _ _) _ _ _
    have kk : ∀ b o, b ≠ x → s.heap.get? b = some o → h₅.get? b = some o := fun b o hb e => k₅ b o hb (k₄ b o hb (kp03 b o e))
    have z : s.heap.objs.size < h₄.objs.size := ns₄.lt
    exact wpAny_execs_nil (hq h₅ tk₅ dx t1 kk hx₅ (Nat.le_of_lt (Nat.lt_of_lt_of_le z dn)) dne hn₅)
  · have l1 := PyProof.Rows.len_str_of_int i
    have l2 : (Str.ofString "this cannot be done: ").length = 21 := by decide +kernel
    rw [sizeLine_eq, l2]
    have l3 : (Str.ofString (toString i)).length ≤ 1048580 := by omega
    show 21 + (Str.ofString (toString i)).length ≤ 16777216
    omega
end
end LNw
set_option maxHeartbeats 4000000
/-! BadHistory(i) made, raised, its index read. -/
namespace LNw
open PySem PySem.W PySem.Calls PyProof.Rows PySem.HandSPX
/-- a made BadHistory at e, its dict d -/
structure BhMade (h g : Heap) (e C d : Addr) (i : Int) : Prop where
  old : ∀ b o, h.get? b = some o → g.get? b = some o
  big : h.objs.size ≤ e
  at_ : ∃ oe vs, g.get? e = some oe ∧ oe.cls = .ref C ∧ oe.dict = some d ∧ oe.data = .fields vs ∧ vs[1]? = some .none
  bigd : h.objs.size ≤ d
  ne : d ≠ e
  idx : ∃ t, g.Ns1 d (fun y => if y = "index" then some (.int i t) else none)
section
variable {prog : Program} {w : World} {A : Around} {E : Value → Shared → Prop} {R : Result → Shared → Prop} {s : Shared} {K : Frag} {mg mb : Str → Option Value} {C fI : Addr}
theorem bh_made (T : BhTxt prog K mg C fI) {i : Int} {ti : Tok} (X : K.In s.heap) (hg : s.heap.Ns mainGlobals mg) (hb : s.heap.Ns builtinsNs mb) (hmb : ∀ y : Str, y ≠ "__name__" → mb y = bootBuiltins y) (lim : s.heap.NoLimit) (room : A.depth + 1 < recursionLimit) (hi : i.natAbs < 1048576)
    (hq : ∀ g tk e d, BhMade s.heap g e C d i → R (.ok (.ret (.ref e))) { s with heap := g, toks := tk }) :
    codeAny (model prog w) A (.call (.ref C) ⟨[.int i ti], []⟩) R s := by
  obtain ⟨nm, q, N, bs, bm, sn, sub, ab, col, dd, k0, k1, k2, k3, k5, hC, hbm⟩ := T.cls
  obtain ⟨hp, gn, dr, tk, os⟩ := s
  have up : ∀ b o, hp.get? b = some o → ((hp.push (kdv_tup [.int i ti])).push (excO C hp.objs.size)).get? b = some o := fun b o z => Heap.get?_push_of_some _ (Heap.get?_push_of_some _ z)
  have at1 : ((hp.push (kdv_tup [.int i ti])).push (excO C hp.objs.size)).get? (hp.objs.size + 1) = some (excO C hp.objs.size) := by heap_get
  have hnx : K.lookup (hp.objs.size + 1) = none := by
    cases e : K.lookup (hp.objs.size + 1) with
    | none => rfl
    | some o =>
      have z : hp.get? (hp.objs.size + 1) = some o := X _ _ e
      exact absurd (Nat.lt_of_succ_lt (Heap.lt_size z)) (Nat.lt_irrefl _)
  have s1 : [Value.int i ti].length ≤ sizeLine := by
    show 1 ≤ sizeLine
    rw [sizeLine_eq]
    decide
  refine call_own F.excBase_ValueError (fun Y => refsVE_contains Y bm hbm) (X _ _ hC) (looks_findIn X T.iC) (fun self => bind_fn X self T.tC) s1 ?_
  refine bh_init (s := ⟨(hp.push (kdv_tup [.int i ti])).push (excO C hp.objs.size), gn, dr, tk, os⟩) T (X.keeps up) (hg.keeps up) (hb.keeps up) hmb (lim.keeps up) at1 hnx ?_ hi fun g tk' dx t1 kp hx dn dne hns => ?_
  · show A.depth + 1 < recursionLimit
    exact room
  · have old : ∀ b o, hp.get? b = some o → g.get? b = some o := fun b o z => kp b o (Nat.ne_of_lt (Nat.lt_succ_of_lt (Heap.lt_size z))) (up b o z)
    have z : hp.objs.size + 1 + 1 ≤ dx := by
      have y := dn
      rw [Heap.size_push, Heap.size_push] at y
      exact y
    exact ⟨rfl, hq g tk' (hp.objs.size + 1) dx ⟨old, Nat.le_succ _, ⟨_, _, hx, rfl, rfl, rfl, rfl⟩, Nat.le_trans (Nat.le_trans (Nat.le_succ _) (Nat.le_succ _)) z, dne, _, hns⟩⟩
end
end LNw
set_option maxHeartbeats 4000000
/-! BadHistory(i), as a raise's operand; error.index. -/
namespace LNw
open PySem PySem.Spec PyProof.Rows L2
theorem rel_idx {x : V} {u : Value} (r : RelV x u) (y : Str) : RelO (List.lookup y [(("index" : Str), x)]) (if y = "index" then some u else none) := by
  by_cases hy : y = "index"
  · subst hy
    have q : List.lookup ("index" : Str) [(("index" : Str), x)] = some x := by simp [List.lookup]
    rw [if_pos rfl, q]
    exact r
  · have q : (y == ("index" : Str)) = false := by simpa using hy
    have q2 : List.lookup y [(("index" : Str), x)] = none := by simp [List.lookup, q]
    rw [if_neg hy, q2]
    trivial
section
variable {X : Cx} {C fI : Addr}
/-- BadHistory(e) -/
def tMkBh (C : Addr) (ta : TA) : L2.St → Hp → XK → Prop := fun σ H Q => ta σ H fun vs H1 => ∃ i : Int, vs = [.int i] ∧ i.natAbs < 1048576 ∧ ∀ d, H1 d = none → Q (.ref C) (some d) (upd H1 d (.xd [(("index" : Str), .int i)]))
theorem pmk_bh {a : Expr} {ta : TA} {p pos : Pos} {k : Nat} (T : BhTxt X.prog X.K X.mg C fI) (hr : Room k X.A) (hk : 1 ≤ k) (ha : PA X [a] ta) (hg : Gl X "BadHistory" := by rfl)
    (he : starEach (a :: []) X.env = (false, eval a X.env) :: starEach [] X.env := by rfl) (hpl : (backTo pos (starEach [] X.env)).any (·.1) = false := by rfl) :
    PMk X (.Call (.Name "BadHistory" p) [a] [] pos) (tMkBh C ta) := by
  intro pins s σ H Q I h
  refine wpAny_Call_Name_kw (ld_glob I hg T.gC ?_)
  refine PySem.W.callWith_K (h₀ := X.base) I.ok.mod.kin T.kC (thn (ha.run pos pins s σ H _ I h) fun us s1 hh => ?_) he hpl
  obtain ⟨vs, H1, J1, r1, i, ev, hi, q1⟩ := hh
  subst ev
  refine ⟨J1.kIn, ?_⟩
  cases r1 with
  | cons rv rn =>
    rename_i u us'
    cases rn
    obtain ⟨ti, rfl⟩ := rv
    have lim := J1.nolimit
    obtain ⟨mb, b1, b2⟩ := J1.mod.blt
    have gg := J1.mod.glob.keeps J1.bk
    have bb := b1.keeps J1.bk
    obtain ⟨hp, gn, dr, tk, os⟩ := s1
    show wpAny _ _ (call (.ref C) [.int i ti]) _ _ _
    refine wpAny_call (bh_made (mg := X.mg) (mb := mb) T J1.kIn gg bb b2 lim (by have := hr.dp; omega) hi fun g tk' e d M => ?_)
    show MkP X pins σ Q (.ref e) ⟨g, gn, dr, tk', os⟩
    obtain ⟨oe, fv, hoe, hc, hd, hdat, h1⟩ := M.at_
    obtain ⟨t2, hns⟩ := M.idx
    obtain ⟨g2, a1, a2⟩ := restrict g fun b => decide (b ≠ e)
    have gk : ∀ b, b ≠ e → g2.get? b = g.get? b := fun b hb => a1 b (decide_eq_true hb)
    have ge : g2.get? e = none := a2 e (by simp)
    have old : ∀ b o, hp.get? b = some o → g2.get? b = some o := fun b o q => (gk b (Nat.ne_of_lt (Nat.lt_of_lt_of_le (Heap.lt_size q) M.big))).trans (M.old b o q)
    have rv' : RelV (.int i) (.int i t2) := ⟨_, rfl⟩
    have ob : ObjOk X.prog X.w (upd H1 d (.xd [(("index" : Str), .int i)])) g2 d (.xd [(("index" : Str), .int i)]) :=
      ⟨_, hns.at (fun o q => (gk d M.ne).trans q), fun y => rel_idx rv' y⟩
    have J : Inv X pins σ (upd H1 d (.xd [(("index" : Str), .int i)])) ⟨g2, gn, dr, tk', os⟩ := J1.laid (t' := tk') old M.bigd ob
    refine ⟨e, oe, fv, ⟨g2, gn, dr, tk', os⟩, _, .ref C, some d, rfl, J, fun b o q => ?_, ge, hoe, ⟨hc, hd⟩, hdat, h1, ?_, rfl, J1.bare, raises_own T.exC T.tyC, q1 d (J1.hok.fresh M.bigd)⟩
    · by_cases hb : b = e
      · have q' : g2.get? b = some o := q
        rw [hb, ge] at q'; cases q'
      · exact (gk b hb).symm.trans q
    · rw [upd_ne (Ne.symm M.ne)]
      exact J1.hok.fresh M.big
/-- error.index, the error the one that the suite holds at a -/
def tIdx (C : Addr) (a : Addr) (cls : Value) (d : Option Addr) (te : TE) : TE := fun σ H Q => te σ H fun x H1 => x = .ref a ∧ cls = .ref C ∧ ∃ (dd : Addr) (v : V), d = some dd ∧ H1 dd = some (.xd [(("index" : Str), v)]) ∧ Q v H1
theorem pe_idx {a : Addr} {oe : Obj} {cls : Value} {d : Option Addr} {pn : List (Addr × Obj)} {e : Expr} {te : TE} {pos : Pos} (T : BhTxt X.prog X.K X.mg C fI) (hz : Zc cls d oe) (hf : ∃ vs, oe.data = .fields vs) (he : PE (X.suite a ((a, oe) :: pn)) e te)
    (hb : attributeBase e "index" X.env (eval e X.env) = eval e X.env := by rfl) :
    PE (X.suite a ((a, oe) :: pn)) (.Attribute e "index" pos) (tIdx C a cls d te) := by
  refine ⟨fun pins s σ H Q I h => ?_⟩
  refine attr_of hb (thn (he.run pins s σ H _ I h) fun u s1 hh => ?_)
  obtain ⟨x, H1, J1, rx, ex, ec, dd, v, ed, ea, q⟩ := hh
  subst ex
  obtain rfl : u = Value.ref a := rx
  subst ec
  subst ed
  obtain ⟨ha, _⟩ := J1.pin (a, oe) (List.mem_append_left _ List.mem_cons_self)
  obtain ⟨vs, hd⟩ := hf
  have hx : ObjOk X.prog X.w H1 s1.heap dd (.xd [(("index" : Str), v)]) := J1.hok dd _ ea
  obtain ⟨mA, hns, hr⟩ := hx
  obtain ⟨od, ho, hl⟩ := lookIn_ns hns
  have l : List.lookup ("index" : Str) [(("index" : Str), v)] = some v := by simp [List.lookup]
  obtain ⟨u, hu, ru⟩ := RelO.some_of (v := v) (o := mA "index") (by rw [← l]; exact hr "index")
  have J : PySem.W.InstAt s1.heap a oe C (some od) := ⟨ha, hz.1, by unfold PySem.W.notCls; rw [hd] <;> rfl, by rw [hz.2]; exact ho⟩
  exact HandSPX.exc_get J1.kIn J T.ga T.gg T.exC (PySem.W.findObj_own T.hdC T.noN rfl (by rw [hl, hu])) (handed_of ru) ⟨v, H1, J1.tok _, ru, q⟩
end
end LNw
set_option maxHeartbeats 4000000
/-! tried. -/
namespace LNw
open PySem PySem.Spec PyProof.Rows L2 HotX L2H LNa LNb LNi LNt LNp LNn
open LNm (Pt PtOk PtD Sx eO eRow eRdr eS eH eP eW eK Dd eD Al canD behindM)
open Evl (Ex Ex.refl Ex.trans Ex.new ex_t ex_l ex_rd fresh_back)
/-- a turn at a time -/
theorem for_enumS {K : PySem.W.Frag} {b : Bool} {a : Addr} {xs : List V} {g : TG} {tb : TS} {D : Ends} {σ : L2.St} {H : Hp} (Pv : Nat → L2.St → Hp → Prop) (h0 : Pv 0 σ H) (hl : ∀ i σ H, i ≤ xs.length → Pv i σ H → Sq K b H a xs)
    (hs : ∀ i x T σ H, xs[i]? = some x → Pv i σ H → H T = none → g (.ref T) σ (upd H T (.tup [.int (i : Nat), x])) fun σ2 H2 => tb { D with nx := Pv (i + 1), ct := Pv (i + 1), bk := D.nx } σ2 H2) (hd : ∀ σ H, Pv xs.length σ H → D.nx σ H) :
    ∃ W : Nat → Nat → L2.St → Hp → Prop, (∃ m, W 0 m σ H) ∧ ∀ i m σ H, W i m σ H →
      ((ItE K b a).stop i H ∧ D.nx σ H) ∨ ((ItE K b a).go i H ∧ ∃ N : L2.St → Hp → Prop, (∀ σ' H', N σ' H' → ∃ m', m' < m ∧ W (i + 1) m' σ' H') ∧ ∀ x H', (ItE K b a).yld i H x H' → g x σ H' fun σ2 H2 => tb { D with nx := N, ct := N, bk := D.nx } σ2 H2) := by
  refine ⟨fun i m σ H => m = xs.length - i ∧ i ≤ xs.length ∧ Pv i σ H, ⟨xs.length, by simp, Nat.zero_le _, h0⟩, ?_⟩
  rintro i m σ H ⟨rfl, hi, p⟩
  have q := hl i σ H hi p
  by_cases hlt : i < xs.length
  · refine .inr ⟨⟨xs, xs[i], q, by simp [hlt]⟩, Pv (i + 1), fun σ' H' p' => ⟨xs.length - (i + 1), by omega, rfl, hlt, p'⟩, fun x H' y => ?_⟩
    obtain ⟨T, y, e, hT, e2, z⟩ := y
    subst e
    subst e2
    exact hs i y T σ H (z xs q) p hT
  · have e : i = xs.length := by omega
    subst e
    exact .inl ⟨⟨xs, q, rfl⟩, hd _ _ p⟩
theorem _root_.LNi.Fr.off {F H F1 H1 : Hp} {fa : Addr} {o : HO} (f : Fr F H F1 H1) (h0 : H fa = none) (h1 : F1 fa = none) : Fr F H F1 (upd H1 fa o) :=
  ⟨f.a, ex_out f.b h1, fun p u a b => ⟨(f.c p u a b).1, by rw [upd_ne (ne_of_none b h0)]; exact (f.c p u a b).2⟩⟩
theorem _root_.LNi.Fr.inn {F H F1 H1 : Hp} {fa : Addr} {o : HO} (f : Fr F H F1 H1) (h0 : H fa = none) (h1 : F1 fa = none) (h2 : H1 fa = some o) : Fr F H (upd F1 fa o) H1 :=
  ⟨f.a.trans (Ex.new h1), (LNw.freeze1 f.b h1 h2).2, fun p u a b => ⟨by rw [upd_ne (ne_of_none b h0)]; exact (f.c p u a b).1, (f.c p u a b).2⟩⟩
theorem fresh_back' {F H F1 H1 : Hp} (f : Fr F H F1 H1) {d : Addr} (h : H1 d = none) : H d = none := by
  cases e : H d with
  | none => rfl
  | some o =>
    cases z : F d with
    | none => rw [(f.c d o z e).2] at h; cases h
    | some u => rw [f.b d u (f.a d u z)] at h; cases h
/-- a list or a tuple of data -/
def hD (b : Bool) (ds : List PyData) : PyData := if b = true then .list ds else .tuple ds
theorem sq_of {K : PySem.W.Frag} {F : Hp} {v : V} {ds : List PyData} (b : Bool) (h : Dr K F v (hD b ds)) : ∃ a xs, v = .ref a ∧ Sq K b F a xs ∧ DrAll K F xs ds ∧ ∀ H, Ex F H → TyX K H (.ref a) (if b = true then .type "list" else .type "tuple") := by
  cases b with
  | true =>
    obtain ⟨a, xs, rfl, h1, t⟩ := lst_of (show Dr K F v (.list ds) from h)
    exact ⟨a, xs, rfl, SqL.of h1, t, fun H e => .base (.lst (e _ _ h1))⟩
  | false =>
    obtain ⟨a, xs, rfl, h1, t⟩ := tup_of (show Dr K F v (.tuple ds) from h)
    refine ⟨a, xs, rfl, h1, t, fun H e => ?_⟩
    rcases h1 with (h1 | ⟨o, h1⟩) | ⟨dd, its, m, h1, hc, _⟩
    · exact .base (.tup (e _ _ h1))
    · exact .fTuple (e _ _ h1)
    · exact .kTuple h1 hc
theorem kit_sq {K : PySem.W.Frag} (b : Bool) : PySem.W.kitAny K (if b = true then .type "list" else .type "tuple") [.type "list", .type "tuple"] = some true := by
  cases b with
  | true => exact kitAny_cons (b := true) (kit_ty (by decide +kernel)) (fun z => nomatch z) (fun _ => rfl)
  | false => exact kitAny_cons (b := false) (kit_ty (by decide +kernel)) (fun _ => kitAny_cons (b := true) (kit_ty (by decide +kernel)) (fun z => nomatch z) (fun _ => rfl)) (fun z => nomatch z)
theorem legal_pre {P : Pt} {sts : List Sx} {ds es : List Dd} (h : LegalM P sts (ds ++ es)) : LegalM P sts ds := by
  induction ds generalizing sts with
  | nil => trivial
  | cons a r ih => exact ⟨h.1, ih h.2⟩
theorem legal_at {P : Pt} {sts : List Sx} {ds : List Dd} {i : Nat} {d : Dd} (h : LegalM P sts ds) (e : ds[i]? = some d) : LegalM P sts (ds.take i) ∧ d ∈ canD P (lastM P sts (ds.take i)) ∧ ds.take (i + 1) = ds.take i ++ [d] := by
  have hi : i < ds.length := (List.getElem?_eq_some_iff.mp e).1
  have hd : ds[i] = d := (List.getElem?_eq_some_iff.mp e).2
  have t1 : ds.take (i + 1) = ds.take i ++ [d] := by rw [List.take_succ, e]; rfl
  have h2 : LegalM P sts (ds.take (i + 1)) := legal_pre (es := ds.drop (i + 1)) (by rw [List.take_append_drop]; exact h)
  rw [t1, legal_snoc] at h2
  exact ⟨h2.1, h2.2, t1⟩
theorem sq_ex {K : PySem.W.Frag} {F H : Hp} {b : Bool} {a : Addr} {xs : List V} (e : Ex F H) (h : Sq K b F a xs) : Sq K b H a xs := by
  cases b with
  | true => exact ex_l e (show SqL K F a xs from h)
  | false => exact ex_t e (show SqT K F a xs from h)
def spTried (K : PySem.W.Frag) (C : Cs K) (cH : Addr) : Sp := fun vs H Q E => ∃ F t hv b dds tl P sts notes olds fl, vs = [.ref t, hv] ∧ Ex F H ∧ Tb K C F H t P sts notes olds fl ∧ PtOk P ∧ Okv P sts ∧ Dr K F hv (hD b (dds.map eD ++ tl)) ∧ LegalM P sts dds ∧ dds.length ≤ 1000 ∧
  ((tl = [] ∧ ∀ u F' H', Fr F H F' H' → Dr K F' u (.list ((statesM P sts dds).map oL)) → Q u H') ∨
   (∃ bad rest, tl = bad :: rest ∧ f_can_do [.whl (eW P), .d (oT (lastM P sts dds)), .d bad] = some (.d (.bool false)) ∧ ∀ d F' H', Fr F H F' H' → H d = none → H' d = some (.xd [(("index" : Str), .int (dds.length : Int))]) → E (.ref cH) (some d) H'))
abbrev N_tried : List Str := ["self", "history", "states", "found", "index", "deed"]
theorem s_tried : FnScope N_tried ["self", "history"] (defScope (met 38 13)) := ⟨rfl, rfl, rfl, by decide +kernel, rfl, by decide +kernel, by decide +kernel⟩
section
variable {X : Cx} {pos : Pos}
theorem pe_tyn {x : Str} {n : String} (hg : Gl X x) (hm : X.mg x = none) (hv : bootBuiltins x = some (.type n)) (hn : x ≠ "__name__" := by decide) (hd : (x == ("__debug__" : Str)) = false := by decide) : PE X (.Name x pos) (tC (.ty n)) := pe_bltn hg hm hv rfl hn hd
end
theorem t_tried {P : Program} {w : World} {K : PySem.W.Frag} {mg : Str → Option Value} {base : Heap} {C : Cs K} {f cH fI : Addr} (T : Tw K mg C) (F : FdS K "tried" "LiveTable.tried" (met 38 13) f) (B : BhTxt P K mg cH fI) (he : mg "enumerate" = none) (D_can_do : Dfn P w K mg base C "can_do" 4 f_can_do) (D_all : Dfn P w K mg base C "all_behind" 5 f_all_behind) :
    ∃ fd, Binds K fd ["self", "history"] [] ∧ FnOk P w K mg base (L2.CX P w) 6 f fd ["self", "history"] (spTried K C cH) := by
  refine fd_M F s_tried (fun _ _ _ _ _ _ us hl => match us, hl with | [_, _], _ => rfl) (fun vs H Q E ⟨_, _, _, _, _, _, _, _, _, _, _, e, _⟩ => by rw [e]; rfl) fun cdv A outer s H vs Q E hr h => ?_
  obtain ⟨F0, t, hv, b, dds, tl, P0, sts, notes, olds, fl, rfl, e, tb, hP, ok, rh, lg, hlen, q⟩ := h
  refine ⟨_, pss_cons (ps_if (pt_not (pt_val (pe_callB call_isiT (by rfl) T.f_isinstance b_isinstance (pa_cons (vv 1) (pa_cons (pe_tup (pa_cons (pe_tyn (by rfl) T.f_list b_list) (pa_cons (pe_tyn (by rfl) T.f_tuple b_tuple) pa_nil))) pa_nil))))) pss_never pss_nil)
    (pss_cons (ps_parW (i := 2) (j := 3) (.inl rfl) s_tried.nd rfl rfl (by decide) rfl rfl (pa_cons (pe_ix ix_tup (pe_fld (vv 0) rfl) pe_int (fun _ _ => rfl)) (pa_cons (pe_lst pa_nil) pa_nil)) (by with_unfolding_all rfl))
    (pss_cons (ps_forW (passes_of rfl) (.inl rfl) (pi_enumW (X := cxOf (L2.CX P w) P w K mg base N_tried "LiveTable.tried" (defScope (met 38 13)) f cdv A outer s H E) b (by rfl) he (pa_cons (vv 1) pa_nil)) (pg_tup rfl (pgs_cons (pg_name (i := 4) s_tried.nd rfl (by first | exact .inl rfl | exact .inr rfl)) (pgs_cons (pg_name (i := 5) s_tried.nd rfl (by first | exact .inl rfl | exact .inr rfl)) pgs_nil)))
      (pss_cons (ps_if (pt_not (pt_val (m_call D_can_do.m hr C8.pass0 (E := fun _ _ _ => False) (pa_cons (pe_fld (vv 0) rfl) (pa_cons (vv 2) (pa_cons (vv 5) pa_nil)))))) (pss_one (ps_raise rfl (takes_of rfl rfl rfl rfl) (pmk_bh B hr (by decide) (pa_cons (vv 4) pa_nil)))) pss_nil)
      (pss_cons (ps_asg (m_call D_all.m hr C8.pass0 (E := fun _ _ _ => False) (pa_cons (pe_fld (vv 0) rfl) (pa_cons (vv 2) (pa_cons (vv 5) pa_nil)))) (pg_name (i := 2) s_tried.nd rfl (by first | exact .inl rfl | exact .inr rfl)))
      (pss_one (ps_expr (pe_bm PySem.F.plainAttrs_list PySem.F.slot_list_append PySem.F.type_list_append mt_append (vv 3) (pa_cons (pe_callTy call_list_of (by rfl) T.f_list b_list (pa_cons (vv 2) pa_nil)) pa_nil)) rfl)))))
    (pss_one (ps_ret (vv 3))))), ?_⟩
  obtain ⟨dx, wv, kv, ft, ht, rw_, rk⟩ := tb.ex
  obtain ⟨a, sv, nv, ov, rfl, h1, rs, rn, ro⟩ := kept_of rk
  obtain ⟨ha, hxs, rfl, hsq, hxd, hty⟩ := sq_of b rh
  have hxl := hxd.length
  rw [List.length_append, List.length_map] at hxl
  refine ⟨_, rfl, by rw [sizeLine_eq]; decide, fun p hp => ?_⟩
  have f1 := Fr.new (.tup [.ty "list", .ty "tuple"]) e hp
  refine ⟨_, p, [.ty "list", .ty "tuple"], _, [.type "list", .type "tuple"], true, rfl, upd_same, .cons (.ty _) (.cons (.ty _) .nil), hty _ (f1.a.trans f1.b), kit_sq b, true, rfl, ?_⟩
  show tNext _ _ _
  dsimp only [tNext]
  obtain ⟨ft1, ht1⟩ := f1.c t _ ft ht
  refine ⟨_, rfl, t, C.ct, dx, _, _, rfl, ht1, T.clsT, T.n_kept, rfl, a, _, 0, _, rfl, rfl, ex_t (f1.a.trans f1.b) h1, rfl, by rw [sizeLine_eq]; decide, fun fa hfa => ⟨_, _, rfl, ?_⟩⟩
  have ffa : upd F0 p (.tup [.ty "list", .ty "tuple"]) fa = none := fresh_back f1.b hfa
  have hfa0 : H fa = none := by
    by_cases z : fa = p
    · rw [z]; exact hp
    · have := hfa; rw [upd_ne z] at this; exact this
  have f2 : Fr F0 H _ _ := f1.off (o := .lst []) hfa0 ffa
  refine ⟨_, rfl, ha, hxs, rfl, sq_ex (f2.a.trans f2.b) hsq, ?_⟩
  refine for_enumS (fun i σ Hi => ∃ Fi sv' xs ix dd, σ = [some (.ref t), some (.ref ha), some sv', some (.ref fa), ix, dd] ∧ Fr F0 H Fi Hi ∧ Fi fa = none ∧ Hi fa = some (.lst xs) ∧ DrAll K Fi xs ((statesM P0 sts (dds.take i)).map oL) ∧ Dr K Fi sv' (oT (lastM P0 sts (dds.take i))) ∧ i ≤ dds.length)
    ⟨_, sv, [], none, none, rfl, f2, ffa, upd_same, .nil, rs.mono f1.a, Nat.zero_le _⟩ (fun i σ Hi _ ⟨Fi, _, _, _, _, _, fi, _⟩ => sq_ex (fi.a.trans fi.b) hsq) ?_ ?_
  · rintro i x Tn σ Hi hx ⟨Fi, sv', xs, ix, dd, rfl, fi, ffi, hfi, rxs, rsv, hile⟩ hTn
    have g1 := Fr.new (.tup [.int (i : Nat), x]) fi.b hTn
    refine ⟨Tn, _, rfl, SqT.of upd_same, rfl, _, _, rfl, _, _, rfl, rfl, ?_⟩
    have e1 := fi.tr g1
    obtain ⟨fti, hti⟩ := e1.c t _ ft ht
    have call : ∀ (dat : PyData), Dr K F0 x dat → ∀ bb, f_can_do [.whl (eW P0), .d (oT (lastM P0 sts (dds.take i))), .d dat] = some (.d (.bool bb)) → ∀ Q : Bool → Hp → Prop, (∀ H1 F1, Fr (upd Fi Tn (.tup [.int (i : Nat), x])) (upd Hi Tn (.tup [.int (i : Nat), x])) F1 H1 → Q bb H1) →
        (tB fun σ H Q => (tCons (tFld K (tVar 0) "base") (tCons (tVar 2) (tCons (tVar 5) tNil))) σ H fun vs H1 => spD K C f_can_do vs H1 Q (fun _ _ _ => False)) [some (.ref t), some (.ref ha), some sv', some (.ref fa), some (.int (i : Nat)), some x] (upd Hi Tn (.tup [.int (i : Nat), x])) Q := by
      intro dat rx bb hb Q hq
      refine ⟨_, rfl, t, C.ct, dx, _, _, rfl, hti, T.clsT, T.n_base, rfl, _, rfl, _, rfl, upd Fi Tn (.tup [.int (i : Nat), x]), _, _, g1.b, .cons (show Rd1 K C _ wv (.whl _) from rw_.mono e1.a) (.cons (show Rd1 K C _ sv' (.d _) from rsv.mono g1.a) (.cons (show Rd1 K C _ x (.d dat) from rx.mono e1.a) .nil)), hb, fun v H1 F1 f1 r1 => ?_⟩
      cases (show Dr K F1 v (.bool bb) from r1)
      exact ⟨bb, rfl, hq H1 F1 f1⟩
    have hfn : upd Hi Tn (.tup [.int (i : Nat), x]) fa = some (.lst xs) := by rw [upd_ne (ne_of_none hfi hTn)]; exact hfi
    have ffn : upd Fi Tn (.tup [.int (i : Nat), x]) fa = none := by rw [upd_ne (ne_of_none hfi hTn)]; exact ffi
    by_cases hd : i < dds.length
    · -- a deed that can be done
      obtain ⟨d, ed⟩ : ∃ d, dds[i]? = some d := ⟨dds[i], List.getElem?_eq_getElem hd⟩
      obtain ⟨lg1, hcan, et⟩ := legal_at lg ed
      obtain ⟨al, ne, le⟩ := okv_last ok lg1
      obtain ⟨s1, r, es⟩ := List.exists_cons_of_ne_nil ne
      have hr2 : r.length ≤ 2 := by rw [es, List.length_cons] at le; omega
      obtain ⟨x', hx', rx⟩ := hxd.get (i := i) (d := eD d) (by rw [List.getElem?_append_left (by simpa using hd)]; simp [ed])
      cases hx.symm.trans hx'
      have hcd := LNm.f_can_do_eq (P := P0) s1 r (by omega) d
      rw [← es, decide_eq_true hcan] at hcd
      refine call (eD d) rx true hcd _ fun H1 F1 f1 => ?_
      show tNext _ _ _
      dsimp only [tNext]
      have e2 := e1.tr f1
      obtain ⟨ft2, ht2⟩ := e2.c t _ ft ht
      have hab := LNm.f_all_behind_eq hP al (by omega) hcan
      refine ⟨_, rfl, t, C.ct, dx, _, _, rfl, ht2, T.clsT, T.n_base, rfl, _, rfl, _, rfl, F1, _, _, f1.b, .cons (show Rd1 K C F1 wv (.whl _) from rw_.mono e2.a) (.cons (show Rd1 K C F1 sv' (.d _) from rsv.mono (g1.a.trans f1.a)) (.cons (show Rd1 K C F1 x (.d (eD d)) from rx.mono e2.a) .nil)), hab, fun lv H2 F2 f2 r2 => ?_⟩
      have rl : Dr K F2 lv (oT (behindM P0 (lastM P0 sts (dds.take i)) d)) := r2
      have e3 := e2.tr f2
      obtain ⟨la, ls, rfl, hls, tls⟩ := tup_of rl
      obtain ⟨ffa1, hfa1⟩ := f1.c fa _ ffn hfn
      obtain ⟨ffa2, hfa2⟩ := f2.c fa _ ffa1 hfa1
      refine ⟨_, rfl, .inl ⟨rfl, _, SqL.of hfa2⟩, _, rfl, la, ls, rfl, .inr (ex_t f2.b hls), fun l hl => ?_⟩
      have f3 := Fr.new (.lst ls) f2.b hl
      have e4 := e3.tr f3
      obtain ⟨ffa3, hfa3⟩ := f3.c fa _ ffa2 hfa2
      have lxs := rxs.length
      rw [List.length_map, states_len, List.length_take] at lxs
      refine ⟨fa, xs, .ref l, rfl, rfl, hfa3, by rw [sizeLine_eq]; omega, ?_⟩
      refine ⟨upd F2 l (.lst ls), .ref la, xs ++ [.ref l], _, _, rfl, e4.off hfa0 ffa3, ffa3, upd_same, ?_, ?_, hd⟩
      · rw [et, states_snoc, List.map_append]
        exact (rxs.mono (g1.a.trans (f1.a.trans (f2.a.trans f3.a)))).app (.cons (.lst upd_same (tls.mono f3.a)) .nil)
      · rw [et, last_snoc]
        exact rl.mono f3.a
    · have hie : i = dds.length := by omega
      rcases q with ⟨htl, q⟩ | ⟨bad, rest, htl, hbad, q⟩
      · rw [htl, List.length_nil] at hxl
        have := (List.getElem?_eq_some_iff.mp hx).1
        omega
      · subst hie
        obtain ⟨x', hx', rx⟩ := hxd.get (i := dds.length) (d := bad) (by rw [htl, List.getElem?_append_right (by simp)]; simp)
        cases hx.symm.trans hx'
        rw [← List.take_length (l := dds)] at hbad
        refine call bad rx false hbad _ fun H1 F1 f1 => ?_
        have e2 := e1.tr f1
        refine ⟨_, rfl, (dds.length : Int), rfl, by omega, fun d hd' => ?_⟩
        refine q d F1 _ ?_ ?_ upd_same
        · exact e2.off (fresh_back' e2 hd') (fresh_back f1.b hd')
        · exact fresh_back' e2 hd'
  · rintro σ Hi ⟨Fi, sv', xs, ix, dd, rfl, fi, ffi, hfi, rxs, rsv, hile⟩
    rcases q with ⟨htl, q⟩ | ⟨bad, rest, htl, hbad, q⟩
    · rw [htl, List.length_nil] at hxl
      have hl2 : hxs.length = dds.length := by omega
      rw [hl2, List.take_length] at rxs
      exact ⟨_, rfl, q (.ref fa) (upd Fi fa (.lst xs)) Hi (fi.inn hfa0 ffi hfi) (.lst upd_same (rxs.mono (Ex.new ffi)))⟩
    · rw [htl, List.length_cons] at hxl
      omega
end LNw
set_option maxHeartbeats 4000000
/-! The law's tried. -/
namespace LNw
open PySem PySem.Spec PyProof.Rows L2 HotX L2H LNa LNb LNi LNt LNp LNn
open LNm (Pt PtOk PtD Sx eO eRow eRdr eS eH eP eW eK Dd eD Al canD behindM Wd wS)
open Evl (Ex Ex.refl Ex.trans Ex.new ex_t ex_l ex_rd fresh_back)
theorem all_mem {P : Pt} {w : Wd} {sts : List Sx} (h : Dd.all w ∈ canD P sts) : w = .tick ∨ w = .op ∨ w = .close ∨ w = .pass := by
  unfold canD at h
  split at h
  · cases h
  · simp only [List.mem_append] at h
    rcases h with ((h | h) | h) | h
    · split at h
      · simp only [List.mem_singleton, Dd.all.injEq] at h
        exact .inl h
      · cases h
    · unfold LNm.onesD at h
      obtain ⟨q, _, e⟩ := List.mem_map.mp h
      cases e
    · unfold LNm.onesD at h
      obtain ⟨q, _, e⟩ := List.mem_map.mp h
      cases e
    · obtain ⟨q, hq, e⟩ := List.mem_map.mp h
      cases e
      have := (List.mem_filter.mp hq).1
      simp only [List.mem_cons, List.not_mem_nil, or_false] at this
      exact .inr this
def odds : List PyData := [.none, .str "strike", .tuple [.str "write", .int 7], .tuple [.str "pass", .int 0], .tuple [.str "write"], .int 5]
theorem odd_no {P : Pt} {sts : List Sx} (h : Okv P sts) {d : PyData} (hd : d ∈ odds) : f_can_do [.whl (eW P), .d (oT sts), .d d] = some (.d (.bool false)) := by
  obtain ⟨al, ne, le⟩ := h
  obtain ⟨s1, r, rfl⟩ := List.exists_cons_of_ne_nil ne
  have hr2 : r.length ≤ 2 := by rw [List.length_cons] at le; omega
  have go : ∀ d : Dd, d ∉ canD P (s1 :: r) → f_can_do [.whl (eW P), .d (oT (s1 :: r)), .d (eD d)] = some (.d (.bool false)) := fun d hn => by
    have := LNm.f_can_do_eq (P := P) s1 r (by omega) d
    rw [decide_eq_false hn] at this
    exact this
  simp only [odds, List.mem_cons, List.not_mem_nil, or_false] at hd
  rcases hd with rfl | rfl | rfl | rfl | rfl | rfl
  · exact LNm.f_can_do_none _
  · exact go (.all .strike) fun z => by rcases all_mem z with z | z | z | z <;> cases z
  · refine go (.one .write 7) fun z => ?_
    obtain ⟨_, q, hq, e, _⟩ := LNm.one_mem _ _ _ z
    have := List.snd_lt_of_mem_zipIdx hq
    rw [List.length_cons] at this
    omega
  · exact go (.one .pass 0) fun z => by rcases (LNm.one_mem _ _ _ z).1 with z | z <;> cases z
  · exact LNm.f_can_do_single _
  · exact LNm.f_can_do_int _ 5
/-- what was drawn so far: dds can be done, tl is what follows from the first wrong one on -/
structure TrS (K : PySem.W.Frag) (F0 H0 F H : Hp) (p ra da : Addr) (k : Int) (P : Pt) (sts : List Sx) (sv : V) (dds : List Dd) (tl : List PyData) : Prop where
  gr : Gr (· = p) F0 H0 F H
  dr : Drw K F H p k
  rx : ∃ rxs, F ra = none ∧ H ra = some (.lst rxs) ∧ DrAll K F rxs (dds.map eD ++ tl)
  dx : ∃ dxs, F da = none ∧ H da = some (.lst dxs) ∧ DrAll K F dxs ((statesM P sts dds).map oL)
  sv_ : Dr K F sv (oL (lastM P sts dds))
  lg : LegalM P sts dds
def Wrg (P : Pt) (sts : List Sx) (dds : List Dd) (tl : List PyData) (wv : V) : Prop := (tl = [] ∧ wv = .non) ∨ ∃ bad rest, tl = bad :: rest ∧ wv = .int (dds.length : Int) ∧ f_can_do [.whl (eW P), .d (oT (lastM P sts dds)), .d bad] = some (.d (.bool false))
section
variable {K : PySem.W.Frag} {F0 H0 F H F' H' : Hp} {p ra da : Addr} {k k' : Int} {P : Pt} {sts : List Sx} {sv : V} {dds : List Dd} {tl : List PyData}
theorem TrS.next (t : TrS K F0 H0 F H p ra da k P sts sv dds tl) (g : Gr (· = p) F H F' H') (d : Drw K F' H' p k') (n1 : ra ≠ p) (n2 : da ≠ p) : TrS K F0 H0 F' H' p ra da k' P sts sv dds tl := by
  obtain ⟨rxs, a1, a2, a3⟩ := t.rx
  obtain ⟨dxs, b1, b2, b3⟩ := t.dx
  refine ⟨t.gr.tr g fun q hq _ _ => by subst hq; exact t.dr.isSome, d, ⟨rxs, (g.c _ _ a1 a2).1, (g.c _ _ a1 a2).2 n1, a3.mono g.a⟩, ⟨dxs, (g.c _ _ b1 b2).1, (g.c _ _ b1 b2).2 n2, b3.mono g.a⟩, t.sv_.mono g.a, t.lg⟩
theorem TrS.fr (t : TrS K F0 H0 F H p ra da k P sts sv dds tl) (f : Fr F H F' H') (n1 : ra ≠ p) (n2 : da ≠ p) : TrS K F0 H0 F' H' p ra da k P sts sv dds tl := t.next f.gr (t.dr.fr f) n1 n2
end
theorem _root_.LNn.Gr.off {M : Addr → Prop} {F H F1 H1 : Hp} {fa : Addr} {o : HO} (g : Gr M F H F1 H1) (h0 : H fa = none) (h1 : F1 fa = none) : Gr M F H F1 (upd H1 fa o) :=
  ⟨g.a, ex_out g.b h1, fun p u a b => ⟨(g.c p u a b).1, fun z => by rw [upd_ne (ne_of_none b h0)]; exact (g.c p u a b).2 z⟩⟩
theorem _root_.LNn.Gr.inn {M : Addr → Prop} {F H F1 H1 : Hp} {fa : Addr} {o : HO} (g : Gr M F H F1 H1) (h0 : H fa = none) (h1 : F1 fa = none) (h2 : H1 fa = some o) : Gr M F H (upd F1 fa o) H1 :=
  ⟨g.a.trans (Ex.new h1), (freeze1 g.b h1 h2).2, fun p u a b => ⟨by rw [upd_ne (ne_of_none b h0)]; exact (g.c p u a b).1, fun z => (g.c p u a b).2 z⟩⟩
theorem _root_.LNn.Drw.inn {K : PySem.W.Frag} {F H : Hp} {p q : Addr} {k : Int} {o : HO} (d : Drw K F H p k) (h : p ≠ q) (hq : F q = none) : Drw K (upd F q o) H p k := by
  obtain ⟨sv, cells, a, b, c⟩ := d.ex
  exact ⟨sv, cells, (upd_ne h).trans a, b, c.mono (Ex.new hq)⟩
def rTupO (K : PySem.W.Frag) : List V → Hp → VK → Prop := fun xs H Q => ∃ p ys, xs = [V.ref p] ∧ ((SqL K H p ys ∧ ∀ l, H l = none → Q (.ref l) (upd H l (.tup ys))) ∨ (SqT K H p ys ∧ Q (.ref p) H))
/-- the turn's end: what was picked goes into the row -/
def T34 (K : PySem.W.Frag) (C : Cs K) : TS := fun D σ H => ∃ F0 H0 p t ra da h pv P sts F k sv wv tn dv dat dds tl,
  σ = [some (.ref p), some (.ref t), some pv, some (.ref h), some sv, some (.ref ra), some (.ref da), some wv, tn, some dv, none] ∧ PtOk P ∧ Okv P sts ∧ ra ≠ p ∧ da ≠ p ∧ ra ≠ da ∧ H0 ra = none ∧ H0 da = none ∧ TrS K F0 H0 F H p ra da k P sts sv dds tl ∧ Dr K F pv (eP P) ∧ Dr K F dv dat ∧ dds.length + tl.length ≤ 10 ∧
  ((wv = .non ∧ tl = [] ∧ ∃ d, dat = eD d ∧ d ∈ canD P (lastM P sts dds)) ∨ (wv = .int (dds.length : Int) ∧ ∃ bad rest, tl ++ [dat] = bad :: rest ∧ f_can_do [.whl (eW P), .d (oT (lastM P sts dds)), .d bad] = some (.d (.bool false)))) ∧
  ∀ F' H' sv' dds' tl', Ex F F' → TrS K F0 H0 F' H' p ra da k P sts sv' dds' tl' → Wrg P sts dds' tl' wv → dds'.length + tl'.length = dds.length + tl.length + 1 → D.nx [some (.ref p), some (.ref t), some pv, some (.ref h), some sv', some (.ref ra), some (.ref da), some wv, tn, some dv, none] H'
abbrev N_tr : List Str := ["_law_draw", "_law_table", "_law_parts_here", "_law_here", "_law_states", "_law_row", "_law_due", "_law_wrong", "_law_turn", "_law_deed", "error"]
theorem s_tr : FnScope N_tr ["_law_draw", "_law_table", "_law_parts_here", "_law_here"] (defScope (top 65)) := ⟨rfl, rfl, rfl, by decide +kernel, rfl, by decide +kernel, by decide +kernel⟩
def spTR (K : PySem.W.Frag) (C : Cs K) : Sp := fun vs H Q _ => ∃ F p t h n o k P sts notes olds fl pv, vs = [.ref p, .ref t, pv, .ref h] ∧ Ex F H ∧ Wl K C F H p t h n o k P sts notes olds fl ∧ Dr K F pv (eP P) ∧ Vd P sts notes olds ∧ 0 ≤ k ∧ k + 24 ≤ kMax ∧
  ∀ F' H' k', Gr (· = p) F H F' H' → Wl K C F' H' p t h n o k' P sts notes olds fl → k ≤ k' → k' ≤ k + 16 → Q (.bl true) H'
/-- the body of its loop -/
def bodyTR : List Stmt := match (defBody (top 65)).getD 1 (.Pass ⟨0, 0, 0, 0⟩) with
  | .For _ _ b _ _ => b
  | _ => []
theorem t_tr {P : Program} {w : World} {K : PySem.W.Frag} {mg : Str → Option Value} {base : Heap} {C : Cs K} {f cH fI : Addr} (T : Tw K mg C) (F : FdS K "_law_tried_right" "_law_tried_right" (top 65) f) (B : BhTxt P K mg cH fI)
    (D_take : DfM C8.CX0 P w K mg base "_law_take" 2 (spTake K)) (D_pick : DfM C8.CX0 P w K mg base "_law_pick" 3 (spPick K)) (D_can : Dfn P w K mg base C "_law_can" 4 f_l_can) (D_behind : DfC P w K mg base C "_law_behind" 4 f_l_behind)
    (D_tried : DmM (L2.CX P w) P w K mg base C.ct "tried" 6 (spTried K C cH)) :
    ∃ fd, Binds K fd ["_law_draw", "_law_table", "_law_parts_here", "_law_here"] [] ∧ FnOk P w K mg base C8.CX0 8 f fd ["_law_draw", "_law_table", "_law_parts_here", "_law_here"] (spTR K C) := by
  refine fd_M F s_tr (fun _ _ _ _ _ _ us hl => match us, hl with | [_, _, _, _], _ => rfl) (fun vs H Q E ⟨_, _, _, _, _, _, _, _, _, _, _, _, _, e, _⟩ => by rw [e]; rfl) fun cdv A outer s H vs Q E hr h => ?_
  have hh : RoomH 7 (A.deeper (envOfC "_law_tried_right" (defScope (top 65)) s.heap.objs.size f cdv)) := ⟨hr.dp, hr.un⟩
  obtain ⟨F0, p, t, h, n, o, k, P0, sts, notes, olds, fl, pv, rfl, e, W, rp, vd, k0, k3, q⟩ := h
  refine ⟨_, PSs.nox (pss_cons (ps_asg (pe_tup (pa_cons (pe_ix ix_list (vv 3) pe_int (fun _ _ => rfl)) (pa_cons (pe_lst pa_nil) (pa_cons (pe_lst pa_nil) (pa_cons pe_non pa_nil))))) (pg_tup rfl (pgs_cons (pg_name (i := 4) s_tr.nd rfl (by first | exact .inl rfl | exact .inr rfl)) (pgs_cons (pg_name (i := 5) s_tr.nd rfl (by first | exact .inl rfl | exact .inr rfl)) (pgs_cons (pg_name (i := 6) s_tr.nd rfl (by first | exact .inl rfl | exact .inr rfl)) (pgs_cons (pg_name (i := 7) s_tr.nd rfl (by first | exact .inl rfl | exact .inr rfl)) pgs_nil))))))
    (pss_cons (ps_for PassesOwn.never rfl (pi_range1 (by rfl) T.f_range (pa_cons (m_call D_take hr C8.pass0 (E := fun _ _ _ => False) (pa_cons (vv 0) (pa_cons pe_int pa_nil))) pa_nil)) (pg_name (i := 8) s_tr.nd rfl (by first | exact .inl rfl | exact .inr rfl))
      (pss_cons (ps_asg (m_call D_pick hr C8.pass0 (E := fun _ _ _ => False) (pa_cons (vv 0) (pa_cons (m_call D_can.m hr C8.pass0 (E := fun _ _ _ => False) (pa_cons (vv 2) (pa_cons (vv 4) pa_nil))) pa_nil))) (pg_name (i := 9) s_tr.nd rfl (by first | exact .inl rfl | exact .inr rfl)))
      (pss_cons (ps_if (pt_cmp (pc_eqI (m_call D_take hr C8.pass0 (E := fun _ _ _ => False) (pa_cons (vv 0) (pa_cons pe_int pa_nil))) pe_int))
          (pss_cons (ps_asg (m_pick (C := C) D_pick hr (i_lst (ia_cons i_non (ia_cons i_str (ia_cons (i_tup (ia_cons i_str (ia_cons i_int ia_nil))) (ia_cons (i_tup (ia_cons i_str (ia_cons i_int ia_nil))) (ia_cons (i_tup (ia_cons i_str ia_nil)) (ia_cons i_int ia_nil))))))) (vv 0)) (pg_name (i := 9) s_tr.nd rfl (by first | exact .inl rfl | exact .inr rfl)))
          (pss_one (ps_asg (pe_ifExp (pt_cmp (pc_isN (vv 7))) (vv 8) (vv 7)) (pg_name (i := 7) s_tr.nd rfl (by first | exact .inl rfl | exact .inr rfl))))) pss_nil)
      (PSs.imp (t' := T34 K C) (pss_cons (ps_if (pt_cmp (pc_isN (vv 7)))
          (pss_cons (ps_asg (m_call D_behind.m hr C8.pass0 (E := fun _ _ _ => False) (pa_cons (vv 2) (pa_cons (vv 4) (pa_cons (vv 9) pa_nil)))) (pg_name (i := 4) s_tr.nd rfl (by first | exact .inl rfl | exact .inr rfl)))
          (pss_one (ps_expr (pe_bm PySem.F.plainAttrs_list PySem.F.slot_list_append PySem.F.type_list_append mt_append (vv 6) (pa_cons (vv 4) pa_nil)) rfl))) pss_nil)
        (pss_one (ps_expr (pe_bm PySem.F.plainAttrs_list PySem.F.slot_list_append PySem.F.type_list_append mt_append (vv 5) (pa_cons (vv 9) pa_nil)) rfl))) (fun D σ H h => ?mid)))))
    (pss_one (ps_try_as (i := 10) rfl rfl s_tr.nd rfl rfl ⟨rfl, by decide, .inl B.gC⟩ takes0
      (fun W pn xe tk _ => pss_one (ps_ret (pe_and (pe_cmpR (show OpR _ (compareOp .Eq) (rEqD K) from op_eqD (hu2_ofH hh)) (m_meth D_tried hr (fun σ => passAt tk σ) (vv 1) (pa_cons (vv 5) pa_nil)) (vv 6) (nomark _)) (pe_and (pe_cmp (pc_isN (vv 7)) rfl) (pe_one (pe_cmpR (show OpR _ (compareOp .Eq) (rEqD K) from op_eqD (hu2_ofH hh)) (m_meth D_tried hr (fun σ => passAt tk σ) (vv 1) (pa_cons (pe_callTy (show CallR _ (.type "tuple") (rTupO K) from call_tuple_of) (by rfl) T.f_tuple b_tuple (pa_cons (vv 5) pa_nil)) pa_nil)) (vv 6) (nomark _)))))))
      (fun a oe cls d pn hz hf => pss_one (ps_ret (pe_and (pe_cmp (pc_notN (vv 7)) rfl) (pe_one (pe_cmp (pc_eqI (pe_idx B hz hf (vv 10)) (vv 7))))))))))), ?_⟩
  case mid =>
    obtain ⟨F1, H1, p, t, ra, da, h, pv, P, sts, Fi, k, sv, wv, tn, dv, dat, dds, tl, rfl, hP, ok, n1, n2, n3, hra, hda, ts, rp, rd, hlen, hc, q⟩ := h
    refine ⟨_, rfl, _, rfl, ?_⟩
    rcases hc with ⟨rfl, rfl, d, rfl, hd⟩ | ⟨rfl, bad, rest, hb, hf⟩
    · rw [if_pos (decide_eq_true rfl)]
      obtain ⟨al, ne, le⟩ := okv_last ok ts.lg
      refine ⟨_, rfl, _, rfl, _, rfl, Fi, _, _, ts.gr.b, .cons (show Rd1 K C Fi pv (.d (eP P)) from rp) (.cons (show Rd1 K C Fi sv (.d _) from ts.sv_) (.cons (show Rd1 K C Fi dv (.d _) from rd) .nil)), LNm.l_behind_eq hP al (by omega) hd, fun lv H2 F2 f2 r2 => ?_⟩
      have r2 : Dr K F2 lv (oL (behindM P (lastM P sts dds) d)) := r2
      dsimp only [gName, List.set_cons_succ, List.set_cons_zero]
      have t2 := ts.fr f2 n1 n2
      obtain ⟨rxs, fra, hr2, rr⟩ := t2.rx
      obtain ⟨dxs, fda, hd2, rdx⟩ := t2.dx
      have lr := rr.length
      have ld := rdx.length
      rw [List.length_append, List.length_map] at lr
      rw [List.length_map, states_len] at ld
      refine ⟨_, rfl, .inl ⟨rfl, _, SqL.of hd2⟩, _, rfl, da, dxs, lv, rfl, rfl, hd2, by rw [sizeLine_eq]; omega, ?_⟩
      have hr3 : upd H2 da (.lst (dxs ++ [lv])) ra = some (.lst rxs) := (upd_ne n3).trans hr2
      refine ⟨_, rfl, .inl ⟨rfl, _, SqL.of hr3⟩, _, rfl, ra, rxs, dv, rfl, rfl, hr3, by rw [sizeLine_eq]; omega, ?_⟩
      refine q F2 _ lv (dds ++ [d]) [] f2.a ⟨(t2.gr.off hda fda).off hra fra, (t2.dr.upd (Ne.symm n2)).upd (Ne.symm n1), ⟨_, fra, upd_same, ?_⟩, ⟨_, fda, (upd_ne (Ne.symm n3)).trans upd_same, ?_⟩, ?_, ?_⟩ (.inl ⟨rfl, rfl⟩) (by simp)
      · rw [List.append_nil] at rr ⊢
        rw [List.map_append]
        exact rr.app (.cons (rd.mono f2.a) .nil)
      · rw [states_snoc, List.map_append]
        exact rdx.app (.cons r2 .nil)
      · rw [last_snoc]; exact r2
      · rw [legal_snoc]; exact ⟨ts.lg, hd⟩
    · rw [if_neg (by simp)]
      obtain ⟨rxs, fra, hr2, rr⟩ := ts.rx
      obtain ⟨dxs, fda, hd2, rdx⟩ := ts.dx
      have lr := rr.length
      rw [List.length_append, List.length_map] at lr
      refine ⟨_, rfl, .inl ⟨rfl, _, SqL.of hr2⟩, _, rfl, ra, rxs, dv, rfl, rfl, hr2, by rw [sizeLine_eq]; omega, ?_⟩
      refine q Fi _ sv dds (tl ++ [dat]) (Ex.refl Fi) ⟨ts.gr.off hra fra, ts.dr.upd (Ne.symm n1), ⟨_, fra, upd_same, ?_⟩, ⟨dxs, fda, (upd_ne (Ne.symm n3)).trans hd2, rdx⟩, ts.sv_, ts.lg⟩ (.inr ⟨bad, rest, hb, rfl, hf⟩) (by simp; omega)
      rw [← List.append_assoc]
      exact rr.app (.cons rd .nil)
  obtain ⟨sv0, nvs, ovs, fh, hh, fn, hn, fo, ho, rs, rn, ro⟩ := W.hr.ex
  obtain ⟨npt, nph, npn, npo, nth, ntn, nto, nhn, nho, nno⟩ := nes_of W.nd
  have ok : Okv P0 sts := ⟨vd.al, vd.ne, vd.le⟩
  refine ⟨_, rfl, h, _, 0, sv0, rfl, rfl, SqL.of hh, rfl, by simp [sizeLine_eq], fun ra hra => ⟨by simp [sizeLine_eq], fun da hda => ⟨by simp [sizeLine_eq], fun tp htp => ⟨tp, _, rfl, SqT.of upd_same, rfl, _, _, rfl, _, _, rfl, _, _, rfl, _, _, rfl, rfl, ?_⟩⟩⟩⟩
  have hda0 : H da = none := by
    by_cases z : da = ra
    · rw [z]; exact hra
    · rw [upd_ne z] at hda; exact hda
  have nrd : ra ≠ da := fun z => by rw [← z, upd_same] at hda; cases hda
  have pS := W.dr.isSome
  have nrp : ra ≠ p := fun z => by rw [← z, hra] at pS; cases pS
  have ndp : da ≠ p := fun z => by rw [← z, hda0] at pS; cases pS
  have g0 : Gr (· = p) F0 H F0 (upd (upd H ra (.lst [])) da (.lst [])) := ((Gr.refl e).off hra (fresh_back e hra)).off hda0 (fresh_back e hda0)
  have f1 := Fr.new (.tup [sv0, .ref ra, .ref da, .non]) g0.b htp
  have ts0 : TrS K F0 H _ _ p ra da k P0 sts sv0 [] [] := TrS.fr (F := F0) (H := upd (upd H ra (.lst [])) da (.lst [])) ⟨g0, (W.dr.upd (Ne.symm nrp)).upd (Ne.symm ndp), ⟨[], fresh_back e hra, (upd_ne nrd).trans upd_same, .nil⟩, ⟨[], fresh_back e hda0, upd_same, .nil⟩, rs, trivial⟩ f1 nrp ndp
  generalize upd (upd (upd H ra (.lst [])) da (.lst [])) tp (.tup [sv0, .ref ra, .ref da, .non]) = H1 at ts0
  generalize upd F0 tp (.tup [sv0, .ref ra, .ref da, .non]) = F1 at ts0
  clear f1 g0 hda htp
  refine ⟨_, rfl, F1, p, k, 6, rfl, ts0.gr.b, ts0.dr, k0, by omega, by omega, fun r F2 H2 r0 r6 g2 d2 => ⟨r, rfl, by omega, by omega, ?_⟩⟩
  have ts1 := ts0.next g2 d2 nrp ndp
  refine for_range (lo := 0) (n := r.toNat) (fun i σ Hi => ∃ Fi ki sv wv tn dv dds tl, σ = [some (.ref p), some (.ref t), some pv, some (.ref h), some sv, some (.ref ra), some (.ref da), some wv, tn, dv, none] ∧ TrS K F0 H Fi Hi p ra da ki P0 sts sv dds tl ∧ Wrg P0 sts dds tl wv ∧ dds.length + tl.length = i ∧ k ≤ ki ∧ ki ≤ k + 1 + 3 * (i : Int))
    ⟨F2, k + 1, sv0, .non, none, none, [], [], rfl, ts1, .inl ⟨rfl, rfl⟩, rfl, by omega, by omega⟩ ?_ ?_
  · rintro i σ Hi hi ⟨Fi, ki, sv, wv, tn, dv, dds, tl, rfl, ts, wr, hlen, kl, ku⟩
    have hi6 : i ≤ 5 := by omega
    have rpi := rp.mono ts.gr.a
    obtain ⟨al, ne, le⟩ := okv_last ok ts.lg
    obtain ⟨s1, rr, es⟩ := List.exists_cons_of_ne_nil ne
    have hr2 : rr.length ≤ 2 := by rw [es, List.length_cons] at le; omega
    have ce : f_l_can [.d (eP P0), .d (oL (lastM P0 sts dds))] = some (.d (.list (LNm.canM P0 (lastM P0 sts dds)))) := by
      have := LNm.l_can_eq vd.ok s1 rr (by omega)
      rw [← es] at this
      exact this
    dsimp only [gName, List.set_cons_succ, List.set_cons_zero]
    refine ⟨_, rfl, _, rfl, _, rfl, Fi, _, _, ts.gr.b, .cons (show Rd1 K C Fi pv (.d (eP P0)) from rpi) (.cons (show Rd1 K C Fi sv (.d _) from ts.sv_) .nil), ce, fun cv H3 F3 f3 r3 => ?_⟩
    have t3 := ts.fr f3 nrp ndp
    have r3' : Dr K F3 cv (.list ((canD P0 (lastM P0 sts dds)).map eD)) := by
      have := r3; rw [LNm.canM_D] at this; exact this
    have cne : (canD P0 (lastM P0 sts dds)).map eD ≠ [] := by
      intro z
      have m := List.mem_map_of_mem (f := eD) (pass_in (P := P0) s1 rr)
      rw [← es, z] at m
      cases m
    refine ⟨F3, p, ki, cv, _, rfl, f3.b, t3.dr, by omega, by omega, r3', cne, fun d4 u4 F4 H4 m4 r4 g4 dr4 => ?_⟩
    obtain ⟨d, hd, rfl⟩ := List.mem_map.mp m4
    have t4 := t3.next g4 dr4 nrp ndp
    dsimp only [gName, List.set_cons_succ, List.set_cons_zero]
    refine ⟨_, rfl, F4, p, ki + 1, 7, rfl, t4.gr.b, t4.dr, by omega, by omega, by omega, fun q7 F5 H5 q0 q7' g5 dr5 => ⟨q7, 0, rfl, rfl, _, rfl, ?_⟩⟩
    have t5 := t4.next g5 dr5 nrp ndp
    refine split_if (fun z => ?_) fun z => ?_
    · have s5 : DS K F5 H5 F5 H5 p (ki + 1 + 1) := ⟨Gr.refl t5.gr.b, t5.dr⟩
      refine pick_go (ρ := [none, none, none, none, none, none, none, none, none, none, none]) (.skip (.skip (.skip (.skip (.skip (.skip (.skip (.skip (.skip (.skip (.skip .nil))))))))))) rfl s5 (by omega) (by omega) (ds := odds) rfl (by simp [odds]) fun d6 u6 F6 H6 m6 r6 e6 s6 => ?_
      have t6 := t5.next s6.gr s6.dr nrp ndp
      have hno := odd_no (okv_last ok ts.lg) m6
      dsimp only [gName, List.set_cons_succ, List.set_cons_zero]
      refine ⟨_, rfl, _, rfl, ?_⟩
      rcases wr with ⟨rfl, rfl⟩ | ⟨bad, rest, rfl, rfl, hf⟩
      · rw [if_pos (decide_eq_true rfl)]
        refine ⟨_, rfl, ?_⟩
        dsimp only [gName, List.set_cons_succ, List.set_cons_zero]
        refine ⟨F0, H, p, t, ra, da, h, pv, P0, sts, F6, _, sv, .int (0 + (i : Int)), _, u6, d6, dds, [], rfl, vd.ok, ok, nrp, ndp, nrd, hra, hda0, t6, rp.mono t6.gr.a, r6, by omega, .inr ⟨?_, d6, [], rfl, hno⟩, fun F7 H7 sv7 dds7 tl7 e7 t7 w7 l7 => ⟨F7, _, sv7, _, _, _, dds7, tl7, rfl, t7, w7, by omega, by omega, by omega⟩⟩
        rw [List.length_nil] at hlen
        rw [show (0 + (i : Int)) = (dds.length : Int) by omega]
      · rw [if_neg (by simp)]
        refine ⟨_, rfl, ?_⟩
        dsimp only [gName, List.set_cons_succ, List.set_cons_zero]
        exact ⟨F0, H, p, t, ra, da, h, pv, P0, sts, F6, _, sv, _, _, u6, d6, dds, bad :: rest, rfl, vd.ok, ok, nrp, ndp, nrd, hra, hda0, t6, rp.mono t6.gr.a, r6, by omega, .inr ⟨rfl, bad, rest ++ [d6], rfl, hf⟩, fun F7 H7 sv7 dds7 tl7 e7 t7 w7 l7 => ⟨F7, _, sv7, _, _, _, dds7, tl7, rfl, t7, w7, by omega, by omega, by omega⟩⟩
    · show T34 K C _ _ _
      have r5 : Dr K F5 u4 (eD d) := r4.mono g5.a
      rcases wr with ⟨rfl, rfl⟩ | ⟨bad, rest, rfl, rfl, hf⟩
      · exact ⟨F0, H, p, t, ra, da, h, pv, P0, sts, F5, _, sv, _, _, u4, eD d, dds, [], rfl, vd.ok, ok, nrp, ndp, nrd, hra, hda0, t5, rp.mono t5.gr.a, r5, by omega, .inl ⟨rfl, rfl, d, rfl, hd⟩, fun F7 H7 sv7 dds7 tl7 e7 t7 w7 l7 => ⟨F7, _, sv7, _, _, _, dds7, tl7, rfl, t7, w7, by omega, by omega, by omega⟩⟩
      · exact ⟨F0, H, p, t, ra, da, h, pv, P0, sts, F5, _, sv, _, _, u4, eD d, dds, bad :: rest, rfl, vd.ok, ok, nrp, ndp, nrd, hra, hda0, t5, rp.mono t5.gr.a, r5, by omega, .inr ⟨rfl, bad, rest ++ [eD d], rfl, hf⟩, fun F7 H7 sv7 dds7 tl7 e7 t7 w7 l7 => ⟨F7, _, sv7, _, _, _, dds7, tl7, rfl, t7, w7, by omega, by omega, by omega⟩⟩
  · rintro σ Hi ⟨Fi, ki, sv, wv, tn, dv, dds, tl, rfl, ts, wr, hlen, kl, ku⟩
    obtain ⟨rxs, fra, hr2, rr⟩ := ts.rx
    obtain ⟨dxs, fda, hd2, rdx⟩ := ts.dx
    -- both lists stand still from here on
    have ga := ts.gr.inn hra fra hr2
    have fda2 : upd Fi ra (.lst rxs) da = none := (upd_ne (Ne.symm nrd)).trans fda
    have gb := ga.inn hda0 fda2 hd2
    have dr2 : Drw K (upd (upd Fi ra (.lst rxs)) da (.lst dxs)) Hi p ki := (ts.dr.inn (Ne.symm nrp) fra).inn (Ne.symm ndp) fda2
    have ea : Ex Fi (upd (upd Fi ra (.lst rxs)) da (.lst dxs)) := (Ex.new fra).trans (Ex.new fda2)
    have rrow : Dr K (upd (upd Fi ra (.lst rxs)) da (.lst dxs)) (.ref ra) (.list (dds.map eD ++ tl)) := .lst ((upd_ne nrd).trans upd_same) (rr.mono ea)
    have rdue : Dr K (upd (upd Fi ra (.lst rxs)) da (.lst dxs)) (.ref da) (.list ((statesM P0 sts dds).map oL)) := .lst upd_same (rdx.mono ea)
    generalize upd (upd Fi ra (.lst rxs)) da (.lst dxs) = G at gb dr2 rrow rdue
    have W2 := W.draw gb dr2
    have hl1 : dds.length ≤ 1000 := by omega
    obtain ⟨dx, wv2, kv, ft, ht, _, _⟩ := W2.tb.ex
    have shd : LNm.Shp 4 (.list ((statesM P0 sts dds).map oL)) := LNm.shp_list (LNm.shp_map fun q => LNm.shp_list (LNm.shp_map LNm.shp_S))
    refine ⟨_, rfl, t, dx, _, rfl, ht, rfl, _, rfl, G, t, .ref ra, true, dds, tl, P0, sts, notes, olds, fl, rfl, gb.b, W2.tb, vd.ok, ok, rrow, ts.lg, hl1, ?_⟩
    rcases wr with ⟨rfl, rfl⟩ | ⟨bad, rest, rfl, rfl, hf⟩
    · refine .inl ⟨rfl, fun u F3 H3 f3 r3 => ⟨_, rfl, ?_⟩⟩
      refine go_eq (X := cxOf C8.CX0 P w K mg base N_tr "_law_tried_right" (defScope (top 65)) f cdv A outer s H E) (C := C) u (.ref da) F3 _ (.d (.list ((statesM P0 sts dds).map oL))) (.d (.list ((statesM P0 sts dds).map oL))) (.d (.bool true)) f3.b r3 (rdue.mono f3.a) (geq_self shd (by omega)) _ fun w4 H4 F4 f4 r4 => ?_
      cases (show Dr K F4 w4 (.bool true) from r4)
      refine ⟨true, rfl, ?_⟩
      rw [if_pos rfl]
      refine ⟨_, rfl, true, rfl, ?_⟩
      rw [if_pos rfl]
      have f34 := f3.tr f4
      have W4 := W2.fr f34
      obtain ⟨dx4, wv4, kv4, ft4, ht4, _, _⟩ := W4.tb.ex
      obtain ⟨ra', xs5, er, hx5, t5⟩ := lst_of (rrow.mono f34.a)
      cases er
      refine ⟨_, rfl, t, dx4, _, rfl, ht4, rfl, _, rfl, ra, xs5, rfl, .inl ⟨SqL.of (f34.b _ _ hx5), fun l hl => ?_⟩⟩
      have f5 := Fr.new (.tup xs5) f34.b hl
      have f35 := f34.tr f5
      refine ⟨_, t, .ref l, false, dds, [], P0, sts, notes, olds, fl, rfl, f5.b, W4.tb.fr f5, vd.ok, ok, .tup (SqT.of upd_same) (t5.mono f5.a), ts.lg, hl1, .inl ⟨rfl, fun u6 F6 H6 f6 r6 => ⟨_, rfl, ?_⟩⟩⟩
      refine go_eq (X := cxOf C8.CX0 P w K mg base N_tr "_law_tried_right" (defScope (top 65)) f cdv A outer s H E) (C := C) u6 (.ref da) F6 _ (.d (.list ((statesM P0 sts dds).map oL))) (.d (.list ((statesM P0 sts dds).map oL))) (.d (.bool true)) f6.b r6 (rdue.mono (f35.a.trans f6.a)) (geq_self shd (by omega)) _ fun w7 H7 F7 f7 r7 => ?_
      cases (show Dr K F7 w7 (.bool true) from r7)
      have fz := f35.tr (f6.tr f7)
      exact q F7 H7 ki (gb.tr fz.gr fun q hq _ _ => by subst hq; exact dr2.isSome) (W2.fr fz) kl (by omega)
    · refine .inr ⟨bad, rest, rfl, hf, fun d F3 H3 f3 hd0 hd3 => ⟨true, B.te, fun _ a ha => ?_, fun z => Bool.noConfusion z⟩⟩
      refine ⟨_, rfl, true, rfl, ?_⟩
      rw [if_pos rfl]
      refine ⟨_, rfl, rfl, rfl, d, _, rfl, hd3, _, rfl, dds.length, dds.length, rfl, rfl, ?_⟩
      show Q (.bl (decide ((dds.length : Int) = (dds.length : Int)))) H3
      rw [decide_eq_true rfl]
      exact q F3 H3 ki (gb.tr f3.gr fun q hq _ _ => by subst hq; exact dr2.isSome) (W2.fr f3) kl (by omega)
end LNw
set_option maxHeartbeats 4000000
/-! Frames that leave the tables of code objects open; the account copied. -/
namespace LNw
open PySem PySem.Spec PyProof.Rows L2 HotX L2H LNa LNb LNi LNt LNp LNn LamX NdefX
open LNm (Pt PtOk PtD Sx eO eRow eRdr eS eH eP eW eK Dd eD Al canD behindM Wd wS)
open Evl (Ex Ex.refl Ex.trans Ex.new ex_t ex_l ex_rd fresh_back)
def Ntb (o : HO) : Prop := ∀ ps, o ≠ .tbl ps
theorem ntb_lst {xs : List V} : Ntb (.lst xs) := fun _ z => by cases z
theorem ntb_ins {C dx : Addr} {fs : List (Str × V)} : Ntb (.ins C dx fs) := fun _ z => by cases z
/-- as Gr, but for tables -/
structure GrT (M : Addr → Prop) (F H F' H' : Hp) : Prop where
  a : Ex F F'
  b : Ex F' H'
  c : ∀ p o, F p = none → H p = some o → Ntb o → F' p = none ∧ (¬ M p → H' p = some o)
section
variable {M M' : Addr → Prop} {F H F' H' F1 H1 F2 H2 : Hp}
theorem _root_.LNn.Gr.t (g : Gr M F H F' H') : GrT M F H F' H' := ⟨g.a, g.b, fun p o x y _ => g.c p o x y⟩
theorem _root_.LNi.Fr.t (f : Fr F H F' H') : GrT M F H F' H' := (f.gr).t
theorem GrT.refl (e : Ex F H) : GrT M F H F H := (Gr.refl e).t
theorem GrT.wide (g : GrT M F H F' H') (hm : ∀ p, M p → M' p) : GrT M' F H F' H' := ⟨g.a, g.b, fun p o x y n => ⟨(g.c p o x y n).1, fun z => (g.c p o x y n).2 fun q => z (hm p q)⟩⟩
/-- narrowed to what stood -/
theorem GrT.thin (g : GrT M F H F' H') (hm : ∀ p o, M p → F p = none → H p = some o → Ntb o → M' p) : GrT M' F H F' H' := ⟨g.a, g.b, fun p o x y n => ⟨(g.c p o x y n).1, fun z => (g.c p o x y n).2 fun q => z (hm p o q x y n)⟩⟩
theorem GrT.tr (x : GrT M F H F1 H1) (y : GrT M F1 H1 F2 H2) (there : ∀ p o, M p → F p = none → H p = some o → Ntb o → ∃ o', H1 p = some o' ∧ Ntb o') : GrT M F H F2 H2 := by
  refine ⟨x.a.trans y.a, y.b, fun p o g1 g2 n => ?_⟩
  obtain ⟨a, b⟩ := x.c p o g1 g2 n
  by_cases z : M p
  · obtain ⟨o', e, n'⟩ := there p o z g1 g2 n
    exact ⟨(y.c p o' a e n').1, fun w => absurd z w⟩
  · exact y.c p o a (b z) n
end
/-- neither a table nor a code object -/
def Pln (o : HO) : Prop := Ntb o ∧ ∀ φ, o ≠ .ext φ
theorem pln_lst {xs : List V} : Pln (.lst xs) := ⟨ntb_lst, fun _ z => by cases z⟩
theorem pln_ins {C dx : Addr} {fs : List (Str × V)} : Pln (.ins C dx fs) := ⟨ntb_ins, fun _ z => by cases z⟩
theorem tabs_gr {T : List (Addr × Str)} {M : Addr → Prop} {F H F' H' : Hp} (hM : ∀ q o, M q → H q = some o → Pln o) (g : Gr M F H F' H') (ex : Ex F H) (n : NT F) (tb : Tabs T H) : Tabs T H' := by
  intro p hp
  obtain ⟨ps, h1, h2, h3⟩ := tb p hp
  have f1 : F p.1 = none := by
    cases e : F p.1 with
    | none => rfl
    | some u =>
      have := ex _ _ e
      rw [h1] at this
      cases this
      exact absurd e (n _ _)
  refine ⟨ps, (g.c _ _ f1 h1).2 (fun z => (hM _ _ z h1).1 ps rfl), h2, fun pos cv hc => ?_⟩
  obtain ⟨c, e1, e2⟩ := h3 pos cv hc
  refine ⟨c, e1, ?_⟩
  cases e : F c with
  | some u =>
    have := ex _ _ e
    rw [e2] at this
    cases this
    exact g.b _ _ (g.a _ _ e)
  | none => exact (g.c _ _ e e2).2 fun z => (hM _ _ z e2).2 _ rfl
section
variable {K : PySem.W.Frag} {C : Cs K} {M : Addr → Prop} {F H F' H' : Hp} {p t h n o : Addr} {k k' : Int} {P : Pt} {sts sts' : List Sx} {notes notes' : List Dd} {olds olds' : List (List Sx)} {fl : Int} {pv : V} {T : List (Addr × Str)}
theorem _root_.LNn.Drw.gt (d : Drw K F H p k) (g : GrT M F H F' H') (hn : ¬ M p) : Drw K F' H' p k := by
  obtain ⟨sv, cells, a, b, c⟩ := d.ex
  exact ⟨sv, cells, (g.c _ _ a b ntb_lst).1, (g.c _ _ a b ntb_lst).2 hn, c.mono g.a⟩
theorem _root_.LNn.Tb.gt (d : Tb K C F H t P sts notes olds fl) (g : GrT M F H F' H') (hn : ¬ M t) : Tb K C F' H' t P sts notes olds fl := by
  obtain ⟨dx, wv, kv, a, b, c, e⟩ := d.ex
  exact ⟨dx, wv, kv, (g.c _ _ a b ntb_ins).1, (g.c _ _ a b ntb_ins).2 hn, c.mono g.a, e.mono g.a⟩
theorem _root_.LNn.Hr.gt (x : Hr K F H h n o sts notes olds) (g : GrT M F H F' H') (n1 : ¬ M h) (n2 : ¬ M n) (n3 : ¬ M o) : Hr K F' H' h n o sts notes olds := by
  obtain ⟨sv, nvs, ovs, a1, a2, b1, b2, c1, c2, d1, d2, d3⟩ := x.ex
  exact ⟨sv, nvs, ovs, (g.c _ _ a1 a2 ntb_lst).1, (g.c _ _ a1 a2 ntb_lst).2 n1, (g.c _ _ b1 b2 ntb_lst).1, (g.c _ _ b1 b2 ntb_lst).2 n2, (g.c _ _ c1 c2 ntb_lst).1, (g.c _ _ c1 c2 ntb_lst).2 n3, d1.mono g.a, d2.mono g.a, d3.mono g.a⟩
theorem _root_.LNn.Wl.pln (W : Wl K C F H p t h n o k P sts notes olds fl) : ∀ q u, Mx p t h n o q → H q = some u → Pln u := by
  intro q u m e
  obtain ⟨sv, nvs, ovs, a1, a2, b1, b2, c1, c2, _⟩ := W.hr.ex
  obtain ⟨s1, cells, d1, d2, _⟩ := W.dr.ex
  obtain ⟨dx, wv, kv, e1, e2, _⟩ := W.tb.ex
  rcases m with rfl | rfl | rfl | rfl | rfl
  · rw [d2] at e; cases e; exact pln_lst
  · rw [e2] at e; cases e; exact pln_ins
  · rw [a2] at e; cases e; exact pln_lst
  · rw [b2] at e; cases e; exact pln_lst
  · rw [c2] at e; cases e; exact pln_lst
theorem _root_.LNn.Wl.have (W : Wl K C F H p t h n o k P sts notes olds fl) (q : Addr) (m : Mx p t h n o q) : ∃ u, H q = some u ∧ Ntb u := by
  obtain ⟨u, e⟩ := Option.isSome_iff_exists.mp (W.there q m)
  exact ⟨u, e, (W.pln q u m e).1⟩
theorem GrT.trW {F0 H0 : Hp} (g : GrT (Mx p t h n o) F0 H0 F H) (W : Wl K C F H p t h n o k P sts notes olds fl) (g2 : GrT (Mx p t h n o) F H F' H') : GrT (Mx p t h n o) F0 H0 F' H' := g.tr g2 fun q _ m _ _ _ => W.have q m
/-- a walk under way: from F0 H0 it came to F H -/
structure Wk (K : PySem.W.Frag) (C : Cs K) (T : List (Addr × Str)) (F0 H0 : Hp) (p t h n o : Addr) (P : Pt) (pv : V) (fl : Int) (F H : Hp) (k : Int) (sts : List Sx) (notes : List Dd) (olds : List (List Sx)) : Prop where
  g : GrT (Mx p t h n o) F0 H0 F H
  w : Wl K C F H p t h n o k P sts notes olds fl
  nt : NT F
  tb : Tabs T H
  vd : Vd P sts notes olds
  rp : Dr K F pv (eP P)
variable {F0 H0 : Hp}
theorem Wk.call (x : Wk K C T F0 H0 p t h n o P pv fl F H k sts notes olds) (g : Gr M F H F' H') (hM : ∀ q, M q → Mx p t h n o q) (w' : Wl K C F' H' p t h n o k' P sts' notes' olds' fl) (vd' : Vd P sts' notes' olds') :
    Wk K C T F0 H0 p t h n o P pv fl (LNw.nt F') H' k' sts' notes' olds' :=
  ⟨x.g.trW x.w ((gr_nt g x.nt).t.wide hM), wl_nt w', nt_NT _, tabs_gr (fun q u m e => x.w.pln q u (hM q m) e) g x.g.b x.nt x.tb, vd', (dr_nt (x.rp.mono g.a))⟩
theorem Wk.fr (x : Wk K C T F0 H0 p t h n o P pv fl F H k sts notes olds) (f : Fr F H F' H') : Wk K C T F0 H0 p t h n o P pv fl (LNw.nt F') H' k sts notes olds :=
  x.call (M := fun _ => False) f.gr (fun _ z => z.elim) (x.w.fr f) x.vd
end
/-! ### the account, copied -/
theorem _root_.LNn.Hr.fr {K : PySem.W.Frag} {F H F' H' : Hp} {h n o : Addr} {sts : List Sx} {notes : List Dd} {olds : List (List Sx)} (x : Hr K F H h n o sts notes olds) (f : Fr F H F' H') : Hr K F' H' h n o sts notes olds := x.gr (M := fun _ => False) f.gr (fun z => z) (fun z => z) (fun z => z)
def tCopy (K : PySem.W.Frag) : TE := fun σ H Q => ∃ F h n o sts notes olds, σ[3]? = some (some (.ref h)) ∧ Ex F H ∧ Hr K F H h n o sts notes olds ∧
  ∀ h2 n2 o2 H', Fr F H F H' → Hr K F H' h2 n2 o2 sts notes olds → H h2 = none → H n2 = none → H o2 = none → h2 ≠ n2 → h2 ≠ o2 → n2 ≠ o2 → Q (.ref h2) H'
section
variable {X : Cx} {C : Cs X.K} {q1 q2 q3 q4 q5 q6 q7 q8 q9 q10 q11 q12 q13 q14 q15 q16 q17 q18 : Pos} {j1 j2 j3 : Nat}
theorem pe_copy (T : Tw X.K X.mg C) (hl : Gl X "list" := by rfl) (hN : X.N[3]? = some ("_law_here" : Str) := by rfl) (hv : Vis X.env.scope "_law_here" := by exact Or.inl rfl) :
    PE X (.List [.Subscript (.Name "_law_here" q3) (.Constant (.int 0) j1 q4) q5, .Call (.Name "list" q6) [.Subscript (.Name "_law_here" q7) (.Constant (.int 1) j2 q8) q9] [] q10, .Call (.Name "list" q11) [.Subscript (.Name "_law_here" q12) (.Constant (.int 2) j3 q13) q14] [] q15] q16) (tCopy X.K) := by
  refine PE.imp (pe_lst (pa_cons (pe_ix ix_list (vv 3 hN hv) pe_int (fun _ _ => rfl)) (pa_cons (pe_callTy call_list_of hl T.f_list b_list (pa_cons (pe_ix ix_list (vv 3 hN hv) pe_int (fun _ _ => rfl)) pa_nil)) (pa_cons (pe_callTy call_list_of hl T.f_list b_list (pa_cons (pe_ix ix_list (vv 3 hN hv) pe_int (fun _ _ => rfl)) pa_nil)) pa_nil)))) fun σ H Q h => ?_
  obtain ⟨F, h, n, o, sts, notes, olds, es, e, hr, q⟩ := h
  obtain ⟨sv, nvs, ovs, a1, a2, b1, b2, c1, c2, d1, d2, d3⟩ := hr.ex
  refine ⟨_, es, h, _, 0, sv, rfl, rfl, SqL.of a2, rfl, ?_⟩
  refine ⟨_, es, h, _, 1, .ref n, rfl, rfl, SqL.of a2, rfl, n, nvs, rfl, .inl (SqL.of b2), fun n2 hn2 => ?_⟩
  have f1 : Fr F H F (upd H n2 (.lst nvs)) := Fr.out _ e hn2
  have a3 := (f1.c _ _ a1 a2).2
  have c3 := (f1.c _ _ c1 c2).2
  refine ⟨_, es, h, _, 2, .ref o, rfl, rfl, SqL.of a3, rfl, o, ovs, rfl, .inl (SqL.of c3), fun o2 ho2 => ?_⟩
  have f2 : Fr F (upd H n2 (.lst nvs)) F (upd (upd H n2 (.lst nvs)) o2 (.lst ovs)) := Fr.out _ f1.b ho2
  refine ⟨by simp [sizeLine_eq], fun h2 hh2 => ?_⟩
  have f3 : Fr F _ F (upd (upd (upd H n2 (.lst nvs)) o2 (.lst ovs)) h2 (.lst [sv, .ref n2, .ref o2])) := Fr.out _ f2.b hh2
  have no2 : n2 ≠ o2 := fun z => by rw [← z, upd_same] at ho2; cases ho2
  have nho : h2 ≠ o2 := fun z => by rw [z, upd_same] at hh2; cases hh2
  have nhn : h2 ≠ n2 := fun z => by rw [z, upd_ne no2, upd_same] at hh2; cases hh2
  have ho0 : H o2 = none := by rw [upd_ne (Ne.symm no2)] at ho2; exact ho2
  have hh0 : H h2 = none := by rw [upd_ne nho, upd_ne nhn] at hh2; exact hh2
  refine q h2 n2 o2 _ (f1.tr (f2.tr f3)) ⟨sv, nvs, ovs, fresh_back e hh0, upd_same, fresh_back e hn2, ?_, fresh_back e ho0, ?_, d1, d2, d3⟩ hh0 hn2 ho0 nhn nho no2
  · rw [upd_ne (Ne.symm nhn), upd_ne no2, upd_same]
  · rw [upd_ne (Ne.symm nho), upd_same]
end
end LNw
set_option maxHeartbeats 4000000
/-! The law's walk: what it attempts within. -/
namespace LNw
open PySem PySem.Spec PyProof.Rows L2 HotX L2H LNa LNb LNi LNt LNp LNn LamX NdefX
open LNm (Pt PtOk PtD Sx eO eRow eRdr eS eH eP eW eK Dd eD Al canD behindM Wd wS)
open Evl (Ex Ex.refl Ex.trans Ex.new ex_t ex_l ex_rd fresh_back)
/-- a def of the text, its code object at c -/
structure FdC (K : PySem.W.Frag) (name qual : Str) (st : Stmt) (f c : Addr) : Prop where
  ex : ∃ (oc : Value) (od : Option Addr) (kV doc pm : Value) (an : Option Addr) (ct : Value) (osl : Array (Option Value)), K.lookup f = some ⟨oc, od, .func (PySem.W.fnOf name qual (defArgs st) (defBody st) (defScope st) .none kV doc pm an (.ref c) ct), osl⟩ ∧ PySem.W.codeIn K (.ref c) qual = true
abbrev N_walk : List Str := ["_law_draw", "_law_table", "_law_parts_here", "_law_here", "_law_depth", "_law_floor", "_law_turn", "_law_other", "_law_more", "_law_inner"]
theorem s_walk : FnScope N_walk ["_law_draw", "_law_table", "_law_parts_here", "_law_here", "_law_depth"] (defScope (top 67)) := ⟨rfl, rfl, rfl, by decide +kernel, rfl, by decide +kernel, by decide +kernel⟩
abbrev Xw (P : Program) (w : World) (K : PySem.W.Frag) (mg : Str → Option Value) (base : Heap) (f c : Addr) (A : Around) (outer : List Env) (s : Shared) (H : Hp) (E : XK) : Cx := (cxOf C8.CX0 P w K mg base N_walk "_law_walk_right" (defScope (top 67)) f (.ref c) A outer s H E).nox
/-- the name of its lambdas' code -/
def qL : Str := PySem.Str.ofString "_law_walk_right.<locals>." ++ "<lambda>"
def TabsL (Pa : Addr) : List (Addr × Str) := [(Pa, qL)]
/-- the promise at depth d -/
def spWalk (K : PySem.W.Frag) (C : Cs K) (T : List (Addr × Str)) (d : Nat) : Sp := fun vs H Q _ => ∃ F p t h n o k P sts notes olds fl pv, vs = [.ref p, .ref t, pv, .ref h, .int (d : Int)] ∧ Ex F H ∧ NT F ∧ Tabs T H ∧ Wl K C F H p t h n o k P sts notes olds fl ∧ Dr K F pv (eP P) ∧ Vd P sts notes olds ∧ 0 ≤ k ∧ k + 300 - 100 * d ≤ kMax ∧ notes.length ≤ 100 * (d + 1) ∧ ((d = 0 ∧ fl = 0) ∨ (0 < d ∧ fl = notes.length)) ∧
  ∀ F' H' k' sts' notes' olds', GrT (Mx p t h n o) F H F' H' → NT F' → Tabs T H' → Drw K F' H' p k' → Tb K C F' H' t P sts' notes' olds' fl → k ≤ k' → k' ≤ k + 46 * (3 - d) → Q (.bl true) H'
/-- the block that is done below depth 2 -/
def body5 : List Stmt := match (defBody (top 67)).getD 4 (.Pass ⟨0, 0, 0, 0⟩) with
  | .If _ b _ _ => b
  | _ => []
/-- what it asks and does -/
def T5 (K : PySem.W.Frag) (C : Cs K) (T : List (Addr × Str)) (d : Nat) : TS := fun D σ H => ∃ F p t h n o k P sts notes olds fl pv x5 x6 x7 x8, σ = [some (.ref p), some (.ref t), some pv, some (.ref h), some (.int (d : Int)), x5, x6, x7, x8, none] ∧ d < 2 ∧ Ex F H ∧ NT F ∧ Tabs T H ∧ Wl K C F H p t h n o k P sts notes olds fl ∧ Dr K F pv (eP P) ∧ Vd P sts notes olds ∧ 0 ≤ k ∧ k + 250 - 100 * d ≤ kMax ∧ notes.length ≤ 100 * (d + 1) + 50 ∧
  ∀ F' H' k' x9, GrT (fun q => q = p ∨ q = t) F H F' H' → NT F' → Tabs T H' → Wl K C F' H' p t h n o k' P sts notes olds fl → k ≤ k' → k' ≤ k + 46 * (2 - d) → D.nx [some (.ref p), some (.ref t), some pv, some (.ref h), some (.int (d : Int)), x5, x6, x7, x8, x9] H'
abbrev Nl1 : List Str := ["_law_late", "_law_draw", "_law_parts_here", "_law_inner", "_law_depth"]
abbrev fr1 : List Str := ["_law_draw", "_law_parts_here", "_law_inner", "_law_depth"]
theorem passAtFN {X : Cx} {P : Program} {w : World} (σ : L2.St) : PassesAt (L2N.CX P w) X σ (fun _ _ _ => False) := fun _ _ _ _ _ _ ⟨_, _, _, _, _, _, _, _, _, _, _, _, h⟩ => h.elim
theorem takes0N {X : Cx} : L2N.Takes X (fun _ _ _ _ => False) := fun _ _ ⟨_, _, _, _, _, _, _, _, _, _, _, _, _, _, _, _, h⟩ => h.elim
section
variable {M : Addr → Prop} {F H F' H' F1 H1 H2 : Hp}
theorem gt_nt (g : GrT M F H F' H') (hF : NT F) : GrT M F H (LNw.nt F') H' :=
  ⟨fun q u z => nt_some (g.a q u z) fun ps e => hF q ps (by rw [z, e]), (nt_le F').trans g.b, fun p o z1 z2 n => ⟨nt_none (g.c p o z1 z2 n).1, (g.c p o z1 z2 n).2⟩⟩
theorem gt_extN (e : Ex F H) (n : NT F) (x : ExtN H H2) : GrT M F H F H2 :=
  ⟨Ex.refl F, fun q u z => x q u (e q u z) (fun ps w => n q ps (by rw [z, w])), fun q u a b nb => ⟨a, fun _ => x q u b nb⟩⟩
theorem GrT.same (x : GrT M F H F1 H1) (y : GrT M F1 H1 F1 H2) : GrT M F H F1 H2 :=
  ⟨x.a, y.b, fun p o a b n => ⟨(x.c p o a b n).1, fun z => (y.c p o (x.c p o a b n).1 ((x.c p o a b n).2 z) n).2 z⟩⟩
theorem nt_ex (e : Ex F F') : Ex (LNw.nt F) (LNw.nt F') := fun q u z => nt_some (e q u (nt_le F q u z)) fun ps w => nt_NT F q ps (by rw [z, w])
end
/-- the call of attempt, in the if and in the try -/
def callIn : Expr := match body5.getD 1 (.Pass ⟨0, 0, 0, 0⟩) with
  | .If (.Compare e _ _ _) _ _ _ => e
  | _ => .Constant .none 0 ⟨0, 0, 0, 0⟩
def tryBody : List Stmt := match body5.getD 2 (.Pass ⟨0, 0, 0, 0⟩) with
  | .Try b _ _ _ _ => b
  | _ => []
def callFall : Expr := match tryBody.getD 0 (.Pass ⟨0, 0, 0, 0⟩) with
  | .Expr e _ => e
  | _ => .Constant .none 0 ⟨0, 0, 0, 0⟩
def TIn (K : PySem.W.Frag) (C : Cs K) (T : List (Addr × Str)) (d : Nat) : TE := fun σ H Q => ∃ F p t h n o k P sts notes olds fl pv x3 x5 x6 x7 x8, σ = [some (.ref p), some (.ref t), some pv, x3, some (.int (d : Int)), x5, x6, x7, x8, some (.ref h)] ∧ d < 2 ∧ Ex F H ∧ NT F ∧ Tabs T H ∧ Wl K C F H p t h n o k P sts notes olds fl ∧ Dr K F pv (eP P) ∧ Vd P sts notes olds ∧ 0 ≤ k ∧ k + 250 - 100 * d ≤ kMax ∧ notes.length ≤ 100 * (d + 1) + 50 ∧
  ∀ F' H' k', GrT (Mx p t h n o) F H F' H' → NT F' → Tabs T H' → Drw K F' H' p k' → Tb K C F' H' t P sts notes olds fl → k ≤ k' → k' ≤ k + 46 * (2 - d) → Q (.bl true) H'
theorem pe_in {P : Program} {w : World} {K : PySem.W.Frag} {mg : Str → Option Value} {base : Heap} {C : Cs K} {f c g c3 Pa : Addr} {m d : Nat} (T : Tw K mg C) (R : Tr K mg c3) (Fa : FdS K "attempt" "LiveTable.attempt" (met 38 12) g) (Ma : Meth K C.ct "attempt" g) (TB : TabB base mg c Pa)
    (M : Mgr P w K mg base c3 1 (spEnter K C c3) (spExit K C c3)) (D_trial : DmM C8.CX0 P w K mg base C.ct "trial" 3 (spTrial K C c3)) 
    (D_in : DfM C8.CX0 P w K mg base "_law_walk_right" (m + 9) (spWalk K C (TabsL Pa) (d + 1))) (A : Around) (outer : List Env) (s : Shared) (H : Hp) (E : XK) (hr : Room (m + 11) (Xw P w K mg base f c A outer s H E).A) :
    PE (Xw P w K mg base f c A outer s H E) callIn (TIn K C (TabsL Pa) d) := by
  obtain ⟨oc, od, kV, doc, pm, an, cdg, ct, osl, lk, hcg⟩ := Fa.ex
  refine PE.imp (pe_metlam (CX := L2N.CX P w) (k := m + 10) (T := TabsL Pa) (P := Pa) (fr := fr1) (js := [0, 2, 9, 4]) (E := fun _ _ _ _ => False) (vv 1) T.clsT Ma lk hcg (.all fun us hl => match us, hl with | [_, _], _ => rfl) s_att
        (att_gives (k := m + 9) (fr := fr1) (Nl := Nl1) (p1 := "_law_late") T M D_trial (nscope_by (by decide +kernel)) (fun q cl c' pm ctv us hl => match us, hl with | [_], _ => rfl)
          (fun f' c' A' outer' s' H' E' hr' => m_call D_in hr' C8.pass0 (E := fun _ _ _ => False) (pa_cons (vv 1) (pa_cons (vv 0) (pa_cons (vv 2) (pa_cons (vv 3) (pa_cons (pe_op op_add (vv 4) pe_int) pa_nil))))) rfl (Nat.le_refl _)) (by omega))
        TB rfl (by exact List.mem_singleton.mpr rfl) (fun p hp _ => by rw [List.mem_singleton.mp hp]; rfl) hr (by intro y; show y ∈ _ → y.2 = NameKind.free → List.lookup y.1 (defScope (top 67)).names = some .cell ∨ List.lookup y.1 (defScope (top 67)).names = some .free; revert y; decide +kernel) (by decide +kernel) rfl (fun _ => rfl) rfl (fun σ => passAtFN σ)) fun σ H Q h => ?_
  obtain ⟨F, p, t, h, n, o, k, P0, sts, notes, olds, fl, pv, x3, x5, x6, x7, x8, rfl, hd, e, hnt, tb, W, rp, vd, k0, k1, hn, q⟩ := h
  obtain ⟨dx, wv, kv, ft, ht, _, _⟩ := W.tb.ex
  obtain ⟨npt, nph, npn, npo, nth, ntn, nto, nhn, nho, nno⟩ := nes_of W.nd
  refine ⟨_, rfl, t, dx, _, rfl, ht, rfl, tb, fun H2 eN tb2 => ?_⟩
  have g2 : GrT (fun _ => False) F _ F H2 := gt_extN e hnt eN
  have W2 : Wl K C F H2 p t h n o k P0 sts notes olds fl := ⟨W.dr.gt g2 (fun z => z), W.tb.gt g2 (fun z => z), W.hr.gt g2 (fun z => z) (fun z => z) (fun z => z), W.nd⟩
  refine ⟨F, P0, sts, notes, olds, fl, g2.b, W2.tb, fun y dy kv' F3 H3 hy g3 fy hy3 t3 E' Q' hE hQ => ?_⟩
  have W3 : Wl K C F3 H3 p t h n o k P0 sts notes olds notes.length := ⟨W2.dr.gr g3 npt, t3, W2.hr.gr g3 (Ne.symm nth) (Ne.symm ntn) (Ne.symm nto), W.nd⟩
  have tabs3 : Tabs (TabsL Pa) H3 := tabs_gr (fun q u m e => W2.pln q u (.inr (.inl m)) e) g3 g2.b hnt tb2
  have G2 : GrT (Mx p t h n o) F _ F H2 := g2.wide fun _ z => z.elim
  have G3 := gt_nt (G2.trW W2 (g3.t.wide fun _ z => .inr (.inl z))) hnt
  have rp3 : Dr K (LNw.nt F3) pv (eP P0) := dr_nt (rp.mono g3.a)
  refine ⟨_, rfl, _, rfl, _, rfl, _, rfl, _, rfl, (d : Int), 1, rfl, rfl, ?_⟩
  refine ⟨LNw.nt F3, p, t, h, n, o, k, P0, sts, notes, olds, notes.length, pv, rfl, (nt_le F3).trans g3.b, nt_NT F3, tabs3, wl_nt W3, rp3, vd, k0, by omega, by omega, .inr ⟨by omega, rfl⟩, fun F4 H4 k' sts4 notes4 olds4 g4 nt4 tb4 dr4 t4 kl ku => ?_⟩
  have ny : ¬ Mx p t h n o y := fun m => by
    obtain ⟨u, e1, _⟩ := W2.have y m
    rw [hy] at e1; cases e1
  refine hQ _ H4 ⟨F4, sts4, notes4, olds4, _, g4.a, g4.b, (g4.c y _ (nt_none fy) hy3 ntb_ins).2 ny, t4, fun H5 g5 t5 => ?_⟩
  refine q F4 H5 k' ((G3.trW (wl_nt W3) g4).same (g5.t.wide fun _ z => .inr (.inl z))) nt4 (tabs_gr (fun q u m e => ?_) g5 g4.b nt4 tb4) (dr4.gr g5 npt) t5 kl (by omega)
  obtain ⟨dx4, wv4, kv4, _, e4, _, _⟩ := t4.ex
  rw [m, e4] at e; cases e; exact pln_ins
def TTry (K : PySem.W.Frag) (C : Cs K) (T : List (Addr × Str)) (W : WX) : TS := fun D σ H => ∃ F t P sts notes olds fl, σ[1]? = some (some (.ref t)) ∧ Ex F H ∧ NT F ∧ Tabs T H ∧ Tb K C F H t P sts notes olds fl ∧ Vd P sts notes olds ∧ notes.length < 80000 ∧
  ∀ dd F' H', GrT (· = t) F H F' H' → NT F' → Tabs T H' → Tb K C F' H' t P sts notes olds fl → W (.type "KeyError") dd σ H'
theorem ps_fall {P : Program} {w : World} {K : PySem.W.Frag} {mg : Str → Option Value} {base : Heap} {C : Cs K} {f c g c3 Pa : Addr} {m : Nat} (T : Tw K mg C) (R : Tr K mg c3) (Fa : FdS K "attempt" "LiveTable.attempt" (met 38 12) g) (Ma : Meth K C.ct "attempt" g) (TB : TabB base mg c Pa)
    (M : Mgr P w K mg base c3 1 (spEnter K C c3) (spExit K C c3)) (D_trial : DmM C8.CX0 P w K mg base C.ct "trial" 3 (spTrial K C c3)) (D_fall : DfM (L2N.CX P w) P w K mg base "_law_fall" 7 (spFall K C)) 
    (A : Around) (outer : List Env) (s : Shared) (H : Hp) (E : XK) (hr : Room (m + 11) (Xw P w K mg base f c A outer s H E).A) {W : WX} {pn : List (Addr × Obj)} {xe : Value → Shared → Prop} (tk : L2N.Takes ((Xw P w K mg base f c A outer s H E).tr pn xe) W) :
    PSs ((Xw P w K mg base f c A outer s H E).tr pn xe) tryBody (TTry K C (TabsL Pa) W) := by
  obtain ⟨oc, od, kV, doc, pm, an, cdg, ct, osl, lk, hcg⟩ := Fa.ex
  refine PSs.imp (pss_cons (ps_expr (pe_metlam (CX := L2N.CX P w) (k := m + 10) (T := TabsL Pa) (P := Pa) (fr := []) (js := []) (E := L2.WE W) (vv 1) T.clsT Ma lk hcg (.all fun us hl => match us, hl with | [_, _], _ => rfl) s_att
        (att_gives (k := m + 9) (fr := []) (Nl := ["_law_late"]) (p1 := "_law_late") T M D_trial (nscope_by (by decide +kernel)) (fun q cl c' pm ctv us hl => match us, hl with | [_], _ => rfl)
          (fun f' c' A' outer' s' H' E' hr' => m_call D_fall hr' (L2N.passes_call (L2N.takes_of rfl rfl rfl rfl) (fun _ _ _ _ z => z)) (pa_cons (vv 0) (pa_cons pe_str pa_nil)) rfl (by omega)) (by omega))
        TB rfl (by exact List.mem_singleton.mpr rfl) (fun p hp _ => by rw [List.mem_singleton.mp hp]; rfl) hr (by intro y; show y ∈ _ → y.2 = NameKind.free → List.lookup y.1 (defScope (top 67)).names = some .cell ∨ List.lookup y.1 (defScope (top 67)).names = some .free; revert y; decide +kernel) (by decide +kernel) rfl (fun _ => rfl) rfl (fun σ => L2N.passAt tk σ)) rfl) pss_never) fun D σ H h => ?_
  obtain ⟨F, t, P0, sts, notes, olds, fl, h1, e, hnt, tb, tl, vd, hn, q⟩ := h
  obtain ⟨dx, wv, kv, ft, ht, _, _⟩ := tl.ex
  obtain ⟨s1, r, rfl⟩ := List.exists_cons_of_ne_nil vd.ne
  have hr2 : r.length ≤ 2 := by have := vd.le; rw [List.length_cons] at this; omega
  have hln := vd.ln
  refine ⟨_, h1, t, dx, _, rfl, ht, rfl, tb, fun H2 eN tb2 => ?_⟩
  have g2 : GrT (fun _ => False) F _ F H2 := gt_extN e hnt eN
  have t2 := tl.gt g2 (fun z => z)
  have pl2 : ∀ (q : Addr) (u : HO), q = t → H2 q = some u → Pln u := fun q u m e => by
    obtain ⟨dx4, wv4, kv4, _, e4, _, _⟩ := t2.ex
    rw [m, e4] at e; cases e; exact pln_ins
  refine ⟨F, P0, _, notes, olds, fl, g2.b, t2, fun y dy kv' F3 H3 hy g3 fy hy3 t3 E' Q' hE hQ => ?_⟩
  have G2 : GrT (· = t) F _ F H2 := g2.wide fun _ z => z.elim
  have hav : ∀ (q : Addr), q = t → ∃ u, H2 q = some u ∧ Ntb u := fun q m => by
    obtain ⟨dx4, wv4, kv4, _, e4, _, _⟩ := t2.ex
    exact ⟨_, by rw [m]; exact e4, ntb_ins⟩
  have hav3 : ∀ (q : Addr), q = t → ∃ u, H3 q = some u ∧ Ntb u := fun q m => by
    obtain ⟨dx4, wv4, kv4, _, e4, _, _⟩ := t3.ex
    exact ⟨_, by rw [m]; exact e4, ntb_ins⟩
  have pl3 : ∀ (q : Addr) (u : HO), q = t → H3 q = some u → Pln u := fun q u m e => by
    obtain ⟨dx4, wv4, kv4, _, e4, _, _⟩ := t3.ex
    rw [m, e4] at e; cases e; exact pln_ins
  have G3 := gt_nt (G2.tr g3.t fun q _ m _ _ _ => hav q m) hnt
  have tabs3 : Tabs (TabsL Pa) H3 := tabs_gr pl2 g3 g2.b hnt tb2
  refine ⟨_, rfl, LNw.nt F3, t, _, P0, s1, r, notes, olds, notes.length, rfl, (nt_le F3).trans g3.b, tb_nt t3, vd.ok, vd.al, by omega, hn, by omega, fun dd F4 H4 sts4 notes4 olds4 g4 t4 => ?_⟩
  have ny : ¬ y = t := fun m => by
    obtain ⟨u, e1, _⟩ := hav y m
    rw [hy] at e1; cases e1
  have g4n := gr_nt g4 (nt_NT F3)
  refine hE _ dd H4 ⟨.ty "KeyError", rfl⟩ ⟨LNw.nt F4, sts4, notes4, olds4, _, g4n.a, g4n.b, (g4n.c y _ (nt_none fy) hy3).2 ny, tb_nt t4, fun H5 g5 t5 => ?_⟩
  refine q dd (LNw.nt F4) H5 ((G3.tr g4n.t fun q _ m _ _ _ => hav3 q m).same g5.t) (nt_NT F4) (tabs_gr (fun q u m e => ?_) g5 g4n.b (nt_NT F4) (tabs_gr pl3 g4n ((nt_le F3).trans g3.b) (nt_NT F3) tabs3)) t5
  obtain ⟨dx4, wv4, kv4, _, e4, _, _⟩ := t4.ex
  rw [m, e4] at e; cases e; exact pln_ins
end LNw
set_option maxHeartbeats 4000000
/-! The law's walk: the block below depth 2; its end. -/
namespace LNw
open PySem PySem.Spec PyProof.Rows L2 HotX L2H LNa LNb LNi LNt LNp LNn LamX NdefX
open LNm (Pt PtOk PtD Sx eO eRow eRdr eS eH eP eW eK Dd eD Al canD behindM Wd wS)
open Evl (Ex Ex.refl Ex.trans Ex.new ex_t ex_l ex_rd fresh_back)
section
variable {X : Cx} {C : Cs X.K} {x : Str} {k j : Nat} {f : List Dv → Option Dv} {t : TA} {e : Expr} {es : List Expr} {p pos : Pos}
/-- a call, warm -/
theorem m_callW (D : Dfn X.prog X.w X.K X.mg X.base C x k f) (hr : RoomH j X.A) (hw : Wm X) (ha : PA X (e :: es) t) (hg : Gl X x := by rfl) (hk : k ≤ j := by decide) (hdb : (x == ("__debug__" : Str)) = false := by decide)
    (he : starEach (e :: es) X.env = (false, eval e X.env) :: starEach es X.env := by rfl) (hpl : (backTo pos (starEach es X.env)).any (·.1) = false := by rfl) : PE X (.Call (.Name x p) (e :: es) [] pos) (fun σ H Q => t σ H fun vs H1 => spD X.K C f vs H1 Q (fun _ _ _ => False)) := by
  obtain ⟨fa, fd, ps, h1, h2, h3, F⟩ := D.ex
  exact pe_callW F (hr.mono hk) hw hg h1 h2 h3 (C8.pass0 (E := fun _ _ _ => False)) ha hdb he hpl
theorem hot_of {X : Cx} {a : Addr} {oe : Obj} {cls : Value} {d : Option Addr} {pn : List (Addr × Obj)} (hz : L2N.Zn cls d oe) (hf : ∃ vs, oe.data = .fields vs) : Wm (X.suite a ((a, oe) :: pn)) := by
  obtain ⟨vs, hd⟩ := hf
  exact .inr ⟨(a, oe), ⟨rfl, vs, hd, hz.2.2 vs hd⟩, List.mem_cons_self⟩
end
theorem w5 {P : Program} {w : World} {K : PySem.W.Frag} {mg : Str → Option Value} {base : Heap} {C : Cs K} {f c g c3 Pa : Addr} {m d : Nat} (T : Tw K mg C) (R : Tr K mg c3) (Fa : FdS K "attempt" "LiveTable.attempt" (met 38 12) g) (Ma : Meth K C.ct "attempt" g) (TB : TabB base mg c Pa)
    (M : Mgr P w K mg base c3 1 (spEnter K C c3) (spExit K C c3)) (D_trial : DmM C8.CX0 P w K mg base C.ct "trial" 3 (spTrial K C c3)) (D_fall : DfM (L2N.CX P w) P w K mg base "_law_fall" 7 (spFall K C)) (D_stands : Dfn P w K mg base C "_law_stands" 7 f_l_stands)
    (D_in : DfM C8.CX0 P w K mg base "_law_walk_right" (m + 9) (spWalk K C (TabsL Pa) (d + 1))) (A : Around) (outer : List Env) (s : Shared) (H : Hp) (E : XK) (hr : Room (m + 11) (Xw P w K mg base f c A outer s H E).A) :
    PSs (Xw P w K mg base f c A outer s H E) body5 (T5 K C (TabsL Pa) d) := by
  refine PSs.imp (pss_cons (ps_asg (pe_copy T) (pg_name (i := 9) s_walk.nd rfl (.inr rfl)))
    (pss_cons (ps_if (pt_cmpR op_isnot_bl (pe_in T R Fa Ma TB M D_trial D_in A outer s H E hr) pe_bl (nomark _)) pss_never pss_nil)
    (pss_one (L2N.ps_try_many rfl rfl takes0N
      (fun W pn xe tk _ => ps_fall T R Fa Ma TB M D_trial D_fall A outer s H E hr tk)
      (.cons ⟨rfl, by decide, .inr ⟨T.f_KeyError, boot_KeyError, by decide⟩⟩ (fun a oe cls dd pn hz hf => pss_one (ps_if (pt_not (pt_val (show PE ((Xw P w K mg base f c A outer s H E).suite a ((a, oe) :: pn)) _ (fun σ H Q => tCons (tVar 1) (tCons (tVar 2) (tCons (tVar 3) tNil)) σ H fun vs H1 => spD K C f_l_stands vs H1 Q (fun _ _ _ => False)) from m_callW (X := (Xw P w K mg base f c A outer s H E).suite a ((a, oe) :: pn)) (C := C) (j := m + 11) D_stands ⟨hr.dp, hr.un⟩ (hot_of hz hf) (pa_cons (vv 1) (pa_cons (vv 2) (pa_cons (vv 3) pa_nil))) rfl (by omega)))) pss_never pss_nil)) .nil))))) fun D σ H h => ?_
  obtain ⟨F, p, t, h, n, o, k, P0, sts, notes, olds, fl, pv, x5, x6, x7, x8, rfl, hd, e, hnt, tb, W, rp, vd, k0, k1, hn, q⟩ := h
  obtain ⟨npt, nph, npn, npo, nth, ntn, nto, nhn, nho, nno⟩ := nes_of W.nd
  have pS := W.dr.isSome
  have tS := W.tb.isSome
  refine ⟨F, h, n, o, sts, notes, olds, rfl, e, W.hr, fun h2 n2 o2 H1 f1 hr1 hh2 hn2 ho2 d1 d2 d3 => ?_⟩
  dsimp only [gName, List.set_cons_succ, List.set_cons_zero]
  have no : ∀ {q u : Addr}, (H q).isSome → H u = none → q ≠ u := fun a b z => by rw [z, b] at a; cases a
  have W1 : Wl K C F H1 p t h2 n2 o2 k P0 sts notes olds fl := ⟨W.dr.fr f1, W.tb.fr f1, hr1, by
    simp only [List.nodup_cons, List.mem_cons, List.not_mem_nil, or_false, not_or, not_false_eq_true, List.nodup_nil, and_true]
    exact ⟨⟨npt, no pS hh2, no pS hn2, no pS ho2⟩, ⟨no tS hh2, no tS hn2, no tS ho2⟩, ⟨d1, d2⟩, d3⟩⟩
  have tb1 : Tabs (TabsL Pa) H1 := tabs_gr (M := fun _ => False) (fun _ _ z => z.elim) f1.gr e hnt tb
  refine ⟨F, p, t, h2, n2, o2, k, P0, sts, notes, olds, fl, pv, _, x5, x6, x7, x8, rfl, hd, f1.b, hnt, tb1, W1, rp, vd, k0, k1, hn, fun F2 H2 k2 g2 nt2 tb2 dr2 t2 kl ku => ⟨true, true, rfl, rfl, _, rfl, split_if (fun z => by cases z) fun _ => ?_⟩⟩
  have G2 : GrT (fun q => q = p ∨ q = t) F H F2 H2 := by
    refine GrT.thin (M := Mx p t h2 n2 o2) ((f1.t).tr g2 fun q u m a b c => ⟨u, (f1.c q u a b).2, c⟩) fun q u m a b c => ?_
    rcases m with z | z | z | z | z
    · exact .inl z
    · exact .inr z
    · rw [z, hh2] at b; cases b
    · rw [z, hn2] at b; cases b
    · rw [z, ho2] at b; cases b
  have W2 : Wl K C F2 H2 p t h n o k2 P0 sts notes olds fl := ⟨dr2, t2, W.hr.gt G2 (fun z => z.elim (Ne.symm nph) (Ne.symm nth)) (fun z => z.elim (Ne.symm npn) (Ne.symm ntn)) (fun z => z.elim (Ne.symm npo) (Ne.symm nto)), W.nd⟩
  refine ⟨F2, t, P0, sts, notes, olds, fl, rfl, G2.b, nt2, tb2, t2, vd, by unfold kMax at k1; omega, fun dd F3 H3 g3 nt3 tb3 t3 => ⟨true, exm_KE, fun _ a ha => ?_, fun z => Bool.noConfusion z⟩⟩
  have W3 : Wl K C F3 H3 p t h n o k2 P0 sts notes olds fl := ⟨W2.dr.gt g3 npt, t3, W2.hr.gt g3 (Ne.symm nth) (Ne.symm ntn) (Ne.symm nto), W.nd⟩
  have rp3 : Dr K F3 pv (eP P0) := rp.mono (G2.a.trans g3.a)
  refine ⟨_, rfl, _, rfl, _, rfl, stands_sp (E := fun _ _ _ => False) W3 vd rp3 g3.b (by omega) fun H4 f4 => ⟨true, rfl, ?_⟩⟩
  refine split_if (fun z => Bool.noConfusion z) fun _ => ?_
  refine q F3 H4 k2 _ ?_ nt3 (tabs_gr (M := fun _ => False) (fun _ _ z => z.elim) f4.gr g3.b nt3 tb3) (W3.fr f4) kl ku
  refine (G2.tr (g3.wide fun _ z => .inr z) fun q u m _ _ _ => ?_).same f4.t
  rcases m with rfl | rfl
  · exact W2.have _ (.inl rfl)
  · exact W2.have _ (.inr (.inl rfl))
/-- its end: the branch goes on, both stand -/
def T67 (K : PySem.W.Frag) (C : Cs K) (T : List (Addr × Str)) : TS := fun D σ H => ∃ F p t h n o t2 h2 n2 o2 k P sts notes olds fl pv x4 x5 x6 x9, σ = [some (.ref p), some (.ref t), some pv, some (.ref h), x4, x5, x6, some (.ref t2), some (.ref h2), x9] ∧ NT F ∧ Tabs T H ∧ Ex F H ∧ Wl K C F H p t h n o k P sts notes olds fl ∧ Wl K C F H p t2 h2 n2 o2 k P sts notes olds 0 ∧
  (∀ q, q = t ∨ q = h ∨ q = n ∨ q = o → ¬ Mx p t2 h2 n2 o2 q) ∧ Dr K F pv (eP P) ∧ Vd P sts notes olds ∧ 0 ≤ k ∧ k + 20 ≤ kMax ∧ notes.length ≤ 1000 ∧
  ∀ F' H' k', GrT (Mx p t2 h2 n2 o2) F H F' H' → NT F' → Tabs T H' → Wl K C F' H' p t h n o k' P sts notes olds fl → k ≤ k' → k' ≤ k + 9 → D.rt (.bl true) H'
def end67 : List Stmt := (defBody (top 67)).drop 5
theorem w67 {P : Program} {w : World} {K : PySem.W.Frag} {mg : Str → Option Value} {base : Heap} {C : Cs K} {f c Pa : Addr} {m : Nat} (T : Tw K mg C) (D_step : DfM C8.CX0 P w K mg base "_law_step_right" 8 (spStep K C)) (D_stands : Dfn P w K mg base C "_law_stands" 7 f_l_stands)
    (A : Around) (outer : List Env) (s : Shared) (H : Hp) (E : XK) (hr : Room (m + 8) (Xw P w K mg base f c A outer s H E).A) :
    PSs (Xw P w K mg base f c A outer s H E) end67 (T67 K C (TabsL Pa)) := by
  refine PSs.imp (pss_cons (ps_for PassesOwn.never rfl (pi_range1 (by rfl) T.f_range (pa_cons pe_int pa_nil)) (pg_name (i := 6) s_walk.nd rfl (.inl rfl))
      (pss_one (ps_if (pt_not (pt_val (m_call D_step hr C8.pass0 (E := fun _ _ _ => False) (pa_cons (vv 0) (pa_cons (vv 7) (pa_cons (vv 2) (pa_cons (vv 8) (pa_cons pe_int pa_nil))))) rfl (by omega)))) pss_never pss_nil)))
    (pss_one (ps_ret (pe_and (m_call D_stands.m hr C8.pass0 (E := fun _ _ _ => False) (pa_cons (vv 7) (pa_cons (vv 2) (pa_cons (vv 8) pa_nil))) rfl (by omega)) (pe_one (m_call D_stands.m hr C8.pass0 (E := fun _ _ _ => False) (pa_cons (vv 1) (pa_cons (vv 2) (pa_cons (vv 3) pa_nil))) rfl (by omega))))))) fun D σ H h => ?_
  obtain ⟨F, p, t, h, n, o, t2, h2, n2, o2, k, P0, sts, notes, olds, fl, pv, x4, x5, x6, x9, rfl, hnt, tb, e, W, V, ds, rp, vd, k0, k1, hn, q⟩ := h
  refine ⟨3, rfl, by decide, by decide, ?_⟩
  refine for_range (lo := 0) (n := 3) (fun i σ Hi => ∃ Fi ki y6 sts' notes' olds', σ = [some (.ref p), some (.ref t), some pv, some (.ref h), x4, x5, y6, some (.ref t2), some (.ref h2), x9] ∧ Wk K C (TabsL Pa) F H p t2 h2 n2 o2 P0 pv 0 Fi Hi ki sts' notes' olds' ∧ k ≤ ki ∧ ki ≤ k + 3 * (i : Int) ∧ notes'.length ≤ notes.length + i)
    ⟨F, k, x6, sts, notes, olds, rfl, ⟨GrT.refl e, V, hnt, tb, vd, rp⟩, by omega, by omega, by omega⟩ ?_ ?_
  · rintro i σ Hi hi ⟨Fi, ki, y6, sts', notes', olds', rfl, X, kl, ku, hl⟩
    dsimp only [gName, List.set_cons_succ, List.set_cons_zero]
    refine ⟨_, rfl, _, rfl, _, rfl, _, rfl, Fi, p, t2, h2, n2, o2, ki, P0, sts', notes', olds', 0, pv, rfl, X.g.b, X.w, X.rp, X.vd, by omega, by omega, by omega, by omega, by omega, fun F1 H1 k2 sts2 notes2 olds2 g1 w1 vd1 kl1 ku1 hl1 _ => ⟨true, rfl, ?_⟩⟩
    refine split_if (fun z => Bool.noConfusion z) fun _ => ?_
    exact ⟨LNw.nt F1, k2, _, sts2, notes2, olds2, rfl, X.call g1 (fun _ z => z) w1 vd1, by omega, by omega, by omega⟩
  · rintro σ Hi ⟨Fi, ki, y6, sts', notes', olds', rfl, X, kl, ku, hl⟩
    refine ⟨_, rfl, _, rfl, _, rfl, stands_sp (E := fun _ _ _ => False) X.w X.vd X.rp X.g.b (by omega) fun H1 f1 => ⟨true, rfl, ?_⟩⟩
    refine split_if (fun _ => ?_) fun z => Bool.noConfusion z
    have X1 := X.fr f1
    have W1 : Wl K C (LNw.nt Fi) H1 p t h n o ki P0 sts notes olds fl := ⟨X1.w.dr, W.tb.gt X1.g (ds _ (.inl rfl)), W.hr.gt X1.g (ds _ (.inr (.inl rfl))) (ds _ (.inr (.inr (.inl rfl)))) (ds _ (.inr (.inr (.inr rfl)))), W.nd⟩
    refine ⟨_, rfl, _, rfl, _, rfl, stands_sp (E := fun _ _ _ => False) W1 vd X1.rp X1.g.b (by omega) fun H2 f2 => ?_⟩
    have X2 := X1.fr f2
    refine q _ H2 ki X2.g X2.nt X2.tb ?_ kl (by omega)
    exact wl_nt (W1.fr f2)
end LNw
set_option maxHeartbeats 4000000
/-! The law's walk, whole, by its depth. -/
namespace LNw
open PySem PySem.Spec PyProof.Rows L2 HotX L2H LNa LNb LNi LNt LNp LNn LamX NdefX
open LNm (Pt PtOk PtD Sx eO eRow eRdr eS eH eP eW eK Dd eD Al canD behindM Wd wS)
open Evl (Ex Ex.refl Ex.trans Ex.new ex_t ex_l ex_rd fresh_back)
theorem fd_C2 {CX : CXT} {P : Program} {w : World} {K : PySem.W.Frag} {mg : Str → Option Value} {base : Heap} {k : Nat} {f c : Addr} {name qual : Str} {st : Stmt} {N ps : List Str} {sp : Sp} (F : FdC K name qual st f c) (S : FnScope N ps (defScope st)) (bn : BindN name qual (defArgs st) (defBody st) (defScope st) ps)
    (len : ∀ vs H Q E, sp vs H Q E → vs.length = ps.length)
    (hb : ∀ (A : Around) (outer : List Env) (s : Shared) (H : Hp) (vs : List V) (Q : VK) (E : XK), Room k (A.deeper (envOfC qual (defScope st) s.heap.objs.size f (.ref c))) → sp vs H Q E →
      ∃ t, PSs (cxOf CX P w K mg base N qual (defScope st) f (.ref c) A outer s H E) (defBody st) t ∧ t { nx := fun _ H' => Q .non H', rt := Q } (L2.start N vs) H) :
    ∃ fd, Binds K fd ps [] ∧ FnOk P w K mg base CX (k + 1) f fd ps sp := by
  obtain ⟨oc, od, kV, doc, pm, an, ct, osl, lk, hcd⟩ := F.ex
  exact ⟨_, .all (bn kV doc pm an (.ref c) ct), fn_of lk hcd S len fun A outer s H vs Q E hr h => hb A outer s H vs Q E hr h⟩
theorem GrT.trN {M M2 : Addr → Prop} {F H F1 H1 F2 H2 : Hp} (x : GrT M F H F1 H1) (y : GrT M2 F1 H1 F2 H2) (hm : ∀ q o, M2 q → F q = none → H q = some o → Ntb o → M q) (there : ∀ p o, M p → F p = none → H p = some o → Ntb o → ∃ o', H1 p = some o' ∧ Ntb o') : GrT M F H F2 H2 := by
  refine ⟨x.a.trans y.a, y.b, fun p o g1 g2 n => ?_⟩
  obtain ⟨a, b⟩ := x.c p o g1 g2 n
  by_cases z : M p
  · obtain ⟨o', e, n'⟩ := there p o z g1 g2 n
    exact ⟨(y.c p o' a e n').1, fun w => absurd z w⟩
  · obtain ⟨c, d⟩ := y.c p o a (b z) n
    exact ⟨c, fun _ => d fun m => z (hm p o m g1 g2 n)⟩
def TFl : TE := fun σ H Q => ∃ h n os d fl sv nvs, σ[4]? = some (some (.int d)) ∧ σ[3]? = some (some (.ref h)) ∧ H h = some (.lst [sv, .ref n, .ref os]) ∧ H n = some (.lst nvs) ∧ ((d = 0 ∧ fl = 0) ∨ (0 < d ∧ fl = (nvs.length : Int))) ∧ Q (.int fl) H
theorem walk_core {P : Program} {w : World} {K : PySem.W.Frag} {mg : Str → Option Value} {base : Heap} {C : Cs K} {f c Pa : Addr} {m d : Nat} (hm : 8 ≤ m) (hd2 : d ≤ 2) (T : Tw K mg C) (F : FdC K "_law_walk_right" "_law_walk_right" (top 67) f c)
    (D_step : DfM C8.CX0 P w K mg base "_law_step_right" 8 (spStep K C)) (D_tr : DfM C8.CX0 P w K mg base "_law_tried_right" 8 (spTR K C)) (D_stands : Dfn P w K mg base C "_law_stands" 7 f_l_stands) (D_branch : DmM C8.CX0 P w K mg base C.ct "branch" 4 (spBranch K C))
    (h5 : ∀ (A : Around) (outer : List Env) (s : Shared) (H : Hp) (E : XK), Room m (Xw P w K mg base f c A outer s H E).A → PSs (Xw P w K mg base f c A outer s H E) body5 (T5 K C (TabsL Pa) d)) :
    ∃ fd, Binds K fd ["_law_draw", "_law_table", "_law_parts_here", "_law_here", "_law_depth"] [] ∧ FnOk P w K mg base C8.CX0 (m + 1) f fd ["_law_draw", "_law_table", "_law_parts_here", "_law_here", "_law_depth"] (spWalk K C (TabsL Pa) d) := by
  refine fd_C2 F s_walk (fun _ _ _ _ _ _ us hl => match us, hl with | [_, _, _, _, _], _ => rfl) (fun vs H Q E ⟨_, _, _, _, _, _, _, _, _, _, _, _, _, e, _⟩ => by rw [e]; rfl) fun A outer s H vs Q E hr h => ?_
  obtain ⟨k8, rfl⟩ : ∃ k8, m = k8 + 8 := ⟨m - 8, by omega⟩
  refine ⟨_, PSs.nox (pss_cons (ps_asg (PE.imp (t' := TFl) (pe_ifExp (pt_cmp (pc_gt (vv 4) pe_int)) (pe_callB call_len_seq (by rfl) T.f_len b_len (pa_cons (pe_ix ix_list (vv 3) pe_int (fun _ _ => rfl)) pa_nil)) pe_int) (fun σ H Q h => ?fl)) (pg_name (i := 5) s_walk.nd rfl (.inl rfl)))
    (pss_cons (ps_for PassesOwn.never rfl (pi_range1 (by rfl) T.f_range (pa_cons pe_int pa_nil)) (pg_name (i := 6) s_walk.nd rfl (.inl rfl))
      (pss_one (ps_if (pw_or (pt_not (pt_val (m_call D_step hr C8.pass0 (E := fun _ _ _ => False) (pa_cons (vv 0) (pa_cons (vv 1) (pa_cons (vv 2) (pa_cons (vv 3) (pa_cons (vv 5) pa_nil))))) (hk := by omega)))) (pw_or1 (pt_not (pt_val (m_call D_stands.m hr C8.pass0 (E := fun _ _ _ => False) (pa_cons (vv 1) (pa_cons (vv 2) (pa_cons (vv 3) pa_nil))) (hk := by omega)))))).pt pss_never pss_nil)))
    (pss_cons (ps_if (pw_or (pt_not (pt_val (m_call D_tr hr C8.pass0 (E := fun _ _ _ => False) (pa_cons (vv 0) (pa_cons (vv 1) (pa_cons (vv 2) (pa_cons (vv 3) pa_nil)))) (hk := by omega)))) (pw_or1 (pt_not (pt_val (m_call D_stands.m hr C8.pass0 (E := fun _ _ _ => False) (pa_cons (vv 1) (pa_cons (vv 2) (pa_cons (vv 3) pa_nil))) (hk := by omega)))))).pt pss_never pss_nil)
    (pss_cons (ps_parW (i := 7) (j := 8) (.inl rfl) s_walk.nd rfl rfl (by decide) rfl rfl (pa_cons (m_meth0 (E := fun _ _ _ _ => False) D_branch hr (fun σ => passAt0 σ) (vv 1) (by omega)) (pa_cons (pe_copy T) pa_nil)) (by with_unfolding_all rfl))
    (pss_cons (ps_if (pt_cmp (pc_lt (vv 4) pe_int)) (h5 A outer s H E hr) pss_nil)
    (w67 (m := k8) (Pa := Pa) T D_step D_stands A outer s H E hr)))))), ?_⟩
  case fl =>
    obtain ⟨h, n, os, d, fl, sv, nvs, e1, e2, a1, a2, hd, q⟩ := h
    refine ⟨_, e1, d, 0, rfl, rfl, _, rfl, ?_⟩
    rcases hd with ⟨rfl, rfl⟩ | ⟨hd, rfl⟩
    · refine split_if (fun z => absurd (of_decide_eq_true z) (by omega)) fun _ => q
    · refine split_if (fun _ => ?_) fun z => absurd hd (of_decide_eq_false z)
      exact ⟨_, e2, h, _, 1, _, rfl, rfl, SqL.of a1, rfl, n, nvs, rfl, .inl (SqL.of a2), q⟩
  obtain ⟨F0, p, t, h, n, o, k, P0, sts, notes, olds, fl, pv, rfl, e, hnt, tb, W, rp, vd, k0, k1, hn, hfl, q⟩ := h
  obtain ⟨sv, nvs, ovs, fh, hh, fn, hn', fo, ho, rs, rn, ro⟩ := W.hr.ex
  have lnv := rn.length
  rw [List.length_map] at lnv
  have fl0 : 0 ≤ fl ∧ fl ≤ notes.length := by rcases hfl with ⟨_, z⟩ | ⟨_, z⟩ <;> omega
  refine ⟨h, n, o, d, fl, sv, nvs, rfl, rfl, hh, hn', by omega, ?_⟩
  dsimp only [gName, List.set_cons_succ, List.set_cons_zero]
  refine ⟨7, rfl, by decide, by decide, ?_⟩
  refine for_range (lo := 0) (n := 7) (fun i σ Hi => ∃ Fi ki y6 sts' notes' olds', σ = [some (.ref p), some (.ref t), some pv, some (.ref h), some (.int (d : Int)), some (.int fl), y6, none, none, none] ∧ Wk K C (TabsL Pa) F0 H p t h n o P0 pv fl Fi Hi ki sts' notes' olds' ∧ k ≤ ki ∧ ki ≤ k + 3 * (i : Int) ∧ notes'.length ≤ notes.length + i ∧ fl ≤ notes'.length)
    ⟨F0, k, none, sts, notes, olds, rfl, ⟨GrT.refl e, W, hnt, tb, vd, rp⟩, by omega, by omega, by omega, fl0.2⟩ ?_ ?_
  · rintro i σ Hi hi ⟨Fi, ki, y6, sts', notes', olds', rfl, X, kl, ku, hl, hf⟩
    dsimp only [gName, List.set_cons_succ, List.set_cons_zero]
    refine ⟨_, rfl, _, rfl, _, rfl, _, rfl, _, rfl, Fi, p, t, h, n, o, ki, P0, sts', notes', olds', fl, pv, rfl, X.g.b, X.w, X.rp, X.vd, by omega, by omega, by omega, fl0.1, hf, fun F1 H1 k2 sts2 notes2 olds2 g1 w1 vd1 kl1 ku1 hl1 hf1 => ⟨true, rfl, ?_⟩⟩
    refine split_if (fun z => Bool.noConfusion z) fun _ => ?_
    have X1 := X.call g1 (fun _ z => z) w1 vd1
    refine ⟨_, rfl, _, rfl, _, rfl, stands_sp (E := fun _ _ _ => False) X1.w X1.vd X1.rp X1.g.b (by omega) fun H2 f2 => ⟨true, rfl, ?_⟩⟩
    refine split_if (fun z => Bool.noConfusion z) fun _ => ?_
    exact ⟨_, k2, _, sts2, notes2, olds2, rfl, X1.fr f2, by omega, by omega, by omega, hf1⟩
  · rintro σ Hi ⟨Fi, ki, y6, sts', notes', olds', rfl, X, kl, ku, hl, hf⟩
    refine ⟨_, rfl, _, rfl, _, rfl, _, rfl, Fi, p, t, h, n, o, ki, P0, sts', notes', olds', fl, pv, rfl, X.g.b, X.w, X.rp, X.vd, by omega, by omega, fun F1 H1 k2 g1 w1 kl1 ku1 => ⟨true, rfl, ?_⟩⟩
    refine split_if (fun z => Bool.noConfusion z) fun _ => ?_
    have X1 := X.call g1 (fun _ z => .inl z) w1 X.vd
    refine ⟨_, rfl, _, rfl, _, rfl, stands_sp (E := fun _ _ _ => False) X1.w X1.vd X1.rp X1.g.b (by omega) fun H2 f2 => ⟨true, rfl, ?_⟩⟩
    refine split_if (fun z => Bool.noConfusion z) fun _ => ?_
    have X2 := X1.fr f2
    clear X X1
    generalize LNw.nt (LNw.nt F1) = F2 at X2
    have vd' := X2.vd
    obtain ⟨s1, r, rfl⟩ := List.exists_cons_of_ne_nil vd'.ne
    have hr2 : r.length ≤ 2 := by have := vd'.le; rw [List.length_cons] at this; omega
    obtain ⟨dx, wv, kv, ft, ht, _, _⟩ := X2.w.tb.ex
    refine ⟨_, rfl, t, dx, _, rfl, ht, rfl, F2, t, P0, s1, r, notes', olds', fl, rfl, X2.g.b, X2.w.tb, hr2, fun t2 F3 H3 ht2 f3 tb3 => ?_⟩
    refine ⟨F3, h, n, o, s1 :: r, notes', olds', rfl, f3.b, X2.w.hr.fr f3, fun h2 n2 o2 H4 f4 hr4 hh2 hn2 ho2 d1 d2 d3 => ⟨_, _, rfl, ?_⟩⟩
    have X4 := X2.fr (f3.tr f4)
    have t2S := tb3.isSome
    have no3 : ∀ {q u : Addr}, (H3 q).isSome → H3 u = none → q ≠ u := fun a b z => by rw [z, b] at a; cases a
    have no2 : ∀ {q u : Addr}, (H2 q).isSome → H2 u = none → q ≠ u := fun a b z => by rw [z, b] at a; cases a
    have in3 : ∀ q, Mx p t h n o q → (H3 q).isSome := fun q m => by
      have W3 := X2.w.fr f3
      exact W3.there q m
    have V4 : Wl K C (LNw.nt F3) H4 p t2 h2 n2 o2 k2 P0 (s1 :: r) notes' olds' 0 := wl_nt ⟨(X2.w.dr.fr f3).fr f4, tb3.fr f4, hr4, by
      simp only [List.nodup_cons, List.mem_cons, List.not_mem_nil, or_false, not_or, not_false_eq_true, List.nodup_nil, and_true]
      exact ⟨⟨no2 (X2.w.there p (.inl rfl)) ht2, no3 (in3 p (.inl rfl)) hh2, no3 (in3 p (.inl rfl)) hn2, no3 (in3 p (.inl rfl)) ho2⟩, ⟨no3 t2S hh2, no3 t2S hn2, no3 t2S ho2⟩, ⟨d1, d2⟩, d3⟩⟩
    obtain ⟨npt, nph, npn, npo, nth, ntn, nto, nhn, nho, nno⟩ := nes_of W.nd
    have ds : ∀ q, q = t ∨ q = h ∨ q = n ∨ q = o → ¬ Mx p t2 h2 n2 o2 q := by
      intro q m
      have mx : Mx p t h n o q := .inr m
      have np : q ≠ p := by
        rcases m with z | z | z | z <;> rw [z]
        · exact Ne.symm npt
        · exact Ne.symm nph
        · exact Ne.symm npn
        · exact Ne.symm npo
      rintro (z | z | z | z | z)
      · exact np z
      · exact no2 (X2.w.there q mx) ht2 z
      · exact no3 (in3 q mx) hh2 z
      · exact no3 (in3 q mx) hn2 z
      · exact no3 (in3 q mx) ho2 z
    -- what is new now is not in the heap at the entry
    have fin : ∀ F5 H5 k5 x9, GrT (fun q => q = p ∨ q = t) (LNw.nt F3) H4 F5 H5 → NT F5 → Tabs (TabsL Pa) H5 → Wl K C F5 H5 p t h n o k5 P0 (s1 :: r) notes' olds' fl → k2 ≤ k5 → k5 ≤ k2 + 46 * (2 - d) →
        T67 K C (TabsL Pa) { nx := fun _ H' => Q .non H', rt := Q } [some (.ref p), some (.ref t), some pv, some (.ref h), some (.int (d : Int)), some (.int fl), y6, some (.ref t2), some (.ref h2), x9] H5 := by
      intro F5 H5 k5 x9 g5 nt5 tb5 W5 kl5 ku5
      have G5 := X4.g.trW X4.w (g5.wide fun q z => z.elim .inl fun z => .inr (.inl z))
      have out5 : ∀ q, (q = t2 ∨ q = h2 ∨ q = n2 ∨ q = o2) → ¬ (q = p ∨ q = t) := fun q m z => by
        rcases z with z | z
        · have := (nes_of V4.nd).1
          have := (nes_of V4.nd).2.1
          have := (nes_of V4.nd).2.2.1
          have := (nes_of V4.nd).2.2.2.1
          rw [z] at m
          rcases m with m | m | m | m <;> contradiction
        · exact ds q (.inl z) (.inr m)
      have V5 : Wl K C F5 H5 p t2 h2 n2 o2 k5 P0 (s1 :: r) notes' olds' 0 := ⟨W5.dr, V4.tb.gt g5 (out5 _ (.inl rfl)), V4.hr.gt g5 (out5 _ (.inr (.inl rfl))) (out5 _ (.inr (.inr (.inl rfl)))) (out5 _ (.inr (.inr (.inr rfl)))), V4.nd⟩
      refine ⟨F5, p, t, h, n, o, t2, h2, n2, o2, k5, P0, s1 :: r, notes', olds', fl, pv, _, _, _, x9, rfl, nt5, tb5, g5.b, W5, V5, ds, X4.rp.mono g5.a, vd', by omega, by omega, by omega, fun F6 H6 k6 g6 nt6 tb6 W6 kl6 ku6 => ?_⟩
      refine q F6 H6 k6 _ _ _ (G5.trN g6 (fun u v m a b c => ?_) fun u v m a b c => W5.have u m) nt6 tb6 W6.dr W6.tb (by omega) (by omega)
      -- u stood at the entry
      have s2 : Mx p t h n o u ∨ (H2 u).isSome := by
        by_cases z : Mx p t h n o u
        · exact .inl z
        · exact .inr (by rw [(X2.g.c u v a b c).2 z]; rfl)
      have s3 : Mx p t h n o u ∨ (H3 u).isSome := by
        by_cases z : Mx p t h n o u
        · exact .inl z
        · have e2 := (X2.g.c u v a b c)
          exact .inr (by rw [(f3.c u v e2.1 (e2.2 z)).2]; rfl)
      rcases m with z | z | z | z | z
      · exact .inl z
      · exact s2.elim id fun w => absurd z (no2 w ht2)
      · exact s3.elim id fun w => absurd z (no3 w hh2)
      · exact s3.elim id fun w => absurd z (no3 w hn2)
      · exact s3.elim id fun w => absurd z (no3 w ho2)
    dsimp only [List.set_cons_succ, List.set_cons_zero]
    refine ⟨_, rfl, (d : Int), 2, rfl, rfl, _, rfl, ?_⟩
    refine split_if (fun z => ?_) fun z => ?_
    · have hd : (d : Int) < 2 := of_decide_eq_true z
      refine ⟨LNw.nt F3, p, t, h, n, o, k2, P0, s1 :: r, notes', olds', fl, pv, _, _, _, _, rfl, by omega, X4.g.b, X4.nt, X4.tb, X4.w, X4.rp, vd', by omega, by omega, by omega, fun F5 H5 k5 x9 g5 nt5 tb5 W5 kl5 ku5 => ?_⟩
      exact fin F5 H5 k5 x9 g5 nt5 tb5 W5 kl5 ku5
    · exact fin (LNw.nt F3) H4 k2 none (GrT.refl X4.g.b) X4.nt X4.tb X4.w (by omega) (by omega)
end LNw
namespace LNw
open PySem PySem.Spec PyProof.Rows L2 HotX L2H LNa LNb LNi LNt LNp LNn LamX NdefX
open LNm (Pt PtOk PtD Sx eO eRow eRdr eS eH eP eW eK Dd eD Al canD behindM Wd wS)
open Evl (Ex Ex.refl Ex.trans Ex.new ex_t ex_l ex_rd fresh_back)
theorem t_walk {P : Program} {w : World} {K : PySem.W.Frag} {mg : Str → Option Value} {base : Heap} {C : Cs K} {f c g c3 Pa : Addr} (T : Tw K mg C) (R : Tr K mg c3) (F : FdC K "_law_walk_right" "_law_walk_right" (top 67) f c) (hm : mg "_law_walk_right" = some (.ref f)) (hk : PySem.W.keepIn K (.ref f) = true)
    (Fa : FdS K "attempt" "LiveTable.attempt" (met 38 12) g) (Ma : Meth K C.ct "attempt" g) (TB : TabB base mg c Pa)
    (M : Mgr P w K mg base c3 1 (spEnter K C c3) (spExit K C c3)) (D_trial : DmM C8.CX0 P w K mg base C.ct "trial" 3 (spTrial K C c3)) (D_fall : DfM (L2N.CX P w) P w K mg base "_law_fall" 7 (spFall K C))
    (D_step : DfM C8.CX0 P w K mg base "_law_step_right" 8 (spStep K C)) (D_tr : DfM C8.CX0 P w K mg base "_law_tried_right" 8 (spTR K C)) (D_stands : Dfn P w K mg base C "_law_stands" 7 f_l_stands) (D_branch : DmM C8.CX0 P w K mg base C.ct "branch" 4 (spBranch K C)) :
    DfM C8.CX0 P w K mg base "_law_walk_right" 15 (spWalk K C (TabsL Pa) 0) := by
  have d2 : DfM C8.CX0 P w K mg base "_law_walk_right" 9 (spWalk K C (TabsL Pa) 2) := dfm_of hm hk (walk_core (m := 8) (by omega) (by omega) T F D_step D_tr D_stands D_branch fun A outer s H E hr => PSs.imp pss_never fun D σ H h => by
    obtain ⟨_, _, _, _, _, _, _, _, _, _, _, _, _, _, _, _, _, _, hd, _⟩ := h
    exact absurd hd (by omega))
  have d1 : DfM C8.CX0 P w K mg base "_law_walk_right" 12 (spWalk K C (TabsL Pa) 1) := dfm_of hm hk (walk_core (m := 11) (by omega) (by omega) T F D_step D_tr D_stands D_branch fun A outer s H E hr => w5 (m := 0) (d := 1) T R Fa Ma TB M D_trial D_fall D_stands d2 A outer s H E hr)
  exact dfm_of hm hk (walk_core (m := 14) (by omega) (by omega) T F D_step D_tr D_stands D_branch fun A outer s H E hr => w5 (m := 3) (d := 0) T R Fa Ma TB M D_trial D_fall D_stands d1 A outer s H E hr)
end LNw
set_option maxHeartbeats 4000000
/-! The law itself. -/
namespace LNw
open PySem PySem.Spec PyProof.Rows L2 HotX L2H LNa LNb LNi LNt LNp LNn LamX NdefX
open LNm (Pt PtOk PtD Sx eO eRow eRdr eS eH eP eW eK Dd eD Al canD behindM Wd wS)
open Evl (Ex Ex.refl Ex.trans Ex.new ex_t ex_l ex_rd fresh_back)
def spFirst (K : PySem.W.Frag) : Sp := fun vs H Q _ => ∃ F, vs = [] ∧ Ex F H ∧ ∀ v F' H', Fr F H F' H' → Dr K F' v (eS LNn.s0) → Q v H'
abbrev N_first : List Str := []
theorem s_first : FnScope N_first [] (defScope (top 49)) := ⟨rfl, rfl, rfl, by decide +kernel, rfl, by decide +kernel, by decide +kernel⟩
theorem t_first {P : Program} {w : World} {K : PySem.W.Frag} {mg : Str → Option Value} {base : Heap} {f : Addr} (F : FdS K "_law_first" "_law_first" (top 49) f) :
    ∃ fd, Binds K fd [] [] ∧ FnOk P w K mg base C8.CX0 1 f fd [] (spFirst K) := by
  refine fd_M F s_first (fun _ _ _ _ _ _ us hl => match us, hl with | [], _ => rfl) (fun vs H Q E ⟨_, e, _⟩ => by rw [e]; rfl) fun cdv A outer s H vs Q E hr h => ?_
  refine ⟨_, PSs.nox (pss_one (ps_ret (pe_tup (pa_cons pe_non (pa_cons pe_non (pa_cons pe_int pa_nil)))))), ?_⟩
  obtain ⟨F, rfl, e, q⟩ := h
  refine ⟨by simp [sizeLine_eq], fun p hp => ?_⟩
  have f1 := Fr.new (.tup [.non, .non, .int 0]) e hp
  exact q _ _ _ f1 (.tup (SqT.of upd_same) (.cons .non (.cons .non (.cons (.int 0) .nil))))
theorem fr_gr {M : Addr → Prop} {F H F1 H1 F2 H2 : Hp} (x : Fr F H F1 H1) (y : Gr M F1 H1 F2 H2) (hM : ∀ q, M q → H q = none) : Fr F H F2 H2 :=
  ⟨x.a.trans y.a, y.b, fun p o a b => by
    obtain ⟨c, d⟩ := x.c p o a b
    exact ⟨(y.c p o c d).1, (y.c p o c d).2 fun m => by rw [hM p m] at b; cases b⟩⟩
theorem al_first (P : Pt) (n : Nat) (h : 0 ≤ P.size) : Al P (List.replicate n LNn.s0) := ⟨0, none, h, fun s hs => by rw [(List.mem_replicate.mp hs).2]; exact ⟨rfl, rfl⟩⟩
def spLaw (K : PySem.W.Frag) (Pa : Addr) : Sp := fun vs H Q _ => ∃ (a : Addr) (ns : List Int), vs = [.ref a] ∧ SqL K H a (ns.map V.int) ∧ H Pa = some (.tbl #[]) ∧ ∀ H', Q (.bl true) H'
abbrev N_law : List Str := ["_law_script", "_law_draw", "_law_parts_here", "_law_rows_here", "_law_table", "_law_here"]
theorem s_law : FnScope N_law ["_law_script"] (defScope (top 68)) := ⟨rfl, rfl, rfl, by decide +kernel, rfl, by decide +kernel, by decide +kernel⟩
theorem t_law {P : Program} {w : World} {K : PySem.W.Frag} {mg : Str → Option Value} {base : Heap} {C : Cs K} {f fl Pa : Addr} {oc : Value} {od : Option Addr} {kV doc pm : Value} {an : Option Addr} {cdv ct : Value} {osl : Array (Option Value)} (T : Tw K mg C) (lk : K.lookup f = some ⟨oc, od, .func (PySem.W.fnOf "law" "law" (defArgs (top 68)) (defBody (top 68)) (defScope (top 68)) .none kV doc pm an cdv ct), osl⟩) (hcd : PySem.W.codeIn K cdv "law" = true)
    (D_parts : DfM C8.CX0 P w K mg base "_law_parts" 4 (spParts K)) (D_take : DfM C8.CX0 P w K mg base "_law_take" 2 (spTake K)) (D_made : DfM C8.CX0 P w K mg base "_law_made" 5 (spMade K C)) (D_first : DfM C8.CX0 P w K mg base "_law_first" 1 (spFirst K))
    (M : Mk K C.ct fl) (L : ∃ fd, Binds K fd ["self", "wheel", "rows"] [] ∧ FnOk P w K mg base C8.CX0 2 fl fd ["self", "wheel", "rows"] (spLive K C)) (D_stands : Dfn P w K mg base C "_law_stands" 7 f_l_stands) (D_walk : DfM C8.CX0 P w K mg base "_law_walk_right" 15 (spWalk K C (TabsL Pa) 0)) :
    FnOk P w K mg base C8.CX0 16 f (PySem.W.fnOf "law" "law" (defArgs (top 68)) (defBody (top 68)) (defScope (top 68)) .none kV doc pm an cdv ct) ["_law_script"] (spLaw K Pa) := by
  obtain ⟨fdl, bl, FL⟩ := L
  refine fn_of lk hcd s_law (fun vs H Q E ⟨_, _, e, _⟩ => by rw [e]; rfl) fun A outer s H vs Q E hr h => ?_
  refine ⟨_, PSs.nox (pss_cons (ps_asg (pe_lst (pa_cons (vv 0) (pa_cons pe_int pa_nil))) (pg_name (i := 1) s_law.nd rfl (.inl rfl)))
    (pss_cons (ps_parW (i := 2) (j := 3) (.inl rfl) s_law.nd rfl rfl (by decide) rfl rfl (pa_cons (m_call D_parts hr C8.pass0 (E := fun _ _ _ => False) (pa_cons (vv 1) (pa_cons (pe_lst (pa_cons pe_int (pa_cons pe_int pa_nil))) pa_nil))) (pa_cons (pe_op op_add pe_int (m_call D_take hr C8.pass0 (E := fun _ _ _ => False) (pa_cons (vv 1) (pa_cons pe_int pa_nil)))) pa_nil)) (by with_unfolding_all rfl))
    (pss_cons (ps_parW (i := 4) (j := 5) (.inl rfl) s_law.nd rfl rfl (by decide) rfl rfl (pa_cons (pe_make M FL (hr.mono (by decide)) (by rfl) T.g_Live bl .nil (C8.pass0 (E := fun _ _ _ => False)) (pa_cons (m_call D_made hr C8.pass0 (E := fun _ _ _ => False) (pa_cons (vv 2) pa_nil)) (pa_cons (vv 3) pa_nil)))
        (pa_cons (pe_lst (pa_cons (pe_op op_rep (pe_lst (pa_cons (m_call0 D_first hr C8.pass0 (E := fun _ _ _ => False)) pa_nil)) (vv 3)) (pa_cons (pe_lst pa_nil) (pa_cons (pe_lst pa_nil) pa_nil)))) pa_nil)) (by with_unfolding_all rfl))
    (pss_one (ps_ret (pe_and (m_call D_stands.m hr C8.pass0 (E := fun _ _ _ => False) (pa_cons (vv 4) (pa_cons (vv 2) (pa_cons (vv 5) pa_nil)))) (pe_one (m_call D_walk hr C8.pass0 (E := fun _ _ _ => False) (pa_cons (vv 1) (pa_cons (vv 4) (pa_cons (vv 2) (pa_cons (vv 5) (pa_cons pe_int pa_nil))))))))))))), ?_⟩
  obtain ⟨a, ns, rfl, hsq, hT, q⟩ := h
  -- what is read of the script
  obtain ⟨F0, e0, n0, h0⟩ : ∃ F0, Ex F0 H ∧ NT F0 ∧ SqL K F0 a (ns.map V.int) := by
    have one : ∀ o : HO, H a = some o → Ntb o → Ex (fun q => if q = a then some o else none) H ∧ NT (fun q => if q = a then some o else none) := fun o ho nb => by
      refine ⟨fun q u z => ?_, fun q ps z => ?_⟩
      · have z : (if q = a then some o else none) = some u := z
        split at z
        · rename_i e; cases z; rw [e]; exact ho
        · cases z
      · have z : (if q = a then some o else none) = some (.tbl ps) := z
        split at z
        · cases z; exact nb ps rfl
        · cases z
    rcases hsq with (h | ⟨o, h⟩) | h
    · obtain ⟨x, y⟩ := one _ h ntb_lst
      exact ⟨_, x, y, .inl (.inl (if_pos rfl))⟩
    · obtain ⟨x, y⟩ := one _ h (fun _ z => by cases z)
      exact ⟨_, x, y, .inl (.inr ⟨o, if_pos rfl⟩)⟩
    · exact ⟨fun _ => none, fun q u z => (nomatch z), fun q ps z => (nomatch z), .inr h⟩
  have tabs0 : Tabs (TabsL Pa) H := fun p hp => by
    rw [List.mem_singleton.mp hp]
    exact ⟨#[], hT, trivial, fun pos cv z => (nomatch z)⟩
  refine ⟨_, rfl, by simp [sizeLine_eq], fun p hp => ?_⟩
  have f1 : Fr F0 H F0 (upd H p (.lst [.ref a, .int 0])) := Fr.out _ e0 hp
  have dr1 : Drw K F0 (upd H p (.lst [.ref a, .int 0])) p 0 := ⟨.ref a, ns, fresh_back e0 hp, upd_same, ⟨a, rfl, h0⟩⟩
  dsimp only [gName, LNw.N_law, L2.start, List.map_cons, List.map_nil, List.set_cons_succ, List.set_cons_zero]
  refine ⟨_, rfl, by simp [sizeLine_eq], fun l hl => ?_⟩
  have f2 := Fr.new (.lst [.int 4, .int 6]) f1.b hl
  refine ⟨_, p, 0, .ref l, rfl, f2.b, dr1.fr f2, by omega, by unfold kMax; omega, .lst upd_same (.cons (.int 4) (.cons (.int 6) .nil)), fun P0 u F2 H2 hP rP d2 => ?_⟩
  have f3 : Fr F0 H F2 H2 := fr_gr (f1.tr f2) d2.gr fun q m => by rw [m]; exact hp
  refine ⟨_, rfl, F2, p, _, 3, rfl, d2.gr.b, d2.dr, by omega, by unfold kMax; omega, by omega, fun r F3 H3 r0 r3 g3 d3 => ⟨1, r, rfl, rfl, _, _, rfl, ?_⟩⟩
  have f4 : Fr F0 H F3 H3 := fr_gr f3 g3 fun q m => by rw [m]; exact hp
  have rP3 := rP.mono g3.a
  refine ⟨_, rfl, F3, u, P0, rfl, g3.b, rP3, hP, fun wv F4 H4 f5 rw4 => ?_⟩
  have d4 := d3.fr f5
  refine ⟨_, rfl, fun x dx hx hdx ne => ?_⟩
  obtain ⟨e5, fx⟩ := make_ex (a := .own x) (b := .ins C.ct dx []) f5.b hx hdx
  refine ⟨F4, x, dx, wv, P0, 1 + r, rfl, e5, fx, upd_same, rw4, by omega, by omega, fun kv F5 H5 g5 hx5 rk5 => ⟨rfl, ?_⟩⟩
  have f6 : Fr F4 H4 F5 H5 := make_fr hx hdx g5
  have fx5 : F5 x = none := (g5.c x _ fx upd_same).1
  have d5 := d4.fr f6
  have t5 : Tb K C F5 H5 x P0 (List.replicate (1 + r).toNat LNn.s0) [] [] 0 := ⟨dx, wv, kv, fx5, hx5, rw4.mono f6.a, rk5⟩
  refine ⟨F5, rfl, f6.b, fun sv F6 H6 f7 r7 => ⟨by simp [sizeLine_eq], fun l1 hl1 => ?_⟩⟩
  have f8 : Fr F6 H6 F6 (upd H6 l1 (.lst [sv])) := Fr.out _ f7.b hl1
  refine ⟨_, rfl, l1, 1 + r, [sv], rfl, rfl, upd_same, by omega, by omega, by simp [sizeLine_eq]; omega, fun l2 hl2 => ?_⟩
  rw [rep_one]
  have f9 := Fr.new (.lst (List.replicate (1 + r).toNat sv)) f8.b hl2
  have rl2 : Dr K (upd F6 l2 (.lst (List.replicate (1 + r).toNat sv))) (.ref l2) (oL (List.replicate (1 + r).toNat LNn.s0)) := by
    refine .lst upd_same ?_
    rw [List.map_replicate]
    exact rep_dr (r7.mono f9.a) _
  refine ⟨by simp [sizeLine_eq], fun n hn => ?_⟩
  have f10 : Fr _ _ _ (upd (upd (upd H6 l1 (.lst [sv])) l2 (.lst (List.replicate (1 + r).toNat sv))) n (.lst [])) := Fr.out _ f9.b hn
  refine ⟨by simp [sizeLine_eq], fun o ho => ?_⟩
  have f11 : Fr _ _ _ (upd (upd (upd (upd H6 l1 (.lst [sv])) l2 (.lst (List.replicate (1 + r).toNat sv))) n (.lst [])) o (.lst [])) := Fr.out _ f10.b ho
  refine ⟨by simp [sizeLine_eq], fun h hh => ⟨_, _, rfl, ?_⟩⟩
  have f12 : Fr _ _ _ (upd (upd (upd (upd (upd H6 l1 (.lst [sv])) l2 (.lst (List.replicate (1 + r).toNat sv))) n (.lst [])) o (.lst [])) h (.lst [.ref l2, .ref n, .ref o])) := Fr.out _ f11.b hh
  have f7a := f7.tr (f8.tr (f9.tr (f10.tr (f11.tr f12))))
  have d12 := d5.fr f7a
  have t12 := t5.fr f7a
  have fall : Fr F0 H _ _ := f4.tr (f5.tr (f6.tr f7a))
  have nno : n ≠ o := fun z => by rw [← z, upd_same] at ho; cases ho
  have nho : h ≠ o := fun z => by rw [z, upd_same] at hh; cases hh
  have nhn : h ≠ n := fun z => by rw [z, upd_ne nno, upd_same] at hh; cases hh
  have ho2 : upd (upd H6 l1 (.lst [sv])) l2 (.lst (List.replicate (1 + r).toNat sv)) o = none := by rw [upd_ne (Ne.symm nno)] at ho; exact ho
  have hh2 : upd (upd H6 l1 (.lst [sv])) l2 (.lst (List.replicate (1 + r).toNat sv)) h = none := by rw [upd_ne nho, upd_ne nhn] at hh; exact hh
  have no : ∀ {q u : Addr} {G : Hp}, (G q).isSome → G u = none → q ≠ u := fun a b z => by rw [z, b] at a; cases a
  have d9 := (d5.fr f7).fr (f8.tr f9)
  have t9 := (t5.fr f7).fr (f8.tr f9)
  have npx : p ≠ x := no d4.isSome hx
  have W : Wl K C (upd F6 l2 (.lst (List.replicate (1 + r).toNat sv))) (upd (upd (upd (upd (upd H6 l1 (.lst [sv])) l2 (.lst (List.replicate (1 + r).toNat sv))) n (.lst [])) o (.lst [])) h (.lst [.ref l2, .ref n, .ref o])) p x h n o (0 + 5 + 1) P0 (List.replicate (1 + r).toNat LNn.s0) [] [] 0 := by
    refine ⟨d12, t12, ⟨.ref l2, [], [], fresh_back f9.b hh2, upd_same, fresh_back f9.b hn, ?_, fresh_back f9.b ho2, ?_, rl2, .nil, .nil⟩, ?_⟩
    · rw [upd_ne (Ne.symm nhn), upd_ne nno, upd_same]
    · rw [upd_ne (Ne.symm nho), upd_same]
    · simp only [List.nodup_cons, List.mem_cons, List.not_mem_nil, or_false, not_or, not_false_eq_true, List.nodup_nil, and_true]
      exact ⟨⟨npx, no d9.isSome hh2, no d9.isSome hn, no d9.isSome ho2⟩, ⟨no t9.isSome hh2, no t9.isSome hn, no t9.isSome ho2⟩, ⟨nhn, nho⟩, nno⟩
  have rp12 : Dr K (upd F6 l2 (.lst (List.replicate (1 + r).toNat sv))) u (eP P0) := rP3.mono (f5.a.trans (f6.a.trans (f7.a.trans f9.a)))
  generalize upd (upd (upd (upd (upd H6 l1 (.lst [sv])) l2 (.lst (List.replicate (1 + r).toNat sv))) n (.lst [])) o (.lst [])) h (.lst [.ref l2, .ref n, .ref o]) = HZ at W fall
  generalize upd F6 l2 (.lst (List.replicate (1 + r).toNat sv)) = FZ at W fall rp12
  have vd : Vd P0 (List.replicate (1 + r).toNat LNn.s0) [] [] := by
    have hs := hP.toPtOk.size
    refine ⟨hP.toPtOk, al_first P0 _ (by omega), fun z => ?_, ?_, fun _ z => (nomatch z), rfl⟩
    · have := congrArg List.length z
      rw [List.length_replicate, List.length_nil] at this
      omega
    · rw [List.length_replicate]; omega
  clear f12 f11 f10 f9 f8 f7a d12 t12 d9 t9 rl2 hh ho hn hh2 ho2
  refine ⟨_, rfl, _, rfl, _, rfl, stands_sp (E := fun _ _ _ => False) W vd rp12 fall.b (by simp) fun HY fy => ⟨true, rfl, ?_⟩⟩
  refine split_if (fun _ => ?_) fun z => Bool.noConfusion z
  have fy2 := fall.tr fy
  refine ⟨_, rfl, _, rfl, _, rfl, _, rfl, LNw.nt FZ, p, x, h, n, o, _, P0, _, [], [], 0, u, rfl, (nt_le FZ).trans fy.b, nt_NT FZ, tabs_gr (M := fun _ => False) (fun _ _ z => z.elim) fy2.gr e0 n0 tabs0, wl_nt (W.fr fy), dr_nt rp12, vd, by omega, by unfold kMax; simp, by simp, .inl ⟨rfl, rfl⟩, fun F' H' k' sts' notes' olds' _ _ _ _ _ _ _ => q H'⟩
end LNw
set_option maxHeartbeats 4000000
/-! What the head tells: one Bool and the functions as they stand. -/
namespace LNh
open PySem PySem.Spec PyProof.Rows L2 L2H LNa LNb LNi LNt LNp LNn LNw
/-! ### functions -/
abbrev FnV : Type := Option (Str × Str × Arguments × FuncBody × Scope × Addr × Addr)
def fnAt (K : PySem.W.Frag) (a : Addr) : FnV := match K.lookup a with
  | some ⟨_, _, .func fd, _⟩ => some (fd.name, fd.qualname, fd.params, fd.body, fd.scope, fd.globals, fd.builtins)
  | _ => none
structure D1 where
  at_ : PySem.W.Frag → Addr
  name : Str
  qual : Str
  st : Stmt
def D1.val (d : D1) : FnV := some (d.name, d.qual, defArgs d.st, .stmts (defBody d.st), defScope d.st, mainGlobals, builtinsNs)
/-- no closure, no defaults, its code tells its name -/
def plainF (K : PySem.W.Frag) (a : Addr) (q : Str) : Bool := match K.lookup a with
  | some ⟨_, _, .func fd, _⟩ => fd.closure.isEmpty && (decide (fd.defaults = .none) && PySem.W.codeIn K fd.code q)
  | _ => false
theorem fdS_of {K : PySem.W.Frag} {d : D1} (e : fnAt K (d.at_ K) = d.val) (c : plainF K (d.at_ K) d.qual = true) : FdS K d.name d.qual d.st (d.at_ K) := by
  unfold fnAt at e
  unfold plainF at c
  cases q : K.lookup (d.at_ K) with
  | none => rw [q] at c; cases c
  | some o =>
    obtain ⟨oc, od, dt, osl⟩ := o
    rw [q] at c e
    cases dt with
    | func fd =>
      obtain ⟨n1, n2, n3, n4, n5, n6, n7, n8, n9, n10, n11, n12, n13, n14, n15⟩ := fd
      have e2 : (some (n1, n2, n3, n4, n5, n6, n15) : FnV) = some (d.name, d.qual, defArgs d.st, .stmts (defBody d.st), defScope d.st, mainGlobals, builtinsNs) := e
      simp only [Option.some.injEq, Prod.mk.injEq] at e2
      obtain ⟨h1, h2, h3, h4, h5, h6, h7⟩ := e2
      subst h1 h2 h3 h4 h5 h6 h7
      obtain ⟨c1, c⟩ := Bool.and_eq_true_iff.mp c
      obtain ⟨c2, c3⟩ := Bool.and_eq_true_iff.mp c
      have k1 : n7 = [] := List.isEmpty_iff.mp c1
      have k2 : n8 = .none := of_decide_eq_true c2
      subst k1 k2
      exact ⟨oc, od, n9, n10, n11, n12, n13, n14, osl, q, c3⟩
    | _ => cases c
def dG (x : Str) (i : Nat) : D1 := ⟨fun K => He.ga K x, x, x, top i⟩
def dM (c m q : Str) (i j : Nat) : D1 := ⟨fun K => He.ma K (He.ga K c) m, m, q, met i j⟩
def dP (c m q : Str) (i j : Nat) : D1 := ⟨fun K => gAd K c m, m, q, met i j⟩
def dsG1 : List (Str × Nat) := [("is_whole", 11), ("all_for", 12), ("can_be", 13), ("check_wheel", 15), ("before", 16), ("is_stopped", 20), ("sees", 21), ("is_there", 22), ("older", 23), ("numbered", 24), ("is_held", 25), ("is_ripe", 26), ("passed", 27), ("deeds_in", 28), ("done", 29), ("somebody", 32), ("stands_broken", 33), ("able", 40), ("can_do", 41), ("all_behind", 42)]
def dsG2 : List (Str × Nat) := [("_law_number", 44), ("_law_take", 45), ("_law_pick", 46), ("_law_parts", 47), ("_law_made", 48), ("_law_first", 49), ("_law_is_ahead", 50), ("_law_sees", 51), ("_law_is_stopped", 52), ("_law_aged", 53), ("_law_given", 54), ("_law_passed", 55), ("_law_rows", 56), ("_law_broken", 58), ("_law_can", 60), ("_law_behind", 61), ("_law_stands", 62), ("_law_is_barred", 63), ("_law_step_right", 64), ("_law_tried_right", 65), ("_law_fall", 66), ("_law_walk_right", 67), ("law", 68)]
def dsG : List (Str × Nat) := dsG1 ++ dsG2
def dsM : List D1 := [dM "Wheel" "__init__" "Wheel.__init__" 14 0, dM "LiveTable" "__init__" "LiveTable.__init__" 38 0, dP "LiveTable" "now" "LiveTable.now" 38 1, dP "LiveTable" "journal" "LiveTable.journal" 38 2, dM "LiveTable" "__len__" "LiveTable.__len__" 38 3, dM "LiveTable" "can" "LiveTable.can" 38 4, dM "LiveTable" "do" "LiveTable.do" 38 5, dM "LiveTable" "seen" "LiveTable.seen" 38 6, dM "LiveTable" "read" "LiveTable.read" 38 7, dM "LiveTable" "broken" "LiveTable.broken" 38 8, dM "LiveTable" "undo" "LiveTable.undo" 38 9, dM "LiveTable" "branch" "LiveTable.branch" 38 10, dM "LiveTable" "trial" "LiveTable.trial" 38 11, dM "LiveTable" "attempt" "LiveTable.attempt" 38 12, dM "LiveTable" "tried" "LiveTable.tried" 38 13,
  dM "Trial" "__init__" "Trial.__init__" 39 0, dM "Trial" "__enter__" "Trial.__enter__" 39 1, dM "Trial" "__exit__" "Trial.__exit__" 39 2]
def dsA : List D1 := dsG.map (fun q => dG q.1 q.2) ++ dsM
def dBh : D1 := dM "BadHistory" "__init__" "BadHistory.__init__" 5 0
/-! ### facts as Bools -/
def fFree : List Str := ["max", "min", "len", "all", "isinstance", "tuple", "list", "dict", "int", "bool", "str", "enumerate", "range", "sum", "KeyError", "ValueError", "super", "TypeError", "zip"]
def gloB (K : PySem.W.Frag) (x : Str) : Bool := He.eqO (PySem.W.nsIn K mainGlobals x) (some (some (.ref (He.ga K x))))
def freeB (K : PySem.W.Frag) (x : Str) : Bool := He.eqO (PySem.W.nsIn K mainGlobals x) (some none)
def clsB (K : PySem.W.Frag) (C : Addr) : Bool := PySem.W.plainGet K C Str.empty && (PySem.W.hasDictIn K C && (PySem.W.plainOver K C && He.eqO (PySem.W.findIn K (.ref C) "__setattr__") (some (some (.builtin "object.__setattr__")))))
theorem clsB_ok {K : PySem.W.Frag} {C : Addr} (c : clsB K C = true) : Cls K C := by
  obtain ⟨c1, c⟩ := He.ba c
  obtain ⟨c2, c⟩ := He.ba c
  obtain ⟨c3, c4⟩ := He.ba c
  exact ⟨c1, c2, c3, He.eqO_ok c4⟩
def methB (K : PySem.W.Frag) (C : Addr) (m : Str) : Bool := He.eqO (PySem.W.findIn K (.ref C) m) (some (some (.ref (He.ma K C m)))) && (PySem.W.isFn K (.ref (He.ma K C m)) && PySem.W.keepIn K (.ref (He.ma K C m)))
theorem methB_ok {K : PySem.W.Frag} {C : Addr} {m : Str} (c : methB K C m = true) : Meth K C m (He.ma K C m) := by
  obtain ⟨c1, c⟩ := He.ba c
  obtain ⟨c2, c3⟩ := He.ba c
  exact ⟨He.eqO_ok c1, c2, c3⟩
def mkB (K : PySem.W.Frag) (C : Addr) : Bool := PySem.W.makesIn K C && (He.eqO (PySem.W.findIn K (.ref C) "__init__") (some (some (.ref (He.ma K C "__init__")))) && (PySem.W.isFn K (.ref (He.ma K C "__init__")) && PySem.W.keepIn K (.ref C)))
theorem mkB_ok {K : PySem.W.Frag} {C : Addr} (c : mkB K C = true) : Mk K C (He.ma K C "__init__") := by
  obtain ⟨c1, c⟩ := He.ba c
  obtain ⟨c2, c⟩ := He.ba c
  obtain ⟨c3, c4⟩ := He.ba c
  exact ⟨c1, He.eqO_ok c2, c3, c4⟩
def propB (K : PySem.W.Frag) (x f : Str) : Bool := He.eqO (PySem.W.findIn K (.ref (He.ga K x)) f) (some (some (.ref (He.ma K (He.ga K x) f)))) && (He.eqO (PySem.W.specialIn K (.ref (He.ma K (He.ga K x) f)) "__get__") (some (some (.builtin "property.__get__"))) &&
  (decide (PySem.W.takesIn K (.ref (He.ma K (He.ga K x) f)) = some true) && (match PySem.W.recIn K (He.ma K (He.ga K x) f) "property" with
    | some (.ref _ :: _) => true
    | _ => false)))
theorem propB_ok {K : PySem.W.Frag} {x f : Str} (c : propB K x f = true) : PropOf K (He.ga K x) f (He.ma K (He.ga K x) f) (gAd K x f) := by
  obtain ⟨c1, c⟩ := He.ba c
  obtain ⟨c2, c⟩ := He.ba c
  obtain ⟨c3, c4⟩ := He.ba c
  refine ⟨He.eqO_ok c1, He.eqO_ok c2, of_decide_eq_true c3, ?_⟩
  unfold gAd
  split at c4
  · rename_i g r e
    exact ⟨r, by rw [e]⟩
  · cases c4
def excB (K : PySem.W.Frag) (x : Str) : Bool := gloB K x && (PySem.W.excIn K (He.ga K x) PySem.HandSPX.veTail "ValueError.__new__" && (PySem.W.keepIn K (.ref (He.ga K x)) && (decide (PySem.W.subIn K (.ref (He.ga K x)) (.type "BaseException") = some true) && (decide (PySem.W.typeIn K (.ref (He.ga K x)) = some (.type "type")) && decide (PySem.W.exmOne K (.ref (He.ga K x)) (.ref (He.ga K x)) = some true)))))
theorem excB_ok {K : PySem.W.Frag} {h : Heap} {mg : Str → Option Value} {x : Str} (X : K.In h) (G : h.Ns mainGlobals mg) (c : excB K x = true) : ExF K mg x (He.ga K x) := by
  obtain ⟨c1, c⟩ := He.ba c
  obtain ⟨c2, c⟩ := He.ba c
  obtain ⟨c3, c⟩ := He.ba c
  obtain ⟨c4, c⟩ := He.ba c
  obtain ⟨c5, c6⟩ := He.ba c
  exact ⟨PySem.W.mg_of X G (He.eqO_ok c1), c2, c3, of_decide_eq_true c4, of_decide_eq_true c5, of_decide_eq_true c6⟩
def insB (K : PySem.W.Frag) (C : Addr) : Bool := clsB K C && (He.eqO (PySem.W.findIn K (.ref C) "__class__") (some (some (.builtin "object.__class__"))) && (He.eqO (PySem.W.specialIn K (.builtin "object.__class__") "__get__") (some (some (.builtin "getset_descriptor.__get__"))) &&
  (decide (PySem.W.takesIn K (.builtin "object.__class__") = some true) && (decide (PySem.W.mroIn K C (.type "object") = some true) && decide (PySem.W.kitOne K (.ref C) (.ref C) = some true)))))
theorem insB_ok {K : PySem.W.Frag} {C : Addr} (c : insB K C = true) : C8.InsC K C := by
  obtain ⟨c1, c⟩ := He.ba c
  obtain ⟨c2, c⟩ := He.ba c
  obtain ⟨c3, c⟩ := He.ba c
  obtain ⟨c4, c⟩ := He.ba c
  obtain ⟨c5, c6⟩ := He.ba c
  exact ⟨clsB_ok c1, He.eqO_ok c2, He.eqO_ok c3, of_decide_eq_true c4, of_decide_eq_true c5, of_decide_eq_true c6⟩
/-- __enter__, __exit__, __len__: found, a function -/
def specB (K : PySem.W.Frag) (C : Addr) (m : Str) : Bool := He.eqO (PySem.W.findIn K (.ref C) m) (some (some (.ref (He.ma K C m)))) && PySem.W.isFn K (.ref (He.ma K C m))
theorem specB_ok {K : PySem.W.Frag} {C : Addr} {m : Str} (c : specB K C m = true) : PySem.W.findIn K (.ref C) m = some (some (.ref (He.ma K C m))) ∧ PySem.W.isFn K (.ref (He.ma K C m)) = true := ⟨He.eqO_ok (He.ba c).1, (He.ba c).2⟩
def noB (K : PySem.W.Frag) (C : Addr) (f : Str) : Bool := He.eqO (PySem.W.findIn K (.ref C) f) (some none)
def conL : List (Str × PyData) := [("SIZES", d_SIZES), ("RULES", d_RULES), ("DEEDS", d_DEEDS), ("START", d_START), ("WISHES", d_WISHES), ("FOR_ALL", d_FOR_ALL), ("FOR_ONE", d_FOR_ONE), ("MOST_ROWS", d_MOST_ROWS)]
/-! ### BadHistory -/
def bhClsB (K : PySem.W.Frag) (C : Addr) : Bool := match K.lookup C with
  | some ⟨.type ty, _, .cls cd, sl⟩ => (match cd.mro, sl.toList with
    | .ref C' :: bm, [_, _, _, _, some (.builtin n), _] => decide (ty = "type") && (decide (C' = C) && (decide (n = "ValueError.__new__") && (!cd.hasDel && (cd.hasDict && PySem.HandSPX.refsVE bm))))
    | _, _ => false)
  | _ => false
theorem bhClsB_ok {K : PySem.W.Frag} {C : Addr} (c : bhClsB K C = true) : ∃ nm q N bs bm sn sub ab col dd k0 k1 k2 k3 k5, K.lookup C = some (PySem.excClassObj nm q C N bs bm true sn sub ab col dd k0 k1 k2 k3 k5 "ValueError.__new__") ∧ PySem.HandSPX.refsVE bm = true := by
  unfold bhClsB at c
  split at c
  · rename_i ty dd cd sl ho
    split at c
    · rename_i C' bm k0 k1 k2 k3 n k5 hm hs
      obtain ⟨c1, c⟩ := He.ba c
      obtain ⟨c2, c⟩ := He.ba c
      obtain ⟨c3, c⟩ := He.ba c
      obtain ⟨c4, c⟩ := He.ba c
      obtain ⟨c5, c6⟩ := He.ba c
      have e1 : ty = "type" := of_decide_eq_true c1
      have e2 : C' = C := of_decide_eq_true c2
      have e3 : n = "ValueError.__new__" := of_decide_eq_true c3
      subst e1 e2 e3
      obtain ⟨nm, bs, mro, ns, qn, hd, sn, sub, ab, col, del⟩ := cd
      dsimp only at hm c4 c5
      subst hm
      have e4 : del = false := by cases del <;> first | rfl | cases c4
      have e5 : hd = true := c5
      subst e4 e5
      have hsl : sl = #[k0, k1, k2, k3, some (.builtin "ValueError.__new__"), k5] := by
        obtain ⟨l⟩ := sl
        simp only at hs
        rw [hs]
      subst hsl
      exact ⟨nm, qn, ns, bs, bm, sn, sub, ab, col, dd, k0, k1, k2, k3, k5, ho, c6⟩
    · cases c
  · cases c
def bhFnB (K : PySem.W.Frag) (C fI : Addr) (file : Str) : Bool := match K.lookup fI with
  | some ⟨_, _, .func fd, _⟩ => (match fd.closure, fd.defaults, fd.code with
    | [(n, cc)], .ref Dt, .ref cda => decide (n = "__class__") && (PySem.W.codeIn K (.ref cda) "BadHistory.__init__" && ((match K.lookup Dt with
        | some ⟨_, _, .seq its _, _⟩ => decide (its.size = 1)
        | _ => false) && ((match K.lookup cda with
        | some ⟨_, _, .fields vs, _⟩ => (match (vs[2]? : Option Value) with
          | some (.str f _) => file == f
          | _ => false)
        | _ => false) && (match K.lookup cc with
        | some ⟨_, _, .cell (some (.ref c)), _⟩ => decide (c = C)
        | _ => false))))
    | _, _, _ => false)
  | _ => false
theorem bhFnB_ok {prog : Program} {K : PySem.W.Frag} {C fI : Addr} (e : fnAt K fI = dBh.val) (c : bhFnB K C fI prog.main.file = true) : ∃ (oc dv0 kV doc pm ct ccl cl : Value) (od cdd cld an : Option Addr) (osl ccs csl : Array (Option Value)) (cda cc Dt : Addr) (oD : Obj) (mD : Nat) (vs : Array Value) (file : Str) (tf : Tok),
    K.lookup fI = some ⟨oc, od, .func (PySem.W.fnX "__init__" "BadHistory.__init__" (defArgs (met 5 0)) (defBody (met 5 0)) (defScope (met 5 0)) [("__class__", cc)] (.ref Dt) kV doc pm an (.ref cda) ct), osl⟩ ∧ K.lookup Dt = some oD ∧ oD.data = .seq [dv0].toArray mD ∧ PySem.W.codeIn K (.ref cda) "BadHistory.__init__" = true ∧
    K.lookup cda = some ⟨ccl, cdd, .fields vs, ccs⟩ ∧ vs[2]? = some (.str file tf) ∧ ((prog.main.file : Str) == file) = true ∧ K.lookup cc = some ⟨cl, cld, .cell (some (.ref C)), csl⟩ := by
  unfold fnAt at e
  unfold bhFnB at c
  cases q : K.lookup fI with
  | none => rw [q] at c; cases c
  | some o =>
    obtain ⟨oc, od, dt, osl⟩ := o
    rw [q] at c e
    cases dt with
    | func fd =>
      obtain ⟨n1, n2, n3, n4, n5, n6, n7, n8, n9, n10, n11, n12, n13, n14, n15⟩ := fd
      have e2 : (some (n1, n2, n3, n4, n5, n6, n15) : FnV) = some (("__init__" : Str), ("BadHistory.__init__" : Str), defArgs (met 5 0), FuncBody.stmts (defBody (met 5 0)), defScope (met 5 0), mainGlobals, builtinsNs) := e
      simp only [Option.some.injEq, Prod.mk.injEq] at e2
      obtain ⟨h1, h2, h3, h4, h5, h6, h7⟩ := e2
      subst h1 h2 h3 h4 h5 h6 h7
      dsimp only at c
      split at c
      · rename_i n cc Dt cda
        obtain ⟨c1, c⟩ := He.ba c
        obtain ⟨c2, c⟩ := He.ba c
        obtain ⟨c3, c⟩ := He.ba c
        obtain ⟨c4, c5⟩ := He.ba c
        have e1 : n = "__class__" := of_decide_eq_true c1
        subst e1
        split at c3
        · rename_i a1 a2 its a3 a4 hD
          split at c4
          · rename_i b1 b2 vs b3 hc
            split at c4
            · rename_i f tf hv
              split at c5
              · rename_i d1 d2 c' d3 hcell
                have e6 : c' = C := of_decide_eq_true c5
                subst e6
                have hz : its.size = 1 := of_decide_eq_true c3
                obtain ⟨dv0, hd0⟩ : ∃ v, its = [v].toArray := by
                  obtain ⟨l⟩ := its
                  match l, hz with
                  | [v], _ => exact ⟨v, rfl⟩
                subst hd0
                exact ⟨oc, dv0, n9, n10, n11, n14, b1, d1, od, b2, d2, n12, osl, b3, d3, cda, cc, Dt, _, _, vs, f, tf, rfl, hD, rfl, c2, hc, hv, c4, hcell⟩
              · cases c5
            · cases c4
          · cases c4
        · cases c3
      · cases c
    | _ => cases c
def bhB (K : PySem.W.Frag) (C fI : Addr) (file : Str) : Bool := gloB K "BadHistory" && (bhClsB K C && (He.eqO (PySem.W.findIn K (.ref C) "__setattr__") (some (some (.builtin "object.__setattr__"))) && (He.eqO (PySem.W.findIn K (.ref C) "__getattribute__") (some (some (.builtin "BaseException.__getattribute__"))) &&
  (noB K C "__getattr__" && (noB K C "index" && (He.eqO (PySem.W.findIn K (.ref C) "__init__") (some (some (.ref fI))) && (decide (PySem.W.typeIn K (.ref fI) = some (.type "function")) && (PySem.W.keepIn K (.ref C) && (decide (PySem.W.subIn K (.ref C) (.type "BaseException") = some true) &&
  (decide (PySem.W.subIn K (.ref C) (.type "ValueError") = some true) && (decide (PySem.W.typeIn K (.ref C) = some (.type "type")) && (PySem.W.hasDictIn K C && (decide (PySem.W.exmOne K (.ref C) (.ref C) = some true) && (He.eqO (PySem.W.nsIn K cStatics "thirdparty.any") (some none) &&
  (He.eqO (PySem.W.ks_superIn K C C "__init__") (some (some (.builtin "ValueError.__init__"))) && (decide (PySem.W.mroIn K C (.ref C) = some true) && bhFnB K C fI file))))))))))))))))
theorem bhB_ok {prog : Program} {K : PySem.W.Frag} {h : Heap} {mg : Str → Option Value} {fI : Addr} (X : K.In h) (G : h.Ns mainGlobals mg) (gS : mg "super" = none) (gT : mg "str" = none) (top_ : (prog.main.scope.names.lookup ("super" : Str)).isSome = false) (e : fnAt K fI = dBh.val) (c : bhB K (He.ga K "BadHistory") fI prog.main.file = true) : BhTxt prog K mg (He.ga K "BadHistory") fI := by
  obtain ⟨c1, c⟩ := He.ba c
  obtain ⟨c2, c⟩ := He.ba c
  obtain ⟨c3, c⟩ := He.ba c
  obtain ⟨c4, c⟩ := He.ba c
  obtain ⟨c5, c⟩ := He.ba c
  obtain ⟨c6, c⟩ := He.ba c
  obtain ⟨c7, c⟩ := He.ba c
  obtain ⟨c8, c⟩ := He.ba c
  obtain ⟨c9, c⟩ := He.ba c
  obtain ⟨c10, c⟩ := He.ba c
  obtain ⟨c11, c⟩ := He.ba c
  obtain ⟨c12, c⟩ := He.ba c
  obtain ⟨c13, c⟩ := He.ba c
  obtain ⟨c14, c⟩ := He.ba c
  obtain ⟨c15, c⟩ := He.ba c
  obtain ⟨c16, c⟩ := He.ba c
  obtain ⟨c17, c18⟩ := He.ba c
  exact ⟨PySem.W.mg_of X G (He.eqO_ok c1), bhClsB_ok c2, He.eqO_ok c3, He.eqO_ok c4, He.eqO_ok c5, He.eqO_ok c6, He.eqO_ok c7, of_decide_eq_true c8, c9, of_decide_eq_true c10, of_decide_eq_true c11, of_decide_eq_true c12, c13, of_decide_eq_true c14, He.eqO_ok c15, He.eqO_ok c16, of_decide_eq_true c17, gS, gT, top_, bhFnB_ok e c18⟩
end LNh
set_option maxHeartbeats 4000000
/-! From what the head tells to the law's promise. -/
namespace LNh
open PySem PySem.Spec PyProof.Rows L2 L2H LNa LNb LNi LNt LNp LNn LNw
def cWalk (K : PySem.W.Frag) : Addr := He.codeOf K ("_law_walk_right", none)
def tWalk (K : PySem.W.Frag) : Addr := He.tabOf K (cWalk K)
def liveM : List Str := ["can", "do", "seen", "read", "broken", "undo", "branch", "trial", "attempt", "tried"]
def factsB (K : PySem.W.Frag) (file : Str) : Bool :=
  fFree.all (freeB K) && (dsG.all (fun q => gloB K q.1 && PySem.W.keepIn K (.ref (He.ga K q.1))) && (dsA.all (fun d => plainF K (d.at_ K) d.qual) && (conL.all (fun q => conIn K q.1 q.2) &&
  (gloB K "Wheel" && (gloB K "LiveTable" && (gloB K "Trial" && (insB K (He.ga K "Wheel") && (clsB K (He.ga K "LiveTable") && (clsB K (He.ga K "Trial") &&
  ((["size", "freeze", "stop", "hold", "cut"] : List Str).all (noB K (He.ga K "Wheel")) && ((["base", "kept"] : List Str).all (noB K (He.ga K "LiveTable")) && ((["table", "before"] : List Str).all (noB K (He.ga K "Trial")) &&
  (mkB K (He.ga K "Wheel") && (mkB K (He.ga K "LiveTable") && (mkB K (He.ga K "Trial") && (excB K "BadDeed" && (excB K "NothingDone" && (liveM.all (methB K (He.ga K "LiveTable")) && (propB K "LiveTable" "now" && (propB K "LiveTable" "journal" &&
  (specB K (He.ga K "LiveTable") "__len__" && (specB K (He.ga K "Trial") "__enter__" && (specB K (He.ga K "Trial") "__exit__" && (bhB K (He.ga K "BadHistory") (He.ma K (He.ga K "BadHistory") "__init__") file && PySem.W.codeHdIn K (cWalk K) (tWalk K)))))))))))))))))))))))))
/-- what is told of K -/
structure Says (file : Str) (K : PySem.W.Frag) : Prop where
  b : factsB K file = true
  f : dsA.map (fun d => fnAt K (d.at_ K)) = dsA.map D1.val
  bh : fnAt K (He.ma K (He.ga K "BadHistory") "__init__") = dBh.val
structure Sd (file : Str) (K : PySem.W.Frag) : Prop where
  free : ∀ x ∈ fFree, freeB K x = true
  glo : ∀ q ∈ dsG, gloB K q.1 = true ∧ PySem.W.keepIn K (.ref (He.ga K q.1)) = true
  fd : ∀ d ∈ dsA, FdS K d.name d.qual d.st (d.at_ K)
  con : ∀ q ∈ conL, conIn K q.1 q.2 = true
  gW : gloB K "Wheel" = true
  gL : gloB K "LiveTable" = true
  gT : gloB K "Trial" = true
  iW : insB K (He.ga K "Wheel") = true
  cL : clsB K (He.ga K "LiveTable") = true
  cT : clsB K (He.ga K "Trial") = true
  nW : ∀ x ∈ (["size", "freeze", "stop", "hold", "cut"] : List Str), noB K (He.ga K "Wheel") x = true
  nL : ∀ x ∈ (["base", "kept"] : List Str), noB K (He.ga K "LiveTable") x = true
  nT : ∀ x ∈ (["table", "before"] : List Str), noB K (He.ga K "Trial") x = true
  mW : mkB K (He.ga K "Wheel") = true
  mL : mkB K (He.ga K "LiveTable") = true
  mT : mkB K (He.ga K "Trial") = true
  eB : excB K "BadDeed" = true
  eN : excB K "NothingDone" = true
  met : ∀ x ∈ liveM, methB K (He.ga K "LiveTable") x = true
  pN : propB K "LiveTable" "now" = true
  pJ : propB K "LiveTable" "journal" = true
  sL : specB K (He.ga K "LiveTable") "__len__" = true
  sE : specB K (He.ga K "Trial") "__enter__" = true
  sX : specB K (He.ga K "Trial") "__exit__" = true
  bhb : bhB K (He.ga K "BadHistory") (He.ma K (He.ga K "BadHistory") "__init__") file = true
  bhf : fnAt K (He.ma K (He.ga K "BadHistory") "__init__") = dBh.val
  hd : PySem.W.codeHdIn K (cWalk K) (tWalk K) = true
theorem sd_of {file : Str} {K : PySem.W.Frag} (S : Says file K) : Sd file K := by
  obtain ⟨b, f, bh⟩ := S
  unfold factsB at b
  simp only [Bool.and_eq_true, List.all_eq_true] at b
  obtain ⟨h1, h2, h3, h4, h5, h6, h7, h8, h9, h10, h11, h12, h13, h14, h15, h16, h17, h18, h19, h20, h21, h22, h23, h24, h25, h26⟩ := b
  exact ⟨h1, h2, fun d hd => fdS_of (List.map_inj_left.mp f d hd) (h3 d hd), h4, h5, h6, h7, h8, h9, h10, h11, h12, h13, h14, h15, h16, h17, h18, h19, h20, h21, h22, h23, h24, h25, bh, h26⟩
def csOf (K : PySem.W.Frag) : Cs K := ⟨He.ga K "Wheel", He.ga K "LiveTable"⟩
section
variable {prog : Program} {w : World} {K : PySem.W.Frag} {mg : Str → Option Value} {h base : Heap}
theorem tx_of (X : K.In h) (G : h.Ns mainGlobals mg) {file : Str} (S : Sd file K) : Tw K mg (csOf K) := by
  have fr : ∀ x ∈ fFree, mg x = none := fun x hx => PySem.W.mg_none_of X G (He.eqO_ok (S.free x hx))
  have cn : ∀ q ∈ conL, ConD K mg q.1 q.2 := fun q hq => con_ok X G (S.con q hq)
  have iW := insB_ok S.iW
  exact { f_max := fr _ (by decide), f_min := fr _ (by decide), f_len := fr _ (by decide), f_all := fr _ (by decide), f_isinstance := fr _ (by decide), f_tuple := fr _ (by decide), f_list := fr _ (by decide), f_dict := fr _ (by decide), f_int := fr _ (by decide), f_bool := fr _ (by decide), f_str := fr _ (by decide), f_enumerate := fr _ (by decide), f_range := fr _ (by decide), f_sum := fr _ (by decide), f_KeyError := fr _ (by decide), f_ValueError := fr _ (by decide), f_super := fr _ (by decide), f_TypeError := fr _ (by decide), f_zip := fr _ (by decide)
          clsW := iW.cl, clsT := clsB_ok S.cL
          n_size := He.eqO_ok (S.nW "size" (by decide)), n_freeze := He.eqO_ok (S.nW "freeze" (by decide)), n_stop := He.eqO_ok (S.nW "stop" (by decide)), n_hold := He.eqO_ok (S.nW "hold" (by decide)), n_cut := He.eqO_ok (S.nW "cut" (by decide)), n_base := He.eqO_ok (S.nL "base" (by decide)), n_kept := He.eqO_ok (S.nL "kept" (by decide))
          k_SIZES := cn ("SIZES", d_SIZES) (by simp [conL]), k_RULES := cn ("RULES", d_RULES) (by simp [conL]), k_DEEDS := cn ("DEEDS", d_DEEDS) (by simp [conL]), k_START := cn ("START", d_START) (by simp [conL]), k_WISHES := cn ("WISHES", d_WISHES) (by simp [conL]), k_FOR_ALL := cn ("FOR_ALL", d_FOR_ALL) (by simp [conL]), k_FOR_ONE := cn ("FOR_ONE", d_FOR_ONE) (by simp [conL]), k_MOST_ROWS := cn ("MOST_ROWS", d_MOST_ROWS) (by simp [conL])
          g_Wheel := PySem.W.mg_of X G (He.eqO_ok S.gW), i_Wheel := iW, g_Live := PySem.W.mg_of X G (He.eqO_ok S.gL) }
theorem fdG (X : K.In h) (G : h.Ns mainGlobals mg) {file : Str} (S : Sd file K) (x : Str) (i : Nat) (hq : (x, i) ∈ dsG) : mg x = some (.ref (He.ga K x)) ∧ PySem.W.keepIn K (.ref (He.ga K x)) = true ∧ FdS K x x (top i) (He.ga K x) :=
  ⟨PySem.W.mg_of X G (He.eqO_ok (S.glo _ hq).1), (S.glo _ hq).2, S.fd (dG x i) (List.mem_append_left _ (List.mem_map.mpr ⟨(x, i), hq, rfl⟩))⟩
theorem fdM {file : Str} (S : Sd file K) (d : D1) (hd : d ∈ dsM) : FdS K d.name d.qual d.st (d.at_ K) := S.fd d (List.mem_append_right _ hd)
theorem mem_dsM {i : Nat} {d : D1} (h : dsM[i]? = some d) : d ∈ dsM := List.mem_of_getElem? h
theorem fdC_of {name qual : Str} {st : Stmt} {x : Str} (F : FdS K name qual st (He.ga K x)) : FdC K name qual st (He.ga K x) (He.codeOf K (x, none)) := by
  obtain ⟨oc, od, kV, doc, pm, an, cdv, ct, osl, lk, hcd⟩ := F.ex
  obtain ⟨c, rfl⟩ := He.codeIn_ref hcd
  have e : He.codeOf K (x, none) = c := He.codeOf_eq (p := (x, none)) lk rfl
  rw [e]
  exact ⟨oc, od, kV, doc, pm, an, ct, osl, lk, hcd⟩
end
end LNh
set_option maxHeartbeats 4000000
/-! All defs, one behind the other. -/
namespace LNh
open PySem PySem.Spec PyProof.Rows L2 L2H LNa LNb LNi LNt LNp LNn LNw
theorem law_fn {prog : Program} {w : World} {K : PySem.W.Frag} {mg : Str → Option Value} {h base : Heap} {f : Addr} {oc : Value} {od : Option Addr} {kV doc pm : Value} {an : Option Addr} {cdv ct : Value} {osl : Array (Option Value)} (X : K.In h) (G : h.Ns mainGlobals mg) (S : Sd prog.main.file K) (htop : (prog.main.scope.names.lookup ("super" : Str)).isSome = false) (TB : LamX.TabB base mg (He.codeOf K ("_law_walk_right", none)) (tWalk K))
    (lk : K.lookup f = some ⟨oc, od, .func (PySem.W.fnOf "law" "law" (defArgs (top 68)) (defBody (top 68)) (defScope (top 68)) .none kV doc pm an cdv ct), osl⟩) (hcd : PySem.W.codeIn K cdv "law" = true) :
    FnOk prog w K mg base C8.CX0 16 f (PySem.W.fnOf "law" "law" (defArgs (top 68)) (defBody (top 68)) (defScope (top 68)) .none kV doc pm an cdv ct) ["_law_script"] (spLaw K (tWalk K)) := by
  have T := tx_of X G S
  obtain ⟨m_is_whole, k_is_whole, F_is_whole⟩ := fdG X G S "is_whole" 11 (by decide +kernel)
  obtain ⟨m_all_for, k_all_for, F_all_for⟩ := fdG X G S "all_for" 12 (by decide +kernel)
  obtain ⟨m_can_be, k_can_be, F_can_be⟩ := fdG X G S "can_be" 13 (by decide +kernel)
  obtain ⟨m_check_wheel, k_check_wheel, F_check_wheel⟩ := fdG X G S "check_wheel" 15 (by decide +kernel)
  obtain ⟨m_before, k_before, F_before⟩ := fdG X G S "before" 16 (by decide +kernel)
  obtain ⟨m_is_stopped, k_is_stopped, F_is_stopped⟩ := fdG X G S "is_stopped" 20 (by decide +kernel)
  obtain ⟨m_sees, k_sees, F_sees⟩ := fdG X G S "sees" 21 (by decide +kernel)
  obtain ⟨m_is_there, k_is_there, F_is_there⟩ := fdG X G S "is_there" 22 (by decide +kernel)
  obtain ⟨m_older, k_older, F_older⟩ := fdG X G S "older" 23 (by decide +kernel)
  obtain ⟨m_numbered, k_numbered, F_numbered⟩ := fdG X G S "numbered" 24 (by decide +kernel)
  obtain ⟨m_is_held, k_is_held, F_is_held⟩ := fdG X G S "is_held" 25 (by decide +kernel)
  obtain ⟨m_is_ripe, k_is_ripe, F_is_ripe⟩ := fdG X G S "is_ripe" 26 (by decide +kernel)
  obtain ⟨m_passed, k_passed, F_passed⟩ := fdG X G S "passed" 27 (by decide +kernel)
  obtain ⟨m_deeds_in, k_deeds_in, F_deeds_in⟩ := fdG X G S "deeds_in" 28 (by decide +kernel)
  obtain ⟨m_done, k_done, F_done⟩ := fdG X G S "done" 29 (by decide +kernel)
  obtain ⟨m_somebody, k_somebody, F_somebody⟩ := fdG X G S "somebody" 32 (by decide +kernel)
  obtain ⟨m_stands_broken, k_stands_broken, F_stands_broken⟩ := fdG X G S "stands_broken" 33 (by decide +kernel)
  obtain ⟨m_able, k_able, F_able⟩ := fdG X G S "able" 40 (by decide +kernel)
  obtain ⟨m_can_do, k_can_do, F_can_do⟩ := fdG X G S "can_do" 41 (by decide +kernel)
  obtain ⟨m_all_behind, k_all_behind, F_all_behind⟩ := fdG X G S "all_behind" 42 (by decide +kernel)
  obtain ⟨m_law_number, k_law_number, F_law_number⟩ := fdG X G S "_law_number" 44 (by decide +kernel)
  obtain ⟨m_law_take, k_law_take, F_law_take⟩ := fdG X G S "_law_take" 45 (by decide +kernel)
  obtain ⟨m_law_pick, k_law_pick, F_law_pick⟩ := fdG X G S "_law_pick" 46 (by decide +kernel)
  obtain ⟨m_law_parts, k_law_parts, F_law_parts⟩ := fdG X G S "_law_parts" 47 (by decide +kernel)
  obtain ⟨m_law_made, k_law_made, F_law_made⟩ := fdG X G S "_law_made" 48 (by decide +kernel)
  obtain ⟨m_law_first, k_law_first, F_law_first⟩ := fdG X G S "_law_first" 49 (by decide +kernel)
  obtain ⟨m_law_is_ahead, k_law_is_ahead, F_law_is_ahead⟩ := fdG X G S "_law_is_ahead" 50 (by decide +kernel)
  obtain ⟨m_law_sees, k_law_sees, F_law_sees⟩ := fdG X G S "_law_sees" 51 (by decide +kernel)
  obtain ⟨m_law_is_stopped, k_law_is_stopped, F_law_is_stopped⟩ := fdG X G S "_law_is_stopped" 52 (by decide +kernel)
  obtain ⟨m_law_aged, k_law_aged, F_law_aged⟩ := fdG X G S "_law_aged" 53 (by decide +kernel)
  obtain ⟨m_law_given, k_law_given, F_law_given⟩ := fdG X G S "_law_given" 54 (by decide +kernel)
  obtain ⟨m_law_passed, k_law_passed, F_law_passed⟩ := fdG X G S "_law_passed" 55 (by decide +kernel)
  obtain ⟨m_law_rows, k_law_rows, F_law_rows⟩ := fdG X G S "_law_rows" 56 (by decide +kernel)
  obtain ⟨m_law_broken, k_law_broken, F_law_broken⟩ := fdG X G S "_law_broken" 58 (by decide +kernel)
  obtain ⟨m_law_can, k_law_can, F_law_can⟩ := fdG X G S "_law_can" 60 (by decide +kernel)
  obtain ⟨m_law_behind, k_law_behind, F_law_behind⟩ := fdG X G S "_law_behind" 61 (by decide +kernel)
  obtain ⟨m_law_stands, k_law_stands, F_law_stands⟩ := fdG X G S "_law_stands" 62 (by decide +kernel)
  obtain ⟨m_law_is_barred, k_law_is_barred, F_law_is_barred⟩ := fdG X G S "_law_is_barred" 63 (by decide +kernel)
  obtain ⟨m_law_step_right, k_law_step_right, F_law_step_right⟩ := fdG X G S "_law_step_right" 64 (by decide +kernel)
  obtain ⟨m_law_tried_right, k_law_tried_right, F_law_tried_right⟩ := fdG X G S "_law_tried_right" 65 (by decide +kernel)
  obtain ⟨m_law_fall, k_law_fall, F_law_fall⟩ := fdG X G S "_law_fall" 66 (by decide +kernel)
  obtain ⟨m_law_walk_right, k_law_walk_right, F_law_walk_right⟩ := fdG X G S "_law_walk_right" 67 (by decide +kernel)
  have D_is_whole := dfn_of (C := csOf K) (P := prog) (w := w) (base := base) m_is_whole k_is_whole (t_is_whole T.toTx F_is_whole)
  have D_before := dfn_of (C := csOf K) (P := prog) (w := w) (base := base) m_before k_before (t_before T.toTx F_before)
  have D_is_stopped := dfn_of (C := csOf K) (P := prog) (w := w) (base := base) m_is_stopped k_is_stopped (t_is_stopped T.toTx F_is_stopped)
  have D_sees := dfn_of (C := csOf K) (P := prog) (w := w) (base := base) m_sees k_sees (t_sees T.toTx F_sees D_before)
  have D_is_there := dfn_of (C := csOf K) (P := prog) (w := w) (base := base) m_is_there k_is_there (t_is_there T.toTx F_is_there)
  have D_older := dfn_of (C := csOf K) (P := prog) (w := w) (base := base) m_older k_older (t_older T.toTx F_older)
  have D_numbered := dfn_of (C := csOf K) (P := prog) (w := w) (base := base) m_numbered k_numbered (t_numbered T.toTx F_numbered D_older)
  have D_is_held := dfn_of (C := csOf K) (P := prog) (w := w) (base := base) m_is_held k_is_held (t_is_held T.toTx F_is_held)
  have D_is_ripe := dfn_of (C := csOf K) (P := prog) (w := w) (base := base) m_is_ripe k_is_ripe (t_is_ripe T.toTx F_is_ripe D_before D_is_held)
  have D_passed := dfn_of (C := csOf K) (P := prog) (w := w) (base := base) m_passed k_passed (t_passed T.toTx F_passed D_is_held D_is_ripe)
  have D_deeds_in := dfn_of (C := csOf K) (P := prog) (w := w) (base := base) m_deeds_in k_deeds_in (t_deeds_in T.toTx F_deeds_in D_is_stopped D_is_there)
  have D_done := dfn_of (C := csOf K) (P := prog) (w := w) (base := base) m_done k_done (t_done T.toTx F_done D_passed D_is_there D_numbered)
  have D_somebody := dfn_of (C := csOf K) (P := prog) (w := w) (base := base) m_somebody k_somebody (t_somebody T.toTx F_somebody D_is_there)
  have D_stands_broken := dfn_of (C := csOf K) (P := prog) (w := w) (base := base) m_stands_broken k_stands_broken (t_stands_broken T.toTx F_stands_broken D_is_stopped D_passed D_somebody D_sees)
  have D_able : DfL prog w K mg base (csOf K) "able" 3 f_able := by
    obtain ⟨fd, b, F⟩ := t_able (P := prog) (w := w) (base := base) (C := csOf K) T.toTx F_able D_deeds_in
    exact ⟨_, fd, _, m_able, k_able, b, F⟩
  have D_can_do := dfn_of (C := csOf K) (P := prog) (w := w) (base := base) m_can_do k_can_do (t_can_do T.toTx F_can_do D_able D_is_whole)
  have D_all_behind := dfn_of (C := csOf K) (P := prog) (w := w) (base := base) m_all_behind k_all_behind (t_all_behind T.toTx F_all_behind D_done)
  have D_all_for := dfn_of (C := csOf K) (P := prog) (w := w) (base := base) m_all_for k_all_for (t_all_for T.toTx F_all_for)
  have D_can_be := dfn_of (C := csOf K) (P := prog) (w := w) (base := base) m_can_be k_can_be (t_can_be T.toTx F_can_be D_all_for D_is_whole)
  have D_law_is_ahead := dfn_of (C := csOf K) (P := prog) (w := w) (base := base) m_law_is_ahead k_law_is_ahead (t_l_is_ahead T.toTx F_law_is_ahead)
  have D_law_sees := dfn_of (C := csOf K) (P := prog) (w := w) (base := base) m_law_sees k_law_sees (t_l_sees T.toTx F_law_sees D_law_is_ahead)
  have D_law_is_stopped := dfn_of (C := csOf K) (P := prog) (w := w) (base := base) m_law_is_stopped k_law_is_stopped (t_l_is_stopped T.toTx F_law_is_stopped)
  have D_law_aged := dfn_of (C := csOf K) (P := prog) (w := w) (base := base) m_law_aged k_law_aged (t_l_aged T.toTx F_law_aged)
  have D_law_given := dfn_of (C := csOf K) (P := prog) (w := w) (base := base) m_law_given k_law_given (t_l_given T.toTx F_law_given D_law_aged)
  have D_law_passed := dfn_of (C := csOf K) (P := prog) (w := w) (base := base) m_law_passed k_law_passed (t_l_passed T.toTx F_law_passed D_law_is_ahead)
  have D_law_rows := dfn_of (C := csOf K) (P := prog) (w := w) (base := base) m_law_rows k_law_rows (t_l_rows T.toTx F_law_rows D_law_given D_law_is_stopped D_law_passed)
  have D_law_broken := dfn_of (C := csOf K) (P := prog) (w := w) (base := base) m_law_broken k_law_broken (t_l_broken T.toTx F_law_broken D_law_sees D_law_is_stopped D_law_passed)
  have D_law_can := dfn_of (C := csOf K) (P := prog) (w := w) (base := base) m_law_can k_law_can (t_l_can T.toTx F_law_can D_law_rows)
  have D_law_behind : DfC prog w K mg base (csOf K) "_law_behind" 4 f_l_behind := by
    obtain ⟨fd, b, F⟩ := t_l_behind (P := prog) (w := w) (base := base) (C := csOf K) T.toTx F_law_behind D_law_rows
    exact ⟨_, fd, _, m_law_behind, k_law_behind, b, F⟩
  have M_wheel := fdM S _ (mem_dsM (i := 0) rfl)
  have M_live := fdM S _ (mem_dsM (i := 1) rfl)
  have M_now := fdM S _ (mem_dsM (i := 2) rfl)
  have M_journal := fdM S _ (mem_dsM (i := 3) rfl)
  have M_len := fdM S _ (mem_dsM (i := 4) rfl)
  have M_can := fdM S _ (mem_dsM (i := 5) rfl)
  have M_do := fdM S _ (mem_dsM (i := 6) rfl)
  have M_seen := fdM S _ (mem_dsM (i := 7) rfl)
  have M_read := fdM S _ (mem_dsM (i := 8) rfl)
  have M_broken := fdM S _ (mem_dsM (i := 9) rfl)
  have M_undo := fdM S _ (mem_dsM (i := 10) rfl)
  have M_branch := fdM S _ (mem_dsM (i := 11) rfl)
  have M_trial := fdM S _ (mem_dsM (i := 12) rfl)
  have M_attempt := fdM S _ (mem_dsM (i := 13) rfl)
  have M_tried := fdM S _ (mem_dsM (i := 14) rfl)
  have M_tri := fdM S _ (mem_dsM (i := 15) rfl)
  have M_enter := fdM S _ (mem_dsM (i := 16) rfl)
  have M_exit := fdM S _ (mem_dsM (i := 17) rfl)
  have cL : Cls K (csOf K).ct := T.clsT
  have me : ∀ x ∈ liveM, Meth K (csOf K).ct x (He.ma K (He.ga K "LiveTable") x) := fun x hx => methB_ok (S.met x hx)
  have L_can : DmL prog w K mg base (csOf K) "can" 4 f_can := by
    obtain ⟨fd, b, F⟩ := t_can (P := prog) (w := w) (base := base) (C := csOf K) T.toTx M_can D_able
    exact ⟨cL, by decide, _, fd, _, me "can" (by decide), b, F⟩
  have L_seen : Dmt prog w K mg base (csOf K) "seen" 3 f_seen := by
    obtain ⟨fd, b, F⟩ := t_seen (P := prog) (w := w) (base := base) (C := csOf K) T.toTx M_seen D_sees
    exact ⟨cL, by decide, _, fd, _, me "seen" (by decide), b, F⟩
  have L_read : Dmt prog w K mg base (csOf K) "read" 3 f_read := by
    obtain ⟨fd, b, F⟩ := t_read (P := prog) (w := w) (base := base) (C := csOf K) T.toTx M_read D_sees
    exact ⟨cL, by decide, _, fd, _, me "read" (by decide), b, F⟩
  have L_broken : Dmt prog w K mg base (csOf K) "broken" 5 f_broken := by
    obtain ⟨fd, b, F⟩ := t_broken (P := prog) (w := w) (base := base) (C := csOf K) T.toTx M_broken D_stands_broken
    exact ⟨cL, by decide, _, fd, _, me "broken" (by decide), b, F⟩
  have L_now : DpL prog w K mg base (csOf K) "now" 1 f_now := by
    obtain ⟨fd, b, F⟩ := t_now (P := prog) (w := w) (base := base) (C := csOf K) T.toTx M_now
    exact ⟨cL, _, _, fd, _, propB_ok S.pN, b, F⟩
  have L_journal : DpL prog w K mg base (csOf K) "journal" 1 f_journal := by
    obtain ⟨fd, b, F⟩ := t_journal (P := prog) (w := w) (base := base) (C := csOf K) T.toTx M_journal
    exact ⟨cL, _, _, fd, _, propB_ok S.pJ, b, F⟩
  have L_len : Dlen prog w K mg base (csOf K) 1 f_len := by
    obtain ⟨fd, b, F⟩ := t_len (P := prog) (w := w) (base := base) (C := csOf K) T.toTx M_len
    exact ⟨_, fd, _, (specB_ok S.sL).1, (specB_ok S.sL).2, b, F⟩
  have D_law_stands := dfn_of (C := csOf K) (P := prog) (w := w) (base := base) m_law_stands k_law_stands (t_l_stands T.toTx F_law_stands D_law_can D_law_sees D_law_broken L_can L_seen L_read L_broken L_now L_journal L_len)
  have D_law_number := dfm_of m_law_number k_law_number (t_num (P := prog) (w := w) (base := base) (C := csOf K)  T.toTx F_law_number)
  have D_law_take := dfm_of m_law_take k_law_take (t_take (P := prog) (w := w) (base := base) (C := csOf K)  T.toTx F_law_take D_law_number)
  have D_law_pick := dfm_of m_law_pick k_law_pick (t_pick (P := prog) (w := w) (base := base) (C := csOf K)  T.toTx F_law_pick D_law_take)
  have D_law_parts := dfm_of m_law_parts k_law_parts (t_parts (P := prog) (w := w) (base := base) (C := csOf K)  T.toTx F_law_parts D_law_pick)
  have D_check_wheel := dfm_of m_check_wheel k_check_wheel (t_chk (P := prog) (w := w) (base := base) (C := csOf K)  T F_check_wheel)
  have kW := mkB_ok S.mW
  have kL := mkB_ok S.mL
  have kT := mkB_ok S.mT
  have cT : Cls K (He.ga K "Trial") := clsB_ok S.cT
  have R : Tr K mg (He.ga K "Trial") := ⟨PySem.W.mg_of X G (He.eqO_ok S.gT), cT, He.eqO_ok (S.nT "table" (by decide)), He.eqO_ok (S.nT "before" (by decide))⟩
  have xB := excB_ok X G S.eB
  have xN := excB_ok X G S.eN
  have W_wheel := t_wheel (P := prog) (w := w) (base := base) (C := csOf K) T.toTx T.f_zip M_wheel D_is_whole D_can_be
  have W_live := t_live (P := prog) (w := w) (base := base) (C := csOf K) T M_live D_is_whole D_check_wheel
  have D_law_made := dfm_of m_law_made k_law_made (t_made (P := prog) (w := w) (base := base) (C := csOf K)  T F_law_made kW W_wheel)
  have D_law_first := dfm_of m_law_first k_law_first (t_first (P := prog) (w := w) (base := base) F_law_first)
  have D_do : DmM (L2.CX prog w) prog w K mg base (csOf K).ct "do" 6 (spDo K (csOf K) (He.ga K "BadDeed")) := by
    obtain ⟨fd, b, F⟩ := t_do (P := prog) (w := w) (base := base) (C := csOf K) T M_do xB D_can_do D_all_behind
    exact ⟨cL, _, fd, _, me "do" (by decide), b, F⟩
  have D_undo : DmM (L2.CX prog w) prog w K mg base (csOf K).ct "undo" 1 (spUndo K (csOf K) (He.ga K "NothingDone")) := by
    obtain ⟨fd, b, F⟩ := t_undo (P := prog) (w := w) (base := base) (C := csOf K) T M_undo xN
    exact ⟨cL, _, fd, _, me "undo" (by decide), b, F⟩
  have D_branch : DmM C8.CX0 prog w K mg base (csOf K).ct "branch" 4 (spBranch K (csOf K)) := by
    obtain ⟨fd, b, F⟩ := t_branch (P := prog) (w := w) (base := base) (C := csOf K) T M_branch kL W_live
    exact ⟨cL, _, fd, _, me "branch" (by decide), b, F⟩
  have W_tri := t_tri (P := prog) (w := w) (base := base) (C := csOf K) T R M_tri
  have D_trial : DmM C8.CX0 prog w K mg base (csOf K).ct "trial" 3 (spTrial K (csOf K) (He.ga K "Trial")) := by
    obtain ⟨fd, b, F⟩ := t_trial (P := prog) (w := w) (base := base) (C := csOf K) T R M_trial kT W_tri
    exact ⟨cL, _, fd, _, me "trial" (by decide), b, F⟩
  have Mg : Mgr prog w K mg base (He.ga K "Trial") 1 (spEnter K (csOf K) (He.ga K "Trial")) (spExit K (csOf K) (He.ga K "Trial")) := by
    obtain ⟨fe, be, Fe⟩ := t_enter (P := prog) (w := w) (mg := mg) (base := base) (C := csOf K) T R M_enter
    obtain ⟨fx, bx, Fx⟩ := t_exit (P := prog) (w := w) (mg := mg) (base := base) (C := csOf K) T R M_exit
    exact ⟨_, _, fe, fx, _, (specB_ok S.sE).1, (specB_ok S.sE).2, (specB_ok S.sX).1, (specB_ok S.sX).2, be, Fe, bx, Fx⟩
  have Bh := bhB_ok (prog := prog) X G T.f_super T.f_str htop S.bhf S.bhb
  have D_tried : DmM (L2.CX prog w) prog w K mg base (csOf K).ct "tried" 6 (spTried K (csOf K) (He.ga K "BadHistory")) := by
    obtain ⟨fd, b, F⟩ := t_tried (P := prog) (w := w) (base := base) (C := csOf K) T M_tried Bh T.f_enumerate D_can_do D_all_behind
    exact ⟨cL, _, fd, _, me "tried" (by decide), b, F⟩
  have D_law_is_barred := dfm_of m_law_is_barred k_law_is_barred (t_bar (P := prog) (w := w) (base := base) (C := csOf K)  T F_law_is_barred xB D_do)
  have D_law_step_right := dfm_of m_law_step_right k_law_step_right (t_step (P := prog) (w := w) (base := base) (C := csOf K)  T F_law_step_right xN D_law_take D_law_pick D_law_can D_law_behind D_law_is_barred D_do D_undo)
  have D_law_tried_right := dfm_of m_law_tried_right k_law_tried_right (t_tr (P := prog) (w := w) (base := base) (C := csOf K)  T F_law_tried_right Bh D_law_take D_law_pick D_law_can D_law_behind D_tried)
  have D_law_fall := dfm_of m_law_fall k_law_fall (t_fall (P := prog) (w := w) (base := base) (C := csOf K)  T F_law_fall D_do)
  have D_walk := t_walk (P := prog) (w := w) (base := base) (C := csOf K) (Pa := tWalk K) T R (fdC_of F_law_walk_right) m_law_walk_right k_law_walk_right M_attempt (me "attempt" (by decide)) TB Mg D_trial D_law_fall D_law_step_right D_law_tried_right D_law_stands D_branch
  exact t_law T lk hcd D_law_parts D_law_take D_law_made D_law_first kL W_live D_law_stands D_walk
end LNh
set_option maxHeartbeats 0
/-! The head run in the kernel; the law. -/
namespace LNh
open PySem PySem.Spec PyProof.Rows L2 L2H LNa LNb LNi LNt LNp LNn LNw
def fileL : Str := PySem.Challenge.pw_lapnumbers_k36_whole_live.main.file
abbrev AlL : Type := Bool × List FnV × FnV
/-- what the names reach, level by level; seen: a bit for each address -/
def addNew : List Addr → Nat → List Addr → Nat × List Addr
  | [], seen, new => (seen, new)
  | r :: rs, seen, new => match Nat.beq (Nat.land (Nat.shiftRight seen r) 1) 0 with
    | true => addNew rs (Nat.lor seen (Nat.shiftLeft 1 r)) (r :: new)
    | false => addNew rs seen new
def levelL (g : Addr → Option Obj) : List Addr → Nat → List Addr → Nat × List Addr
  | [], seen, new => (seen, new)
  | a :: as, seen, new => match g a with
    | some o => (match addNew (He.refsD o) seen new with
      | (s, n) => levelL g as s n)
    | none => levelL g as seen new
def bfsL (g : Addr → Option Obj) : Nat → List Addr → Nat → List Addr
  | 0, fr, _ => fr
  | n + 1, fr, seen => fr ++ (match levelL g fr seen [] with
    | (s, new) => bfsL g n new s)
def asL (g : Addr → Option Obj) : List Addr := bfsL g 6 [mainGlobals] (Nat.shiftLeft 1 mainGlobals) ++ [cStatics]
def kL (g : Addr → Option Obj) : PySem.W.Frag := He.frT g (asL g)
def emB (g : Addr → Option Obj) (K : PySem.W.Frag) : Bool := match g (tWalk K) with
  | some o => He.emptyTab o
  | none => false
def obB (g : Addr → Option Obj) (K : PySem.W.Frag) : Bool := factsB K fileL && emB g K
def obF (K : PySem.W.Frag) : List FnV := dsA.map fun d => fnAt K (d.at_ K)
def obH (K : PySem.W.Frag) : FnV := fnAt K (He.ma K (He.ga K "BadHistory") "__init__")
def obsL (g : Addr → Option Obj) : AlL := (obB g (kL g), obF (kL g), obH (kL g))
def valL : AlL := (true, dsA.map D1.val, dBh.val)
structure SaysL (h : Heap) (K : PySem.W.Frag) : Prop where
  s : Says fileL K
  out : K.lookup (tWalk K) = none
  empty : h.get? (tWalk K) = some { cls := .none, data := .fields #[] }
theorem emB_ok {g : Addr → Option Obj} {K : PySem.W.Frag} (h : emB g K = true) : ∃ o, g (tWalk K) = some o ∧ He.emptyTab o = true := by
  unfold emB at h
  cases q : g (tWalk K) with
  | none => rw [q] at h; cases h
  | some o => rw [q] at h; exact ⟨o, rfl, h⟩
theorem kL_none {g : Addr → Option Obj} {a : Addr} {o : Obj} (h : g a = some o) (z : He.emptyTab o = true) : (kL g).lookup a = none := He.frT_none h z
theorem kL_in {h : Heap} : (kL h.get?).In h := He.frT_in
theorem saysL_of {h : Heap} (e : obsL h.get? = valL) : SaysL h (kL h.get?) := by
  unfold obsL valL at e
  obtain ⟨e1, e⟩ := Prod.mk.inj e
  obtain ⟨e2, e3⟩ := Prod.mk.inj e
  generalize hK : kL h.get? = K at e1 e2 e3
  unfold obB at e1
  obtain ⟨h1, h2⟩ := He.ba e1
  obtain ⟨o, q, z⟩ := emB_ok h2
  refine ⟨⟨h1, e2, e3⟩, ?_, by rw [q, He.emptyTab_eq z]⟩
  rw [← hK] at q ⊢
  exact kL_none q z
def hookL : PySem.W.Hook where
  α := AlL
  obs := fun s => obsL s.heap.get?
  val := fun _ => valL
  says := fun _ h => ∃ K : PySem.W.Frag, K.In h ∧ SaysL h K
  of := fun _ _ e => ⟨_, kL_in, saysL_of e⟩
  keeps := fun _ _ _ ⟨K, hK, c⟩ k => ⟨K, PySem.W.Frag.In.keeps hK k, ⟨c.s, c.out, k _ _ c.empty⟩⟩
abbrev R : PySem.W.OpenRow := PySem.W.OpenLaw.row PySem.Challenge.rw_lapnumbers_k36_whole_live
abbrev qv : Program := PySem.W.view R.prog [68]
def obL (s : PySem.W.SharedT) : AlL := obsL (HandSHeadRun.getT s)
theorem obL_eq (s : PySem.W.SharedT) : obL s = hookL.obs s.abs := by
  have e : HandSHeadRun.getT s = s.abs.heap.get? := funext (HandSHeadRun.getT_eq s)
  show obsL (HandSHeadRun.getT s) = obsL s.abs.heap.get?
  rw [e]
def names1 : List PySem.Str := ["_wall", "LapError", "BadWheel", "BadDeed", "BadHistory", "BadRows", "NothingDone", "SIZES", "RULES", "is_whole", "all_for", "can_be", "Wheel", "check_wheel", "before", "DEEDS", "START", "is_stopped", "sees", "is_there"]
def names2 : List PySem.Str := ["older", "numbered", "is_held", "is_ripe", "passed", "deeds_in", "done", "WISHES", "somebody", "stands_broken", "MOST_ROWS", "FOR_ALL", "FOR_ONE", "LiveTable", "Trial", "able", "can_do", "all_behind", "_law_number", "_law_take"]
def names3 : List PySem.Str := ["_law_pick", "_law_parts", "_law_made", "_law_first", "_law_is_ahead", "_law_sees", "_law_is_stopped", "_law_aged", "_law_given", "_law_passed", "_law_rows", "_law_sights", "_law_broken", "_law_breaks", "_law_can", "_law_behind", "_law_stands", "_law_is_barred", "_law_step_right", "_law_tried_right"]
def names4 : List PySem.Str := ["_law_fall", "_law_walk_right"]
theorem run (w : World) : HandSHeadRun.RunEq R qv hookL obL 9000 (names1 ++ names2 ++ names3 ++ names4) w := by
  intro os
  kernel_rfl
end LNh
set_option maxHeartbeats 0
namespace LNh
open PySem PySem.Spec PyProof.Rows L2 L2H LNa LNb LNi LNt LNp LNn LNw
theorem law_at {w : World} {mg : Str → Option Value} {fa : Addr} {h : Heap} (Y : hookL.says w h) (G : h.Ns mainGlobals mg) (hmg : mg ("law" : Str) = some (.ref fa)) :
    ∃ K : PySem.W.Frag, K.In h ∧ LamX.LawAtS PySem.Challenge.rw_lapnumbers_k36_whole_live w K C8.CX0 16 63 "_law_script" mg fa h := by
  obtain ⟨K, X, c⟩ := Y
  have S := sd_of c.s
  obtain ⟨m_law, k_law, F_law⟩ := fdG X G S "law" 68 (by decide +kernel)
  obtain rfl : fa = He.ga K "law" := by rw [hmg] at m_law; cases m_law; rfl
  obtain ⟨oc, od, kV, doc, pm, an, cdv, ct, osl, lk, hcd⟩ := F_law.ex
  refine ⟨K, X, PySem.W.fnOf "law" "law" (defArgs (top 68)) (defBody (top 68)) (defScope (top 68)) .none kV doc pm an cdv ct, [(He.codeOf K ("_law_walk_right", none), tWalk K)], spLaw K (tWalk K), ?_, ?_, ?_, ?_, ?_, ?_⟩
  · intro p hp
    rw [List.mem_singleton.mp hp]
    exact c.empty
  · intro p hp
    rw [List.mem_singleton.mp hp]
    exact c.out
  · intro p hp
    rw [List.mem_singleton.mp hp]
    exact PySem.W.codeHd_of_K X S.hd
  · intro s u
    exact .of_eq rfl
  · intro H a ns hlen hbits hH hS
    exact ⟨a, ns, rfl, hS, hH _ (List.mem_singleton.mpr rfl), fun _ => rfl⟩
  · intro base KB GB TB
    exact law_fn (prog := (PySem.Challenge.rw_lapnumbers_k36_whole_live).prog) X G S (by decide +kernel) (TB _ (List.mem_singleton.mpr rfl)) lk hcd
end LNh
open PySem PySem.W PySem.Calls PyProof.Rows
theorem PySem.Challenge.cw_lapnumbers_k36_whole_live_holds : PySem.Challenge.rw_lapnumbers_k36_whole_live.Holds := by
  w_on; o_law
  refine HandSHeadRun.head_any (r := OpenLaw.row PySem.Challenge.rw_lapnumbers_k36_whole_live) (q := view (OpenLaw.row PySem.Challenge.rw_lapnumbers_k36_whole_live).prog [68]) (H := LNh.hookL) (ob := LNh.obL) (M := 9000) (loose := LNh.names1 ++ LNh.names2 ++ LNh.names3 ++ LNh.names4) (d := HandSHeadRun.topDef (OpenLaw.row PySem.Challenge.rw_lapnumbers_k36_whole_live).prog 68) (kwd := []) LNh.obL_eq
    (by kernel_rfl) (fun s => by kernel_rfl) LNh.run (by kernel_rfl) (by kernel_rfl) (by kernel_rfl) (by rfl) (by first | assumption | decide +kernel) (by decide +kernel) ⟨rfl, rfl, rfl, rfl, rfl, by decide +kernel⟩ ?hw ?hc
  case hw => w_witness2
  case hc =>
    refine LamX.walk_ofTsE (l := PySem.Challenge.rw_lapnumbers_k36_whole_live) (n := 63) (k := 16) (x := "_law_script") (CX := fun _ => C8.CX0) rfl (by decide) (by kernel_rfl) ⟨rfl, by decide, by decide⟩ ?F (fun _ _ _ _ _ z => z)
    intro w mg fa h Y G hmg0
    have hmg : mg ("law" : PySem.Str) = some (.ref fa) := by
      have e : (HandSHeadRun.topDef (OpenLaw.row PySem.Challenge.rw_lapnumbers_k36_whole_live).prog 68).name = ("law" : PySem.Str) := by kernel_rfl
      rw [← e]
      exact hmg0
    exact LNh.law_at Y G hmg
