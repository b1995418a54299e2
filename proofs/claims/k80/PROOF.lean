import PyProof.Rows.All
import Wide.All
import OpenK.AllK
import Wide.FinOn
import PyProof.EqAt
import PyProof.EqKinds
import PyProof.TupleCall
import KE.SortData
import HandS.ForMost
import HandS.Exc
import HandS.ExcOwn
import HandS.TryOnly
import HandS.WordsExc
import HandS.Defaults
import HandS.Walk
import HandS.IsInst
import HandS.TupAny
import HandS.TupLe
import HandS.Deep
import HandS.Zip
import HandS.Conv
import HandS.Flow
import HandS.Style
import HandS.Wide
import HandS.Codes
import HandS.HeadHook2
import HandS.Lambda
import HandS.EndTab
import PyProof.ZipIter
import HandS.Base
import HandS.Call
import HandS.List
import HandS.Dict
import HandS.Iter
import HandS.Zip0
import HandS.TupSets
import HandS.TupLen
import KE.GoesMore
import HandS.SetFor
import HandS.Small
import HandS.Strs
import PyProof.SumWalkG
import PyProof.WalksMore
import KE.DataMinMax
import HandS.HotCalls
import HandS.ExcIs
import HandS.ExcField
import HandS.ExcInit
import KE.KDictPairs
import HandS.SortKw
import HandS.ExcValue
import HandS.TupMul
import KE.KDictWalk
import KE.KDictDisplayH
import HandS.More
import KE.KStateDown
import HandS.Ends
import HandS.Words
import HandS.Head0
import HandS.Head1
import HandS.Head2
import HandS.HeadEnd
import HandS.HeadHook1
import PySem.Challenge.RW_layfaces_k80_other_names
set_option Elab.async false
set_option linter.all false
set_option maxRecDepth 100000
set_option maxHeartbeats 2000000
namespace Zg
open PySem
def ItK (c : Bool) (h : Heap) (it l : Addr) (k : Nat) : Prop := if c = true then h.IsTupleIter it l k else h.IsListIter it l k
def SqK (c : Bool) (h : Heap) (l : Addr) (xs : Array Value) : Prop := if c = true then h.IsTuple l xs else h.IsList l xs
structure Sq2 (c : Bool) (h : Heap) (it l : Addr) (k : Nat) (xs : Array Value) : Prop where
  it : ItK c h it l k
  sq : SqK c h l xs
theorem ItK.at {c : Bool} {h h' : Heap} {it l : Addr} {k : Nat} (q : ItK c h it l k) (e : ∀ o, h.get? it = some o → h'.get? it = some o) : ItK c h' it l k := by
  cases c with
  | true => exact Heap.IsTupleIter.at (show h.IsTupleIter it l k from q) e
  | false => exact Heap.IsListIter.at (show h.IsListIter it l k from q) e
theorem SqK.at {c : Bool} {h h' : Heap} {l : Addr} {xs : Array Value} (q : SqK c h l xs) (k : ∀ o, h.get? l = some o → h'.get? l = some o) : SqK c h' l xs := by
  cases c with
  | true => obtain ⟨o, e, r⟩ := (show h.IsTuple l xs from q); exact ⟨o, k _ e, r⟩
  | false => obtain ⟨o, e, r⟩ := (show h.IsList l xs from q); exact ⟨o, k _ e, r⟩
theorem Sq2.but {c : Bool} {h h' : Heap} {it l b : Addr} {k : Nat} {xs : Array Value} (q : Sq2 c h it l k xs) (e : Heap.ExtBut b h h') (n1 : it ≠ b) (n2 : l ≠ b) : Sq2 c h' it l k xs := ⟨q.it.at fun o z => e _ _ n1 z, q.sq.at fun o z => e _ _ n2 z⟩
theorem ItK.obj {c : Bool} {h : Heap} {it l : Addr} {k : Nat} (q : ItK c h it l k) : ∃ o, h.get? it = some o ∧ ∀ v, o.data ≠ .cell v := by
  cases c with
  | false => obtain ⟨o, e, _, d⟩ := (show h.IsListIter it l k from q); exact ⟨o, e, fun v q => by rw [d] at q; cases q⟩
  | true => obtain ⟨o, e, _, d⟩ := (show h.IsTupleIter it l k from q); exact ⟨o, e, fun v q => by rw [d] at q; cases q⟩
section
variable {prog : Program} {w : World} {A : Around} {E : Value → Shared → Prop} {s : Shared}
theorem Sq2.next {c : Bool} {it l : Addr} {k : Nat} {xs : Array Value} {x : Value} {Q : Value → Shared → Prop} (q : Sq2 c s.heap it l k xs) (hne : l ≠ it) (hx : xs[k]? = some x)
    (hQ : ∀ h', Sq2 c h' it l (k + 1) xs → Heap.SameBut it s.heap h' → Q x { s with heap := h' }) : wpAny (model prog w) A (Builtin.SmallTypes.nextOf (.ref it)) Q E s := by
  cases c with
  | false => exact wpAny_nextOf_list_item q.it q.sq hx fun h' z b => hQ h' ⟨z, q.sq.at fun o e => b.extBut _ _ hne e⟩ b
  | true => exact RZ.nextOf_tuple_item q.it q.sq hx fun h' z b => hQ h' ⟨z, q.sq.at fun o e => b.extBut _ _ hne e⟩ b
theorem Sq2.stop {c : Bool} {it l : Addr} {k : Nat} {xs : Array Value} {Q : Value → Shared → Prop} (hh : A.handled = none) (q : Sq2 c s.heap it l k xs) (hx : xs[k]? = none)
    (hE : ∀ h' e, Heap.ExtBut it s.heap h' → (∃ o, h'.get? e = some o ∧ o.cls = .type "StopIteration") → E (.ref e) { s with heap := h' }) : wpAny (model prog w) A (Builtin.SmallTypes.nextOf (.ref it)) Q E s := by
  cases c with
  | false => exact wpAny_nextOf_list_end hh q.it q.sq hx hE
  | true => exact RZ.nextOf_tuple_end hh q.it q.sq hx hE
theorem zg_item {c1 c2 : Bool} {z TI TO i1 i2 l1 l2 : Addr} {k : Nat} {xs ys : Array Value} {x y a b : Value} {Q : Option Value → Shared → Prop} (D : ZipApart z TI TO i1 i2 l1 l2) (hZ : IsZip s.heap z TI TO .none) (pI : IsPair s.heap TI (.ref i1) (.ref i2)) (pO : IsPair s.heap TO a b)
    (q1 : Sq2 c1 s.heap i1 l1 k xs) (q2 : Sq2 c2 s.heap i2 l2 k ys) (hx : xs[k]? = some x) (hy : ys[k]? = some y)
    (hQ : ∀ h', IsZip h' z TI TO (rawInt s.heap.objs.size) → IsPair h' TO x y → Sq2 c1 h' i1 l1 (k + 1) xs → Sq2 c2 h' i2 l2 (k + 1) ys → IsPair h' s.heap.objs.size x y → h'.objs.size = s.heap.objs.size + 1 →
      (∀ c o, c ≠ z → c ≠ TO → c ≠ i1 → c ≠ i2 → s.heap.get? c = some o → h'.get? c = some o) → Q (some (.ref s.heap.objs.size)) { s with heap := h' }) : wpAny (model prog w) A (pyNext (.ref z)) Q E s := by
  have ty : s.TypeIs (.ref z) "zip" := ⟨_, hZ, rfl⟩
  have core : ∀ {A' : Around} {E' : Value → Shared → Prop} {Q' : Value → Shared → Prop}, (∀ s', Q (some (.ref s.heap.objs.size)) s' → Q' (.ref s.heap.objs.size) s') → wpAny (model prog w) A' (Builtin.«zip.__next__» ⟨[.ref z], []⟩) (fun fin s' => ∃ v, fin = .done (.ret v) ∧ Q' v s') E' s := by
    intro A' E' Q' hq'
    show wpAny _ _ (field (.ref z) 2 >>= _) _ _ _; refine wpAny_bind (wpAny_field hZ rfl (x := .bool false) rfl ?_)
    show wpAny _ _ (field (.ref z) 3 >>= _) _ _ _; refine wpAny_bind (wpAny_field hZ rfl (x := .ref TI) rfl (wpAny_bind (wpAny_seqItems pI rfl ?_)))
    show wpAny _ _ (Builtin.SmallTypes.ownedTupleIsFree (.ref z) >>= _) _ _ _; refine wpAny_bind ?_; unfold Builtin.SmallTypes.ownedTupleIsFree
    refine wpAny_bind (wpAny_field hZ rfl (x := .none) rfl (wpAny_pure ?_)); simp only [if_true]
    refine wpAny_bind (wpAny_rule (wpAny_bind (wpAny_field hZ rfl (x := .ref TO) rfl (wpAny_bind (wpAny_setField_rec hZ (by simp) fun ha za ba => ?_)))))
    replace za : IsZip ha z TI TO .ellipsis := za
    refine wpAny_bind ?_; simp only [List.zipIdx_cons, List.zipIdx_nil, List.forIn_cons, List.forIn_nil]
    -- the first one
    refine wpAny_bind (wpAny_bind (wpAny_onRaise ?_)); show wpAny _ _ (Builtin.SmallTypes.nextOf (.ref i1) >>= _) _ _ _
    refine wpAny_bind ((q1.but ba.extBut D.i1z D.l1z).next D.l1i1 hx fun hb qb bb => wpAny_pure ?_)
    have pb : IsPair hb TO a b := bb.extBut _ _ D.TOi1 (ba.extBut _ _ D.TOz pO)
    refine wpAny_bind (wpAny_seqItems pb rfl (wpAny_bind (wpAny_updateSeq_pair pb fun hc pc bc => ?_)))
    replace pc : IsPair hc TO x b := pc
    refine wpAny_bind (wpAny_letGo (wpAny_pure ?_))
    -- the second one
    refine wpAny_bind (wpAny_bind (wpAny_onRaise ?_)); show wpAny _ _ (Builtin.SmallTypes.nextOf (.ref i2) >>= _) _ _ _
    have qc := ((q2.but ba.extBut D.i2z D.l2z).but bb.extBut D.i12.symm D.l2i1).but bc.extBut D.TOi2.symm D.l2TO
    refine wpAny_bind (qc.next D.l2i2 hy fun hd qd bd => wpAny_pure ?_)
    have pd : IsPair hd TO x b := bd.extBut _ _ D.TOi2 pc
    refine wpAny_bind (wpAny_seqItems pd rfl (wpAny_bind (wpAny_updateSeq_pair pd fun he pe be => ?_)))
    replace pe : IsPair he TO x y := pe
    refine wpAny_bind (wpAny_letGo (wpAny_pure (wpAny_pure ?_)))
    refine wpAny_bind (wpAny_seqItems pe rfl (wpAny_bind (wpAny_newTuple ?_)))
    -- what stands now
    have sz : he.objs.size = s.heap.objs.size := by rw [be.1, bd.1, bc.1, bb.1, ba.1]
    have ze : IsZip he z TI TO .ellipsis := be.extBut _ _ D.TOz.symm (bd.extBut _ _ D.i2z.symm (bc.extBut _ _ D.TOz.symm (bb.extBut _ _ D.i1z.symm za)))
    have ke : ∀ c o, c ≠ z → c ≠ TO → c ≠ i1 → c ≠ i2 → s.heap.get? c = some o → he.get? c = some o := fun c o n1 n2 n3 n4 e => be.extBut _ _ n2 (bd.extBut _ _ n4 (bc.extBut _ _ n2 (bb.extBut _ _ n3 (ba.extBut _ _ n1 e))))
    have q1e : Sq2 c1 he i1 l1 (k + 1) xs := ((qb.but bc.extBut D.TOi1.symm D.l1TO).but bd.extBut D.i12 D.l1i2).but be.extBut D.TOi1.symm D.l1TO
    have q2e : Sq2 c2 he i2 l2 (k + 1) ys := qd.but be.extBut D.TOi2.symm D.l2TO
    have zlt : z < he.objs.size := Heap.lt_size ze
    show wpAny _ _ (Builtin.SmallTypes.ownedTupleHandOut (.ref z) (.ref he.objs.size) >>= _) _ _ _; refine wpAny_bind ?_; unfold Builtin.SmallTypes.ownedTupleHandOut
    have zf : IsZip (he.push { cls := .type "tuple", data := .seq #[x, y] }) z TI TO .ellipsis := Heap.get?_push_of_some _ ze
    refine wpAny_bind (wpAny_setField_rec zf (by simp) fun hg zg bg => ?_); replace zg : IsZip hg z TI TO (rawInt he.objs.size) := zg
    refine wpAny_setField_rec zg (by simp) fun hi zi bi => ?_; replace zi : IsZip hi z TI TO (rawInt he.objs.size) := zi
    have up : ∀ c o, c ≠ z → he.get? c = some o → hi.get? c = some o := fun c o n e => bi.extBut _ _ n (bg.extBut _ _ n (Heap.get?_push_of_some _ e))
    have upE : Heap.ExtBut z he hi := fun c o n e => up c o n e
    have pT : IsPair hi he.objs.size x y := bi.extBut _ _ (Nat.ne_of_gt zlt) (bg.extBut _ _ (Nat.ne_of_gt zlt) (Heap.get?_push_size _ rfl))
    have szi : hi.objs.size = he.objs.size + 1 := by rw [bi.1, bg.1, Heap.size_push]
    rw [sz] at zi pT szi
    refine wpAny_pure ⟨_, rfl, ?_⟩; show Q' (.ref he.objs.size) _; rw [sz]
    refine hq' _ ?_
    exact hQ hi zi (up _ _ D.TOz pe) (q1e.but upE D.i1z D.l1z) (q2e.but upE D.i2z D.l2z) pT szi fun c o n1 n2 n3 n4 e => up c o n1 (ke c o n1 n2 n3 n4 e)
  unfold pyNext
  exact wpAny_bind (wpAny_attempt (wpAny_callSpecial?_slot (name := Str.ofString "__next__") ty F.slot_zip_next (wpAny_call_entry F.slot_zip_next ty F.entry_zip_next (core fun s' q => wpAny_pure q) (F.args_zip_next_1 _))))
theorem zg_stop {c1 c2 : Bool} {z TI TO i1 i2 l1 l2 : Addr} {k : Nat} {xs ys : Array Value} {a b : Value} {Q : Option Value → Shared → Prop} (hh : A.handled = none) (D : ZipApart z TI TO i1 i2 l1 l2) (hZ : IsZip s.heap z TI TO .none) (pI : IsPair s.heap TI (.ref i1) (.ref i2)) (pO : IsPair s.heap TO a b)
    (q1 : Sq2 c1 s.heap i1 l1 k xs) (q2 : Sq2 c2 s.heap i2 l2 k ys) (hend : xs[k]? = none ∨ ys[k]? = none)
    (hQ : ∀ h', (∀ c o, c ≠ z → c ≠ TO → c ≠ i1 → c ≠ i2 → s.heap.get? c = some o → h'.get? c = some o) → Q none { s with heap := h' }) : wpAny (model prog w) A (pyNext (.ref z)) Q E s := by
  have ty : s.TypeIs (.ref z) "zip" := ⟨_, hZ, rfl⟩
  have core : ∀ {A' : Around} {Q' : Fin → Shared → Prop} {E' : Value → Shared → Prop}, A'.handled = none → (∀ h' e, (∀ c o, c ≠ z → c ≠ TO → c ≠ i1 → c ≠ i2 → s.heap.get? c = some o → h'.get? c = some o) → (∃ o, h'.get? e = some o ∧ o.cls = .type "StopIteration") → E' (.ref e) { s with heap := h' }) →
      wpAny (model prog w) A' (Builtin.«zip.__next__» ⟨[.ref z], []⟩) Q' E' s := by
    intro A' Q' E' hh' hE
    show wpAny _ _ (field (.ref z) 2 >>= _) _ _ _; refine wpAny_bind (wpAny_field hZ rfl (x := .bool false) rfl ?_)
    show wpAny _ _ (field (.ref z) 3 >>= _) _ _ _; refine wpAny_bind (wpAny_field hZ rfl (x := .ref TI) rfl (wpAny_bind (wpAny_seqItems pI rfl ?_)))
    show wpAny _ _ (Builtin.SmallTypes.ownedTupleIsFree (.ref z) >>= _) _ _ _; refine wpAny_bind ?_; unfold Builtin.SmallTypes.ownedTupleIsFree
    refine wpAny_bind (wpAny_field hZ rfl (x := .none) rfl (wpAny_pure ?_)); simp only [if_true]
    refine wpAny_bind (wpAny_rule (wpAny_bind (wpAny_field hZ rfl (x := .ref TO) rfl (wpAny_bind (wpAny_setField_rec hZ (by simp) fun ha za ba => ?_)))))
    replace za : IsZip ha z TI TO .ellipsis := za
    refine wpAny_bind ?_; simp only [List.zipIdx_cons, List.zipIdx_nil, List.forIn_cons, List.forIn_nil]
    refine wpAny_bind (wpAny_bind (wpAny_onRaise ?_)); show wpAny _ _ (Builtin.SmallTypes.nextOf (.ref i1) >>= _) _ _ _
    have qa := q1.but ba.extBut D.i1z D.l1z
    cases hx : xs[k]? with
    | none =>
      refine wpAny_bind (qa.stop hh' hx fun hb e bb ⟨oe, e1, e2⟩ => ?_)
      have zb : IsZip hb z TI TO .ellipsis := bb _ _ D.i1z.symm za
      have ne : e ≠ z := fun u => by subst u; rw [zb] at e1; cases e1; simp at e2
      exact wpAny_setField_rec zb (by simp) fun hc _ bc => hE hc e (fun c o n1 _ n3 _ u => bc.extBut _ _ n1 (bb _ _ n3 (ba.extBut _ _ n1 u))) ⟨oe, bc.extBut _ _ ne e1, e2⟩
    | some x =>
      have hy : ys[k]? = none := by rcases hend with u | u; rw [hx] at u; cases u; exact u
      refine wpAny_bind (qa.next D.l1i1 hx fun hb qb bb => wpAny_pure ?_)
      have pb : IsPair hb TO a b := bb.extBut _ _ D.TOi1 (ba.extBut _ _ D.TOz pO)
      refine wpAny_bind (wpAny_seqItems pb rfl (wpAny_bind (wpAny_updateSeq_pair pb fun hc pc bc => wpAny_bind (wpAny_letGo (wpAny_pure ?_)))))
      refine wpAny_bind (wpAny_bind (wpAny_onRaise ?_)); show wpAny _ _ (Builtin.SmallTypes.nextOf (.ref i2) >>= _) _ _ _
      have qc := ((q2.but ba.extBut D.i2z D.l2z).but bb.extBut D.i12.symm D.l2i1).but bc.extBut D.TOi2.symm D.l2TO
      refine wpAny_bind (qc.stop hh' hy fun hd e bd ⟨oe, e1, e2⟩ => ?_)
      have zd : IsZip hd z TI TO .ellipsis := bd _ _ D.i2z.symm (bc.extBut _ _ D.TOz.symm (bb.extBut _ _ D.i1z.symm za))
      have ne : e ≠ z := fun u => by subst u; rw [zd] at e1; cases e1; simp at e2
      exact wpAny_setField_rec zd (by simp) fun he _ be => hE he e (fun c o n1 n2 n3 n4 u => be.extBut _ _ n1 (bd _ _ n4 (bc.extBut _ _ n2 (bb.extBut _ _ n3 (ba.extBut _ _ n1 u))))) ⟨oe, be.extBut _ _ ne e1, e2⟩
  unfold pyNext
  refine wpAny_bind (wpAny_attempt (wpAny_callSpecial?_slot (name := Str.ofString "__next__") ty F.slot_zip_next (wpAny_call_entry F.slot_zip_next ty F.entry_zip_next (core hh fun h' e hk ⟨o, e1, e2⟩ => ?_) (F.args_zip_next_1 _))))
  exact wpAny_bind (wpAny_isInstance (T := "StopIteration") (b := true) ⟨o, e1, e2⟩ isSubtype_stop (wpAny_pure (hQ _ hk)))
end
def itO (c : Bool) (l : Addr) : Obj := { cls := .type (if c then "tuple_iterator" else "list_iterator"), data := .fields #[.ref l, .int 0 0] }
def zA (c1 : Bool) (h : Heap) (l1 : Addr) : Heap := h.push (itO c1 l1)
def zB (c1 c2 : Bool) (h : Heap) (l1 l2 : Addr) : Heap := (zA c1 h l1).push (itO c2 l2)
def zC (c1 c2 : Bool) (h : Heap) (l1 l2 : Addr) : Heap := (zB c1 c2 h l1 l2).push { cls := .type "tuple", data := .seq #[.ref h.objs.size, .ref (zA c1 h l1).objs.size] }
def zD (c1 c2 : Bool) (h : Heap) (l1 l2 : Addr) : Heap := (zC c1 c2 h l1 l2).push { cls := .type "tuple", data := .seq #[.none, .none] }
def zE (c1 c2 : Bool) (h : Heap) (l1 l2 : Addr) : Heap := (zD c1 c2 h l1 l2).push { cls := .type "zip", data := .fields #[.none, .bool false, .bool false, .ref (zB c1 c2 h l1 l2).objs.size, .ref (zC c1 c2 h l1 l2).objs.size] }
theorem meets_lt (l1 l2 : Addr) (xs ys : Array Value) : Meets (Builtin.«zip.__new__» ⟨[.type "zip", .ref l1, .ref l2], []⟩) (fun _ R s => s.heap.IsList l1 xs ∧ s.heap.IsTuple l2 ys ∧ R (.ok (.ret (.ref (zD false true s.heap l1 l2).objs.size))) { s with heap := zE false true s.heap l1 l2 }) :=
  .of_wp fun prog w A R s hyp => by
    obtain ⟨hp, g, d, tk, os⟩ := s; obtain ⟨a1, a2, h⟩ := hyp
    have subz := sub_zip
    have e1 : Heap.IsList (Shared.heap ⟨hp, g, d, tk, os⟩) l1 xs := a1
    have e2 : Heap.IsTuple (Shared.heap ⟨hp.push { cls := .type "list_iterator", data := .fields #[.ref l1, .int 0 0] }, g, d, tk, os⟩) l2 ys := Heap.IsTuple.push a2 _
    wp_walk using wpAny_pyIter_list e1, wpAny_pyIter_tuple e2
    exact ⟨_, rfl, h⟩
theorem meets_tl (l1 l2 : Addr) (xs ys : Array Value) : Meets (Builtin.«zip.__new__» ⟨[.type "zip", .ref l1, .ref l2], []⟩) (fun _ R s => s.heap.IsTuple l1 xs ∧ s.heap.IsList l2 ys ∧ R (.ok (.ret (.ref (zD true false s.heap l1 l2).objs.size))) { s with heap := zE true false s.heap l1 l2 }) :=
  .of_wp fun prog w A R s hyp => by
    obtain ⟨hp, g, d, tk, os⟩ := s; obtain ⟨a1, a2, h⟩ := hyp
    have subz := sub_zip
    have e1 : Heap.IsTuple (Shared.heap ⟨hp, g, d, tk, os⟩) l1 xs := a1
    have e2 : Heap.IsList (Shared.heap ⟨hp.push { cls := .type "tuple_iterator", data := .fields #[.ref l1, .int 0 0] }, g, d, tk, os⟩) l2 ys := Heap.IsList.push a2 _
    wp_walk using wpAny_pyIter_tuple e1, wpAny_pyIter_list e2
    exact ⟨_, rfl, h⟩
theorem zE_facts (c1 c2 : Bool) (h : Heap) (l1 l2 : Addr) : (zD c1 c2 h l1 l2).objs.size = h.objs.size + 4 ∧ (zE c1 c2 h l1 l2).objs.size = h.objs.size + 5 ∧ IsZip (zE c1 c2 h l1 l2) (h.objs.size + 4) (h.objs.size + 2) (h.objs.size + 3) .none ∧ IsPair (zE c1 c2 h l1 l2) (h.objs.size + 2) (.ref h.objs.size) (.ref (h.objs.size + 1)) ∧
    IsPair (zE c1 c2 h l1 l2) (h.objs.size + 3) .none .none ∧ (zE c1 c2 h l1 l2).get? h.objs.size = some (itO c1 l1) ∧ (zE c1 c2 h l1 l2).get? (h.objs.size + 1) = some (itO c2 l2) ∧ ∀ c o, h.get? c = some o → (zE c1 c2 h l1 l2).get? c = some o := by
  have sA : (zA c1 h l1).objs.size = h.objs.size + 1 := Heap.size_push ..
  have sB : (zB c1 c2 h l1 l2).objs.size = h.objs.size + 2 := by unfold zB; rw [Heap.size_push, sA]
  have sC : (zC c1 c2 h l1 l2).objs.size = h.objs.size + 3 := by unfold zC; rw [Heap.size_push, sB]
  have sD : (zD c1 c2 h l1 l2).objs.size = h.objs.size + 4 := by unfold zD; rw [Heap.size_push, sC]
  have kA : ∀ c o, h.get? c = some o → (zA c1 h l1).get? c = some o := fun c o e => Heap.get?_push_of_some _ e
  have kB : ∀ c o, (zA c1 h l1).get? c = some o → (zB c1 c2 h l1 l2).get? c = some o := fun c o e => Heap.get?_push_of_some _ e
  have kC : ∀ c o, (zB c1 c2 h l1 l2).get? c = some o → (zC c1 c2 h l1 l2).get? c = some o := fun c o e => Heap.get?_push_of_some _ e
  have kD : ∀ c o, (zC c1 c2 h l1 l2).get? c = some o → (zD c1 c2 h l1 l2).get? c = some o := fun c o e => Heap.get?_push_of_some _ e
  have kE : ∀ c o, (zD c1 c2 h l1 l2).get? c = some o → (zE c1 c2 h l1 l2).get? c = some o := fun c o e => Heap.get?_push_of_some _ e
  refine ⟨sD, by unfold zE; rw [Heap.size_push, sD], ?_, ?_, ?_, ?_, ?_, fun c o e => kE c o (kD c o (kC c o (kB c o (kA c o e))))⟩
  · rw [← sD]
    unfold IsZip zE
    rw [sB, sC]
    exact Heap.get?_push_size _ rfl
  · have : (zC c1 c2 h l1 l2).get? (h.objs.size + 2) = some { cls := .type "tuple", data := .seq #[.ref h.objs.size, .ref (h.objs.size + 1)] } := by
      rw [← sB, ← sA]
      exact Heap.get?_push_size _ rfl
    exact kE _ _ (kD _ _ this)
  · have : (zD c1 c2 h l1 l2).get? (h.objs.size + 3) = some { cls := .type "tuple", data := .seq #[.none, .none] } := by
      rw [← sC]
      exact Heap.get?_push_size _ rfl
    exact kE _ _ this
  · exact kE _ _ (kD _ _ (kC _ _ (kB _ _ (Heap.get?_push_size _ (by cases c1 <;> rfl)))))
  · have : (zB c1 c2 h l1 l2).get? (h.objs.size + 1) = some (itO c2 l2) := by
      rw [← sA]
      exact Heap.get?_push_size _ (by cases c2 <;> rfl)
    exact kE _ _ (kD _ _ (kC _ _ this))
theorem ItK.of {c : Bool} {h : Heap} {it l : Addr} (e : h.get? it = some (itO c l)) : ItK c h it l 0 := by
  cases c with
  | true => exact ⟨_, e, rfl, rfl⟩
  | false => exact ⟨_, e, rfl, rfl⟩
section
variable {prog : Program} {w : World} {A : Around} {E : Value → Shared → Prop} {s : Shared}
theorem call_zg {c1 c2 : Bool} {l1 l2 : Addr} {xs ys : Array Value} {Q : Value → Shared → Prop} (q1 : SqK c1 s.heap l1 xs) (q2 : SqK c2 s.heap l2 ys)
    (h : ∀ h', IsZip h' (s.heap.objs.size + 4) (s.heap.objs.size + 2) (s.heap.objs.size + 3) .none → IsPair h' (s.heap.objs.size + 2) (.ref s.heap.objs.size) (.ref (s.heap.objs.size + 1)) → IsPair h' (s.heap.objs.size + 3) .none .none → ItK c1 h' s.heap.objs.size l1 0 → ItK c2 h' (s.heap.objs.size + 1) l2 0 →
      (∀ c o, s.heap.get? c = some o → h'.get? c = some o) → Q (.ref (s.heap.objs.size + 4)) { s with heap := h' }) : wpAny (model prog w) A (call (.type "zip") [.ref l1, .ref l2]) Q E s := by
  have fin : Q (.ref (zD c1 c2 s.heap l1 l2).objs.size) { s with heap := zE c1 c2 s.heap l1 l2 } := by
    obtain ⟨f1, f2, f3, f4, f5, f6, f7, f8⟩ := zE_facts c1 c2 s.heap l1 l2
    rw [f1]
    exact h _ f3 f4 f5 (.of f6) (.of f7) f8
  have zz : IsZip (zE c1 c2 s.heap l1 l2) (zD c1 c2 s.heap l1 l2).objs.size (s.heap.objs.size + 2) (s.heap.objs.size + 3) .none := by
    rw [(zE_facts c1 c2 s.heap l1 l2).1]
    exact (zE_facts c1 c2 s.heap l1 l2).2.2.1
  cases c1 <;> cases c2
  · exact call_zip_2 q1 q2 fun h' a1 a2 a3 a4 a5 _ a7 => h h' a1 a2 a3 a4 a5 a7
  · exact callType_new F.called_zip (by decide) (F.typeCall_zip_2 _ _) (F.newCall_zip_2 _ _) (fun obj => F.args_object_init_3 obj _ _) F.entry_zip_new (meets_lt l1 l2 xs ys) ⟨q1, q2, ⟨_, zz, rfl⟩, fin⟩
  · exact callType_new F.called_zip (by decide) (F.typeCall_zip_2 _ _) (F.newCall_zip_2 _ _) (fun obj => F.args_object_init_3 obj _ _) F.entry_zip_new (meets_tl l1 l2 xs ys) ⟨q1, q2, ⟨_, zz, rfl⟩, fin⟩
  · exact RZ.call_zipT q1 q2 fun h' a1 a2 a3 a4 a5 _ a7 => h h' a1 a2 a3 a4 a5 a7
end
end Zg
set_option Elab.async false
set_option linter.all false
set_option maxRecDepth 100000
set_option maxHeartbeats 2000000
namespace Lt
open PySem PySem.Spec PyProof.Rows L2 Zg
def mkT (b : Bool) (o : Obj) (xs : List V) : HO := if b = true then .frz o (.tup xs) else .tup xs
def tupO (vs : Array Value) : Obj := { cls := .type "tuple", data := .seq vs }
def NewT (b : Bool) (xs : List V) (H : Hp) (Q : VK) : Prop := ∀ (p : Addr) (o : Obj), o.dict = none → H p = none → Q (.ref p) (upd H p (mkT b o xs))
section
variable {X : Cx} {pins : List (Addr × Obj)} {σ : L2.St} {H : Hp} {s : Shared}
theorem mkT_ok {b : Bool} {P : Program} {w : World} {H : Hp} {h : Heap} {a : Addr} {xs : List V} {its : List Value} (e : h.get? a = some (tupO its.toArray)) (r : Vals xs its) (hz : xs.length ≤ sizeLine) : ObjOk P w H h a (mkT b (tupO its.toArray) xs) := by
  have ok : ObjOk P w H h a (.tup xs) := ⟨hz, its, r, ⟨_, e, rfl, _, rfl⟩⟩
  cases b with
  | true => exact ⟨e, ok⟩
  | false => exact ok
theorem laidT (b : Bool) {xs : List V} {its : List Value} {Q : VK} (I : Inv X pins σ H s) (r : Vals xs its) (hz : xs.length ≤ sizeLine) (q : NewT b xs H Q) : EP X pins σ Q (.ref s.heap.objs.size) { s with heap := s.heap.push (tupO its.toArray) } :=
  ⟨.ref s.heap.objs.size, _, I.laid (t' := s.toks) (o := mkT b (tupO its.toArray) xs) (fun _ _ e => Heap.get?_push_of_some _ e) (Nat.le_refl _) (mkT_ok (Heap.get?_push_size _ rfl) r hz), rfl, q _ _ rfl (I.hok.fresh (Nat.le_refl _))⟩
end
section
variable {X : Cx}
def tTupX (t : TA) : TE := fun σ H Q => t σ H fun xs H1 => xs.length ≤ sizeLine ∧ ∃ b, NewT b xs H1 Q
theorem pe_tupX {es : List Expr} {t : TA} {n : Nat} {pos : Pos} (h : PA X es t) : PE X (.Tuple es n pos) (tTupX t) :=
  ⟨fun pins s σ H Q I hq => wpAny_Tuple_spliced (thn (h.run pos pins s σ H _ I hq) fun us s1 ⟨xs, H1, I1, r, z, b, q⟩ => ⟨by rw [← r.length]; exact z, laidT b I1 r z q⟩)⟩
def rTupX (K : PySem.W.Frag) : List V → Hp → VK → Prop := fun xs H Q => ∃ p ys, xs = [.ref p] ∧ ((SqL K H p ys ∧ ∃ b, NewT b ys H Q) ∨ (SqT K H p ys ∧ Q (.ref p) H))
theorem call_tupleX : CallR X (.type "tuple") (rTupX X.K) := by
  rintro pins s σ H xs us Q I r ⟨p, ys, rfl, h⟩
  obtain ⟨u, rfl, rx⟩ := vals1 r
  cases rx
  rcases h with ⟨hq, b, q⟩ | ⟨hq, q⟩
  · obtain ⟨its, r', pl, hz⟩ := I.list hq
    have hlen := r'.length
    exact call_tuple_list pl.isList (fun h' kp => laidT b (I.kept (t' := s.toks) kp) r' hz q) (by simp only [List.size_toArray] <;> omega)
  · obtain ⟨its, r', pl, hz⟩ := I.tuple hq
    exact call_tuple_same pl ⟨.ref p, H, I, rfl, q⟩
def rCatX (K : PySem.W.Frag) : R2 := fun x y H Q => ∃ a b xs ys, x = .ref a ∧ y = .ref b ∧ SqT K H a xs ∧ SqT K H b ys ∧ xs.length + ys.length ≤ sizeLine ∧
  (xs = [] → Q (.ref b) H) ∧ (xs ≠ [] → ys = [] → Q (.ref a) H) ∧ (xs ≠ [] → ys ≠ [] → ∃ c, NewT c (xs ++ ys) H Q)
theorem op_catX : OpR X (binaryOp .Add) (rCatX X.K) := by
  rintro pins s σ H x y v u Q I rx ry ⟨a, b, xs, ys, rfl, rfl, ha, hb, hz, q0, q1, q2⟩
  by_cases hx : xs = []
  · exact op_catA pins s σ H _ _ v u Q I rx ry ⟨a, b, xs, ys, rfl, rfl, ha, hb, hz, q0, q1, fun z => absurd hx z⟩
  · cases rx
    cases ry
    obtain ⟨its, r1, p1, _⟩ := I.tuple ha
    obtain ⟨its2, r2, p2, _⟩ := I.tuple hb
    refine HT.cat_tup p1 p2 (fun z => hx (r1.nil_iff.mp z)) (fun z => ⟨.ref a, H, I, rfl, q1 hx (r2.nil_iff.mp z)⟩) (fun z => ?_) (by rw [← r1.length, ← r2.length]; exact hz)
    obtain ⟨c, q⟩ := q2 hx (fun w => z (r2.nil_iff.mpr w))
    have := laidT c I (r1.append r2) (by rw [List.length_append]; exact hz) q
    simpa [tupO] using this
def rSlX (K : PySem.W.Frag) : V → Option Int → Option Int → Hp → VK → Prop := fun x lo hi H Q => ∃ a xs, x = .ref a ∧ SqT K H a xs ∧
  (HT.sIx xs.length 0 lo = 0 ∧ HT.sIx xs.length xs.length hi = xs.length → Q (.ref a) H) ∧ (¬ (HT.sIx xs.length 0 lo = 0 ∧ HT.sIx xs.length xs.length hi = xs.length) → ∃ b, NewT b (cutV xs lo hi) H Q)
theorem sl_tupX : SlR X (rSlX X.K) := by
  rintro pins s σ H x v vl vu lo hi sl Q I rx hs pl pu ⟨a, xs, rfl, hx, q1, q2⟩
  by_cases hw : HT.sIx xs.length 0 lo = 0 ∧ HT.sIx xs.length xs.length hi = xs.length
  · exact sl_tupA pins s σ H _ v vl vu lo hi sl Q I rx hs pl pu ⟨a, xs, rfl, hx, q1, fun z => absurd hw z⟩
  · cases rx
    obtain ⟨its, r, ht, hz⟩ := I.tuple hx
    have hlen : its.toArray.size = xs.length := by rw [List.size_toArray]; exact r.length.symm
    obtain ⟨b, q⟩ := q2 hw
    refine ⟨"tuple", _, PyProof.Rows.slot_tuple_getitem.lookup, ht.typeIs, HT.getItem_tuple_cut ht hs pl pu (by rw [hlen]; exact hw) ?_ (by rw [hlen]; exact hz)⟩
    rw [hlen]
    exact laidT b I ((r.drop (HT.sIx xs.length 0 lo)).take (HT.sIx xs.length xs.length hi - HT.sIx xs.length 0 lo)) (Nat.le_trans (cutV_length xs lo hi) hz) q
def SqV (K : PySem.W.Frag) (c : Bool) (H : Hp) (a : Addr) (xs : List V) : Prop := if c = true then SqT K H a xs else SqL K H a xs
theorem SqV.at {pins : List (Addr × Obj)} {σ : L2.St} {H : Hp} {s : Shared} {c : Bool} {a : Addr} {xs : List V} (I : Inv X pins σ H s) (h : SqV X.K c H a xs) : ∃ its : List Value, Vals xs its ∧ SqK c s.heap a its.toArray := by
  cases c with
  | true => obtain ⟨its, r, p, _⟩ := I.tuple h; exact ⟨its, r, p⟩
  | false => obtain ⟨its, r, p, _⟩ := I.list h; exact ⟨its, r, p.isList⟩
theorem SqV.inj {pins : List (Addr × Obj)} {σ : L2.St} {H : Hp} {s : Shared} {c : Bool} {a : Addr} {xs ys : List V} (I : Inv X pins σ H s) (h : SqV X.K c H a xs) (h2 : SqV X.K c H a ys) : xs = ys := by
  cases c with
  | true => exact I.tuple_inj h h2
  | false => exact I.list_inj h h2
def ItX (K : PySem.W.Frag) (c1 c2 : Bool) (a b : Addr) (bf : Nat → Bool) : It :=
  ⟨fun i H => ∃ (xs ys : List V) (x y : V), SqV K c1 H a xs ∧ SqV K c2 H b ys ∧ xs[i]? = some x ∧ ys[i]? = some y,
    fun i H v H' => ∃ (T : Addr) (x y : V) (o : Obj), v = .ref T ∧ o.dict = none ∧ H T = none ∧ H' = upd H T (mkT (bf i) o [x, y]) ∧ (∀ xs, SqV K c1 H a xs → xs[i]? = some x) ∧ ∀ ys, SqV K c2 H b ys → ys[i]? = some y,
    fun i H => ∃ xs ys : List V, SqV K c1 H a xs ∧ SqV K c2 H b ys ∧ (xs.length ≤ i ∨ ys.length ≤ i)⟩
theorem turnX {P : Program} {w : World} {K : PySem.W.Frag} {elts : List Expr} {kk : Nat} {tpos : Pos} {c1 c2 : Bool} {bf : Nat → Bool} {a b z TI TO i1 i2 : Addr} (D : ZipApart z TI TO i1 i2 a b) :
    Turn P w K (.Tuple elts kk tpos) (ItX K c1 c2 a b bf) [z, TI, TO, i1, i2] z (fun i h => IsZip h z TI TO .none ∧ IsPair h TI (.ref i1) (.ref i2) ∧ (∃ x y, IsPair h TO x y) ∧ ItK c1 h i1 a i ∧ ItK c2 h i2 b i) where
  mem := by simp
  obj := by
    rintro i h ⟨e1, e2, ⟨x, y, e3⟩, e4, e5⟩ c hc
    simp only [List.mem_cons, List.not_mem_nil, or_false] at hc
    rcases hc with rfl | rfl | rfl | rfl | rfl
    · exact ⟨_, e1, fun v q => nomatch q⟩
    · exact ⟨_, e2, fun v q => nomatch q⟩
    · exact ⟨_, e3, fun v q => nomatch q⟩
    · exact e4.obj
    · exact e5.obj
  keep := by
    rintro i h h' ⟨e1, e2, ⟨x, y, e3⟩, e4, e5⟩ k
    exact ⟨k z (by simp) _ e1, k TI (by simp) _ e2, ⟨x, y, k TO (by simp) _ e3⟩, e4.at fun o q => k i1 (by simp) o q, e5.at fun o q => k i2 (by simp) o q⟩
  item := by
    rintro X rfl rfl rfl hc i pins s σ H E I hf ⟨e1, e2, ⟨x0, y0, e3⟩, e4, e5⟩ ⟨xs, ys, x, y, hqx, hqy, hx, hy⟩
    obtain ⟨its, rv, p1⟩ := hqx.at I
    obtain ⟨its2, rv2, p2⟩ := hqy.at I
    obtain ⟨u, hu, ru⟩ := rv.get hx
    obtain ⟨u2, hu2, ru2⟩ := rv2.get hy
    have zlt : z < s.heap.objs.size := Heap.lt_size e1
    refine zg_item D e1 e2 e3 ⟨e4, p1⟩ ⟨e5, p2⟩ (x := u) (y := u2) (by simpa using hu) (by simpa using hu2) fun h1 f1 f2 f3 f4 f5 _ f7 => ⟨_, rfl, wpAny_letOwnedTupleGo_zip (s := { s with heap := h1 }) f1 fun h2 g1 sb => ?_⟩
    have hT : h2.get? s.heap.objs.size = some (tupO [u, u2].toArray) := (sb.2 _ (Nat.ne_of_gt zlt)).trans f5
    have I1 : Inv X pins σ (upd H s.heap.objs.size (mkT (bf i) (tupO [u, u2].toArray) [x, y])) { s with heap := h2 } :=
      I.turnedNew (t' := s.toks) (ch := [z, TI, TO, i1, i2]) (fun c o hb q => by
        simp only [List.mem_cons, List.not_mem_nil, or_false, not_or] at hb
        exact (sb.2 c hb.1).trans (f7 c o hb.1 hb.2.2.1 hb.2.2.2.1 hb.2.2.2.2 q)) hf (Nat.le_refl _) (mkT_ok hT (.cons ru (.cons ru2 .nil)) (by show 2 ≤ sizeLine; decide))
    refine ⟨.ref s.heap.objs.size, _, I1, rfl, ⟨_, x, y, tupO [u, u2].toArray, rfl, rfl, I.hok.fresh (Nat.le_refl _), rfl, fun l hl => by rw [hl.inj I hqx]; exact hx, fun l hl => by rw [hl.inj I hqy]; exact hy⟩, ⟨g1, ?_, ⟨u, u2, ?_⟩, ?_, ?_⟩, fun c hcm => ?_⟩
    · exact (sb.2 _ D.TIz).trans (f7 _ _ D.TIz D.TITO D.TIi1 D.TIi2 e2)
    · exact (sb.2 _ D.TOz).trans f2
    · exact f3.it.at fun o q => (sb.2 _ D.i1z).trans q
    · exact f4.it.at fun o q => (sb.2 _ D.i2z).trans q
    · have hlt : c < s.heap.objs.size := by
        simp only [List.mem_cons, List.not_mem_nil, or_false] at hcm
        rcases hcm with rfl | rfl | rfl | rfl | rfl
        · exact zlt
        · exact Heap.lt_size e2
        · exact Heap.lt_size e3
        · obtain ⟨_, e, _⟩ := e4.obj; exact Heap.lt_size e
        · obtain ⟨_, e, _⟩ := e5.obj; exact Heap.lt_size e
      rw [upd_ne (Nat.ne_of_lt hlt)]
      exact (hf c hcm).1
  done := by
    rintro X rfl rfl rfl hc i pins s σ H E I hf ⟨e1, e2, ⟨x0, y0, e3⟩, e4, e5⟩ ⟨xs, ys, hqx, hqy, hend⟩
    obtain ⟨its, rv, p1⟩ := hqx.at I
    obtain ⟨its2, rv2, p2⟩ := hqy.at I
    have l1 := rv.length
    have l2 := rv2.length
    refine zg_stop (I.ok.hd hc) D e1 e2 e3 ⟨e4, p1⟩ ⟨e5, p2⟩ (by
      rcases hend with q | q
      · exact .inl (by simp; omega)
      · exact .inr (by simp; omega)) fun h' hk => ⟨rfl, I.turnedL (t' := s.toks) (ch := [z, TI, TO, i1, i2]) (fun c o hb q => by
        simp only [List.mem_cons, List.not_mem_nil, or_false, not_or] at hb
        exact hk c o hb.1 hb.2.2.1 hb.2.2.2.1 hb.2.2.2.2 q) hf⟩
  self := fun A i s Q E st h => wpAny_pyIter_zip st.1 h
def iZipX (K : PySem.W.Frag) (ta : TA) : TI := fun σ H R => ta σ H fun vs H1 => ∃ (c1 c2 : Bool) (a b : Addr) (xs ys : List V) (bf : Nat → Bool), vs = [.ref a, .ref b] ∧ SqV K c1 H1 a xs ∧ SqV K c2 H1 b ys ∧ R (ItX K c1 c2 a b bf) H1
theorem SqK.lt {c : Bool} {h : Heap} {l : Addr} {xs : Array Value} (q : SqK c h l xs) : l < h.objs.size := by
  cases c with
  | true => obtain ⟨o, e, _⟩ := (show h.IsTuple l xs from q); exact Heap.lt_size e
  | false => obtain ⟨o, e, _⟩ := (show h.IsList l xs from q); exact Heap.lt_size e
theorem pi_zipX {e e2 : Expr} {ta : TA} {p pos tpos : Pos} {elts : List Expr} {kk : Nat} (hg : Gl X "zip") (hm : X.mg "zip" = none) (ha : PA X [e, e2] ta)
    (hs : starEach [e, e2] X.env = (false, eval e X.env) :: starEach [e2] X.env := by rfl) (hpl : (backTo pos (starEach [e2] X.env)).any (·.1) = false := by rfl) :
    PI X (.Tuple elts kk tpos) (.Call (.Name "zip" p) [e, e2] [] pos) (iZipX X.K ta) := by
  refine ⟨fun pins s σ H R I h => Call_ (ld_blt I hg hm PyProof.Rows.boot_zip (PyProof.Rows.callWith_type1 (thn (ha.run pos pins s σ H _ I h) fun us s1 ⟨vs, H1, I1, r1, q1⟩ => ?_) hs hpl))⟩
  obtain ⟨c1, c2, a, b, xs, ys, bf, rfl, hqx, hqy, q⟩ := q1
  cases r1 with
  | cons r rr =>
    cases rr with
    | cons r' rr =>
      cases rr
      cases r
      cases r'
      obtain ⟨its, rv, p1⟩ := hqx.at I1
      obtain ⟨its2, rv2, p2⟩ := hqy.at I1
      refine call_zg p1 p2 fun h' f1 f2 f3 f4 f5 hk => wpAny_pyIter_zip f1 ?_
      refine ⟨s1.heap.objs.size + 4, [s1.heap.objs.size + 4, s1.heap.objs.size + 2, s1.heap.objs.size + 3, s1.heap.objs.size, s1.heap.objs.size + 1], _, _, H1, rfl, I1.kept (t' := s1.toks) hk, turnX (bf := bf) (PySem.W.ktu_apart s1.heap.objs.size a b (Lt.SqK.lt p1) (Lt.SqK.lt p2)), ⟨f1, f2, ⟨_, _, f3⟩, f4, f5⟩, fun c hcm => ?_, q⟩
      have hle : s1.heap.objs.size ≤ c := by
        simp only [List.mem_cons, List.not_mem_nil, or_false] at hcm
        rcases hcm with rfl | rfl | rfl | rfl | rfl <;> first | exact Nat.le_add_right _ _ | exact Nat.le_refl _
      exact I1.fpOk hle (I1.hok.fresh hle)
end
end Lt
set_option Elab.async false
set_option linter.all false
set_option maxRecDepth 100000
set_option maxHeartbeats 2000000
namespace Lf
open PySem PySem.Spec PyProof.Rows L2
abbrev Mem := List PyData
inductive Wv where
  | d (x : PyData)
  | r (l : Nat)
  | f (a : Addr)
  | k (xs : List PyData)
  | er (a d : Addr) (fs : List (Str × PyData))
inductive Rv where
  | w (x : Wv)
  | own (x : PyData)
structure Xn where
  cls : Str
  fs : List (Str × PyData)
inductive Ans (A : Type) where
  | val (a : A) (M : Mem)
  | exc (x : Xn) (M : Mem)
  | bad
@[simp] def Ans.bind {A B : Type} (a : Ans A) (f : A → Mem → Ans B) : Ans B :=
  match a with
  | .val a M => f a M
  | .exc x M => .exc x M
  | .bad => .bad
abbrev En := List (Option Wv)
abbrev Den := En → Mem → Ans Rv
abbrev DenT := En → Mem → Ans Bool
inductive SAns where
  | next (e : En) (M : Mem)
  | ret (r : Rv) (M : Mem)
  | brk (e : En) (M : Mem)
  | cont (e : En) (M : Mem)
  | exc (x : Xn) (e : En) (M : Mem)
  | bad
abbrev DenS := En → Mem → SAns
def kD : Key → PyData
  | .inl i => .int i
  | .inr x => .str x
def isT : PyData → Bool
  | .tuple _ => true
  | _ => false
def isI1 : PyData → Bool
  | .int _ => true
  | _ => false
def needF (ds : List PyData) : Bool := !ds.isEmpty && (ds.all isT || ds.all isI1)
def TupAt (K : PySem.W.Frag) (G : Hp) (a : Addr) (xs : List V) (ds : List PyData) : Prop := ∃ o : Obj, o.dict = none ∧ G a = some (Lt.mkT (needF ds) o xs)
theorem TupAt.of {K : PySem.W.Frag} {G : Hp} {a : Addr} {xs : List V} {ds : List PyData} (h : G a = some (.tup xs)) (n : needF ds = false) : TupAt K G a xs ds := ⟨Lt.tupO #[], rfl, by rw [n]; exact h⟩
theorem TupAt.flat {K : PySem.W.Frag} {G : Hp} {a : Addr} {xs : List V} {ds : List PyData} (h : TupAt K G a xs ds) (n : needF ds = false) : G a = some (.tup xs) := by
  obtain ⟨o, _, h⟩ := h
  rw [n] at h
  exact h
theorem TupAt.new {K : PySem.W.Frag} {G : Hp} {p : Addr} {xs : List V} {ds : List PyData} {o : Obj} (ho : o.dict = none) : TupAt K (upd G p (Lt.mkT (needF ds) o xs)) p xs ds := ⟨o, ho, upd_same⟩
theorem needF_ints {l : List Int} (h : l ≠ []) : needF (l.map .int) = true := by
  have h1 : (l.map PyData.int).all isI1 = true := by rw [List.all_map, List.all_eq_true]; exact fun _ _ => rfl
  cases l with
  | nil => exact absurd rfl h
  | cons a l =>
    unfold needF
    rw [h1]
    simp
mutual
inductive Rp (K : PySem.W.Frag) (G : Hp) : V → PyData → Prop
  | non : Rp K G .non .none
  | bl (b : Bool) : Rp K G (.bl b) (.bool b)
  | int (i : Int) : Rp K G (.int i) (.int i)
  | str (x : Str) : Rp K G (.str x) (.str x)
  | lst {a : Addr} {xs : List V} {ds : List PyData} : G a = some (.lst xs) → RpAll K G xs ds → Rp K G (.ref a) (.list ds)
  | tup {a : Addr} {xs : List V} {ds : List PyData} : TupAt K G a xs ds → RpAll K G xs ds → Rp K G (.ref a) (.tuple ds)
  | dT {a : Addr} {kvs : List (List Key × V)} {ds : List (PyData × PyData)} : G a = some (.dT kvs) → RpT K G kvs ds → Rp K G (.ref a) (.dict ds)
  | dK {a : Addr} {kvs : List (Key × V)} {ds : List (PyData × PyData)} : G a = some (.dK kvs) → RpK K G kvs ds → Rp K G (.ref a) (.dict ds)
inductive RpAll (K : PySem.W.Frag) (G : Hp) : List V → List PyData → Prop
  | nil : RpAll K G [] []
  | cons {v : V} {vs : List V} {d : PyData} {ds : List PyData} : Rp K G v d → RpAll K G vs ds → RpAll K G (v :: vs) (d :: ds)
inductive RpT (K : PySem.W.Frag) (G : Hp) : List (List Key × V) → List (PyData × PyData) → Prop
  | nil : RpT K G [] []
  | cons {k : List Key} {v : V} {vs : List (List Key × V)} {d : PyData} {ds : List (PyData × PyData)} : Rp K G v d → RpT K G vs ds → RpT K G ((k, v) :: vs) ((.tuple (k.map kD), d) :: ds)
inductive RpK (K : PySem.W.Frag) (G : Hp) : List (Key × V) → List (PyData × PyData) → Prop
  | nil : RpK K G [] []
  | cons {k : Key} {v : V} {vs : List (Key × V)} {d : PyData} {ds : List (PyData × PyData)} : Rp K G v d → RpK K G vs ds → RpK K G ((k, v) :: vs) ((kD k, d) :: ds)
end
def Sub (G H : Hp) : Prop := ∀ a o, G a = some o → H a = some o
theorem Sub.refl (H : Hp) : Sub H H := fun _ _ h => h
theorem Sub.trans {H H1 H2 : Hp} (a : Sub H H1) (b : Sub H1 H2) : Sub H H2 := fun x o h => b x o (a x o h)
theorem Sub.new {H : Hp} {p : Addr} {o : HO} (h : H p = none) : Sub H (upd H p o) := fun a u e => by
  rw [upd_ne (ne_of_none e h)]
  exact e
theorem Sub.mut {H H' : Hp} {p : Addr} {o : HO} (e : Sub H H') (h : H p = none) : Sub H (upd H' p o) := fun a u ha => by
  rw [upd_ne (ne_of_none ha h)]
  exact e a u ha
theorem Sub.rd {H H' : Hp} {a : Addr} {u : HO} (e : Sub H H') (h : Rd H a u) : Rd H' a u := by
  rcases h with h | ⟨o, h⟩
  · exact Or.inl (e a _ h)
  · exact Or.inr ⟨o, e a _ h⟩
theorem Sub.l {K : PySem.W.Frag} {H H' : Hp} {a : Addr} {xs : List V} (e : Sub H H') (h : SqL K H a xs) : SqL K H' a xs := by
  rcases h with h | h
  · exact Or.inl (e.rd h)
  · exact Or.inr h
theorem Sub.t2 {K : PySem.W.Frag} {H H' : Hp} {a : Addr} {xs : List V} (e : Sub H H') (h : SqT K H a xs) : SqT K H' a xs := by
  rcases h with h | h
  · exact Or.inl (e.rd h)
  · exact Or.inr h
theorem TupAt.mono {K : PySem.W.Frag} {H H' : Hp} {a : Addr} {xs : List V} {ds : List PyData} (e : Sub H H') (h : TupAt K H a xs ds) : TupAt K H' a xs ds := let ⟨o, h1, h2⟩ := h; ⟨o, h1, e _ _ h2⟩
theorem Sub.t {K : PySem.W.Frag} {H H' : Hp} {a : Addr} {xs : List V} {ds : List PyData} (e : Sub H H') (h : TupAt K H a xs ds) : SqT K H' a xs := by
  obtain ⟨o, _, h⟩ := h
  have h := e _ _ h
  cases hb : needF ds with
  | true => rw [hb] at h; exact .inl (.inr ⟨o, h⟩)
  | false => rw [hb] at h; exact .inl (.inl h)
theorem Sub.free {H H' : Hp} {p : Addr} (e : Sub H H') (h : H' p = none) : H p = none := by
  cases h1 : H p with
  | none => rfl
  | some o =>
    rw [e p o h1] at h
    cases h
section
variable {K : PySem.W.Frag} {G G' : Hp}
mutual
theorem Rp.mono (e : Sub G G') : ∀ {v : V} {d : PyData}, Rp K G v d → Rp K G' v d
  | _, _, .non => .non
  | _, _, .bl b => .bl b
  | _, _, .int i => .int i
  | _, _, .str x => .str x
  | _, _, .lst h t => .lst (e _ _ h) (RpAll.mono e t)
  | _, _, .tup h t => .tup (h.mono e) (RpAll.mono e t)
  | _, _, .dT h t => .dT (e _ _ h) (RpT.mono e t)
  | _, _, .dK h t => .dK (e _ _ h) (RpK.mono e t)
theorem RpAll.mono (e : Sub G G') : ∀ {v : List V} {d : List PyData}, RpAll K G v d → RpAll K G' v d
  | _, _, .nil => .nil
  | _, _, .cons h t => .cons (Rp.mono e h) (RpAll.mono e t)
theorem RpT.mono (e : Sub G G') : ∀ {v : List (List Key × V)} {d : List (PyData × PyData)}, RpT K G v d → RpT K G' v d
  | _, _, .nil => .nil
  | _, _, .cons h t => .cons (Rp.mono e h) (RpT.mono e t)
theorem RpK.mono (e : Sub G G') : ∀ {v : List (Key × V)} {d : List (PyData × PyData)}, RpK K G v d → RpK K G' v d
  | _, _, .nil => .nil
  | _, _, .cons h t => .cons (Rp.mono e h) (RpK.mono e t)
end
theorem RpAll.length : ∀ {v : List V} {d : List PyData}, RpAll K G v d → v.length = d.length
  | _, _, .nil => rfl
  | _, _, .cons _ t => congrArg Nat.succ t.length
theorem RpAll.get : ∀ {v : List V} {d : List PyData} {i : Nat} {x : PyData}, RpAll K G v d → d[i]? = some x → ∃ y, v[i]? = some y ∧ Rp K G y x
  | _, _, 0, _, .cons h _, e => by cases e; exact ⟨_, rfl, h⟩
  | _, _, i + 1, x, .cons _ t, e => RpAll.get (i := i) (x := x) t e
  | _, _, _, _, .nil, e => by simp at e
theorem RpAll.getV : ∀ {v : List V} {d : List PyData} {i : Nat} {y : V}, RpAll K G v d → v[i]? = some y → ∃ x, d[i]? = some x ∧ Rp K G y x
  | _, _, 0, _, .cons h _, e => by cases e; exact ⟨_, rfl, h⟩
  | _, _, i + 1, x, .cons _ t, e => RpAll.getV (i := i) (y := x) t e
  | _, _, _, _, .nil, e => by simp at e
theorem RpAll.append : ∀ {v w : List V} {d e : List PyData}, RpAll K G v d → RpAll K G w e → RpAll K G (v ++ w) (d ++ e)
  | _, _, _, _, .nil, s => s
  | _, _, _, _, .cons h t, s => .cons h (RpAll.append t s)
theorem RpAll.take : ∀ {v : List V} {d : List PyData} (n : Nat), RpAll K G v d → RpAll K G (v.take n) (d.take n)
  | _, _, 0, _ => .nil
  | _, _, _ + 1, .nil => .nil
  | _, _, n + 1, .cons r t => .cons r (RpAll.take n t)
theorem RpAll.drop : ∀ {v : List V} {d : List PyData} (n : Nat), RpAll K G v d → RpAll K G (v.drop n) (d.drop n)
  | _, _, 0, r => r
  | _, _, _ + 1, .nil => .nil
  | _, _, n + 1, .cons _ t => RpAll.drop n t
theorem RpAll.set {x : V} {y : PyData} (r : Rp K G x y) : ∀ {v : List V} {d : List PyData} (i : Nat), RpAll K G v d → RpAll K G (v.set i x) (d.set i y)
  | _, _, _, .nil => .nil
  | _, _, 0, .cons _ t => .cons r t
  | _, _, i + 1, .cons q t => .cons q (RpAll.set r i t)
end
inductive ObR (K : PySem.W.Frag) (G : Hp) : HO → PyData → Prop
  | lst {xs : List V} {ds : List PyData} : RpAll K G xs ds → ObR K G (.lst xs) (.list ds)
  | dT {kvs : List (List Key × V)} {ds : List (PyData × PyData)} : RpT K G kvs ds → ObR K G (.dT kvs) (.dict ds)
  | dK {kvs : List (Key × V)} {ds : List (PyData × PyData)} : RpK K G kvs ds → ObR K G (.dK kvs) (.dict ds)
theorem ObR.nt {K : PySem.W.Frag} {G : Hp} {o : HO} {c : PyData} (h : ObR K G o c) : ∀ ps, o ≠ .tbl ps := fun ps z => by subst z; cases h
theorem ObR.mono {K : PySem.W.Frag} {G G' : Hp} (e : Sub G G') {o : HO} {c : PyData} : ObR K G o c → ObR K G' o c
  | .lst h => .lst (h.mono e)
  | .dT h => .dT (h.mono e)
  | .dK h => .dK (h.mono e)
theorem ObR.rp {K : PySem.W.Frag} {G : Hp} {o : HO} {c : PyData} {a : Addr} (h : G a = some o) : ObR K G o c → Rp K G (.ref a) c
  | .lst t => .lst h t
  | .dT t => .dT h t
  | .dK t => .dK h t
def makers : List Str := ["law", "_law_right", "_law_brings_right", "_law_refusals_right", "_law_read_right"]
def tabsOf (K : PySem.W.Frag) : List (Addr × Str) := makers.filterMap fun x => (PySem.W.tabIn K x).map fun q => (q.2, x ++ ".<locals>." ++ "<lambda>")
theorem _root_.LamX.Tabs.write {T : List (Addr × Str)} {K : PySem.W.Frag} {G H : Hp} {a : Addr} {u o : HO} {c : PyData} (t : LamX.Tabs T H) (h : H a = some u) (hu : ObR K G u c) : LamX.Tabs T (upd H a o) := fun p hp => by
  obtain ⟨ps, h1, h2, h3⟩ := t p hp
  have n1 : p.1 ≠ a := fun z => by
    rw [z, h] at h1
    cases h1
    cases hu
  refine ⟨ps, (upd_ne n1).trans h1, h2, fun pos cv hc => ?_⟩
  obtain ⟨c', e1, e2⟩ := h3 pos cv hc
  have n2 : c' ≠ a := fun z => by
    rw [z, h] at e2
    cases e2
    cases hu
  exact ⟨c', e1, (upd_ne n2).trans e2⟩
def lk (ds : List (PyData × PyData)) : PyData := .tuple [.dict ds]
def isLk : PyData → Bool
  | .tuple [.dict _] => true
  | _ => false
def unlk : PyData → PyData
  | .tuple [.dict ds] => .dict ds
  | c => c
def isFrz : HO → Bool
  | .frz _ _ => true
  | _ => false
theorem isLk_eq {c : PyData} (h : isLk c = true) : ∃ ds, c = lk ds := by
  unfold isLk at h
  split at h
  · exact ⟨_, rfl⟩
  · cases h
theorem ObR.nlk {K : PySem.W.Frag} {G : Hp} {o : HO} {c : PyData} (h : ObR K G o c) : isLk c = false := by cases h <;> rfl
structure MemR (K : PySem.W.Frag) (G H : Hp) (i : List Addr) (M : Mem) : Prop where
  sub : Sub G H
  nd : i.Nodup
  len : i.length = M.length
  fr : ∀ (l : Nat) (a : Addr) (c : PyData), i[l]? = some a → M[l]? = some c → isLk c = false → G a = none
  at_ : ∀ (l : Nat) (a : Addr) (c : PyData), i[l]? = some a → M[l]? = some c → isLk c = false → ∃ o, H a = some o ∧ ObR K G o c
  lk_ : ∀ (l : Nat) (a : Addr) (ds : List (PyData × PyData)), i[l]? = some a → M[l]? = some (lk ds) → ∃ (od : Obj) (u : HO), G a = some (.frz od u) ∧ ObR K G u (.dict ds)
  tab : LamX.Tabs (tabsOf K) H
  nt : ∀ (a : Addr) (ps : Array Value), G a ≠ some (.tbl ps)
def RpW (K : PySem.W.Frag) (G : Hp) (i : List Addr) (v : V) : Wv → Prop
  | .d x => Rp K G v x
  | .r l => ∃ a, i[l]? = some a ∧ v = .ref a
  | .f a => v = .ref a
  | .k xs => ∃ a vs, v = .ref a ∧ SqL K G a vs ∧ RpAll K G vs xs
  | .er a d fs => v = .ref a ∧ ∃ vs : List (Str × V), G d = some (.xd vs) ∧ vs.map (·.1) = fs.map (·.1) ∧ RpAll K G (vs.map (·.2)) (fs.map (·.2))
def ResR (K : PySem.W.Frag) (G H : Hp) (i : List Addr) (v : V) : Rv → Prop
  | .w x => RpW K G i v x
  | .own c => ∃ a o, v = .ref a ∧ G a = none ∧ a ∉ i ∧ H a = some o ∧ ObR K G o c
def EnvR (K : PySem.W.Frag) (G : Hp) (i : List Addr) (e : En) (s : L2.St) : Prop :=
  e.length = s.length ∧ ∀ (j : Nat) (w : Wv), e[j]? = some (some w) → ∃ v, s[j]? = some (some v) ∧ RpW K G i v w
section
variable {K : PySem.W.Frag} {G G' H H' : Hp} {i i' : List Addr} {M : Mem} {v : V}
theorem get_pre {l : Nat} {a : Addr} (p : i <+: i') (h : i[l]? = some a) : i'[l]? = some a := by
  obtain ⟨t, rfl⟩ := p
  rw [List.getElem?_append_left (List.getElem?_eq_some_iff.mp h).1]
  exact h
theorem RpW.mono (e : Sub G G') (p : i <+: i') {w : Wv} (h : RpW K G i v w) : RpW K G' i' v w := by
  cases w with
  | d x => exact Rp.mono e h
  | r l => obtain ⟨a, h1, h2⟩ := h; exact ⟨a, get_pre p h1, h2⟩
  | f a => exact h
  | k xs => obtain ⟨a, vs, h1, h2, h3⟩ := h; exact ⟨a, vs, h1, e.l h2, h3.mono e⟩
  | er a d fs => obtain ⟨h0, vs, h1, h2, h3⟩ := h; exact ⟨h0, vs, e _ _ h1, h2, h3.mono e⟩
theorem EnvR.mono (e : Sub G G') (p : i <+: i') {r : En} {s : L2.St} (h : EnvR K G i r s) : EnvR K G' i' r s :=
  ⟨h.1, fun j w q => let ⟨v, a, b⟩ := h.2 j w q; ⟨v, a, b.mono e p⟩⟩
theorem EnvR.set {r : En} {s : L2.St} (h : EnvR K G i r s) (j : Nat) {w : Wv} (hv : RpW K G i v w) : EnvR K G i (r.set j (some w)) (s.set j (some v)) := by
  refine ⟨by rw [List.length_set, List.length_set]; exact h.1, fun m w' q => ?_⟩
  by_cases hm : j = m
  · subst hm
    have hl : j < r.length := by
      have := (List.getElem?_eq_some_iff.mp q).1
      rwa [List.length_set] at this
    rw [List.getElem?_set_self hl] at q
    cases q
    rw [List.getElem?_set_self (h.1 ▸ hl)]
    exact ⟨v, rfl, hv⟩
  · rw [List.getElem?_set_ne hm] at q
    rw [List.getElem?_set_ne hm]
    exact h.2 m w' q
theorem MemR.freeze {a : Addr} {o : HO} (m : MemR K G H i M) (h1 : G a = none) (h2 : a ∉ i) (h3 : H a = some o) (ht : ∀ ps, o ≠ .tbl ps) : MemR K (upd G a o) H i M := by
  refine ⟨fun b u e => ?_, m.nd, m.len, fun l b c e1 e2 e3 => ?_, fun l b c e1 e2 e3 => ?_, fun l b ds e1 e2 => ?_, m.tab, fun b ps e => ?_⟩
  · by_cases hb : b = a
    · subst hb; rw [upd_same] at e; cases e; exact h3
    · rw [upd_ne hb] at e; exact m.sub b u e
  · rw [upd_ne (fun (z : b = a) => h2 (z ▸ List.mem_of_getElem? e1))]
    exact m.fr l b c e1 e2 e3
  · obtain ⟨u, g1, g2⟩ := m.at_ l b c e1 e2 e3
    exact ⟨u, g1, g2.mono (Sub.new h1)⟩
  · obtain ⟨od, u, g1, g2⟩ := m.lk_ l b ds e1 e2
    exact ⟨od, u, Sub.new h1 _ _ g1, g2.mono (Sub.new h1)⟩
  · by_cases hb : b = a
    · subst hb; rw [upd_same] at e; cases e; exact ht ps rfl
    · rw [upd_ne hb] at e; exact m.nt b ps e
theorem MemR.grow {p : Addr} {o : HO} (m : MemR K G H i M) (hp : H p = none) : MemR K G (upd H p o) i M :=
  ⟨m.sub.trans (Sub.new hp), m.nd, m.len, m.fr, fun l a c e1 e2 e3 => let ⟨u, g1, g2⟩ := m.at_ l a c e1 e2 e3; ⟨u, Sub.new hp a u g1, g2⟩, m.lk_, m.tab.ext (Sub.new hp), m.nt⟩
theorem MemR.notin {p : Addr} (m : MemR K G H i M) (hp : H p = none) : p ∉ i := fun hm => by
  obtain ⟨l, hl, e⟩ := List.getElem_of_mem hm
  have e1 : i[l]? = some p := by rw [List.getElem?_eq_getElem hl, e]
  have hl2 : l < M.length := m.len ▸ hl
  cases hk : isLk M[l] with
  | false =>
    obtain ⟨o, g, _⟩ := m.at_ l p M[l] e1 (List.getElem?_eq_getElem hl2) hk
    rw [hp] at g
    cases g
  | true =>
    obtain ⟨ds, e2⟩ := isLk_eq hk
    obtain ⟨od, u, g, _⟩ := m.lk_ l p ds e1 (by rw [List.getElem?_eq_getElem hl2, e2])
    have := m.sub _ _ g
    rw [hp] at this
    cases this
theorem MemR.gfree {p : Addr} (m : MemR K G H i M) (hp : H p = none) : G p = none := m.sub.free hp
theorem MemR.newTup {p : Addr} {xs : List V} {b : Bool} {o : Obj} (m : MemR K G H i M) (hp : H p = none) : MemR K (upd G p (Lt.mkT b o xs)) (upd H p (Lt.mkT b o xs)) i M :=
  (m.grow hp).freeze (m.gfree hp) (m.notin hp) upd_same (by cases b <;> exact nofun)
theorem MemR.push {a : Addr} {o : HO} {c : PyData} (m : MemR K G H i M) (h1 : G a = none) (h2 : a ∉ i) (h3 : H a = some o) (hc : ObR K G o c) : MemR K G H (i ++ [a]) (M ++ [c]) := by
  have key : ∀ (l : Nat) (b : Addr) (d : PyData), (i ++ [a])[l]? = some b → (M ++ [c])[l]? = some d → (i[l]? = some b ∧ M[l]? = some d) ∨ (b = a ∧ d = c) := fun l b d e1 e2 => by
    by_cases hl : l < i.length
    · rw [List.getElem?_append_left hl] at e1
      rw [List.getElem?_append_left (m.len ▸ hl)] at e2
      exact .inl ⟨e1, e2⟩
    · have hlen : l < (i ++ [a]).length := (List.getElem?_eq_some_iff.mp e1).1
      have : l = i.length := by rw [List.length_append] at hlen; simp at hlen; omega
      subst this
      rw [List.getElem?_append_right (Nat.le_refl _)] at e1
      rw [m.len, List.getElem?_append_right (Nat.le_refl _)] at e2
      simp at e1 e2
      exact .inr ⟨e1.symm, e2.symm⟩
  refine ⟨m.sub, ?_, by simp [m.len], fun l b d e1 e2 e3 => ?_, fun l b d e1 e2 e3 => ?_, fun l b ds e1 e2 => ?_, m.tab, m.nt⟩
  · rw [List.nodup_append]
    refine ⟨m.nd, by simp, fun x hx y hy => ?_⟩
    have : y = a := by simpa using hy
    subst this
    exact fun z => h2 (z ▸ hx)
  · rcases key l b d e1 e2 with ⟨q1, q2⟩ | ⟨rfl, rfl⟩
    · exact m.fr l b d q1 q2 e3
    · exact h1
  · rcases key l b d e1 e2 with ⟨q1, q2⟩ | ⟨rfl, rfl⟩
    · exact m.at_ l b d q1 q2 e3
    · exact ⟨o, h3, hc⟩
  · rcases key l b _ e1 e2 with ⟨q1, q2⟩ | ⟨_, q2⟩
    · exact m.lk_ l b ds q1 q2
    · rw [← q2] at hc
      cases hc
theorem MemR.nlk {l : Nat} {a : Addr} {o0 : HO} {c0 : PyData} (m : MemR K G H i M) (h1 : i[l]? = some a) (h2 : M[l]? = some c0) (ho : H a = some o0) (hu : isFrz o0 = false) : isLk c0 = false := by
  cases hk : isLk c0 with
  | false => rfl
  | true =>
    obtain ⟨ds, e2⟩ := isLk_eq hk
    obtain ⟨od, u, g, _⟩ := m.lk_ l a ds h1 (by rw [h2, e2])
    have := m.sub _ _ g
    rw [ho] at this
    cases this
    cases hu
theorem MemR.same {l l' : Nat} {a : Addr} (m : MemR K G H i M) (h1 : i[l]? = some a) (h2 : i[l']? = some a) : l = l' := by
  obtain ⟨q1, e3⟩ := List.getElem?_eq_some_iff.mp h1
  obtain ⟨q2, e4⟩ := List.getElem?_eq_some_iff.mp h2
  exact (List.getElem_inj m.nd).mp (e3.trans e4.symm)
theorem MemR.write {l : Nat} {a : Addr} {o o0 : HO} {c : PyData} (m : MemR K G H i M) (h1 : i[l]? = some a) (ho : H a = some o0) (hc : ObR K G o c) (hu : isFrz o0 = false := by rfl) : MemR K G (upd H a o) i (M.set l c) := by
  have hlt : l < M.length := by rw [← m.len]; exact (List.getElem?_eq_some_iff.mp h1).1
  have hM : M[l]? = some M[l] := List.getElem?_eq_getElem hlt
  have hk := m.nlk h1 hM ho hu
  have hG := m.fr l a _ h1 hM hk
  have key : ∀ (l' : Nat) (b : Addr) (d : PyData), i[l']? = some b → (M.set l c)[l']? = some d → (b ≠ a ∧ M[l']? = some d) ∨ (b = a ∧ d = c) := fun l' b d e1 e2 => by
    by_cases hl : l = l'
    · subst hl
      rw [h1] at e1; cases e1
      rw [List.getElem?_set_self hlt] at e2
      cases e2
      exact .inr ⟨rfl, rfl⟩
    · rw [List.getElem?_set_ne hl] at e2
      exact .inl ⟨fun z => hl (m.same h1 (by rw [← z]; exact e1)), e2⟩
  refine ⟨m.sub.mut hG, m.nd, by rw [List.length_set]; exact m.len, fun l' b d e1 e2 e3 => ?_, fun l' b d e1 e2 e3 => ?_, fun l' b ds e1 e2 => ?_, ?tab, m.nt⟩
  case tab =>
    obtain ⟨u, g1, g2⟩ := m.at_ l a M[l] h1 hM hk
    exact m.tab.write g1 g2
  · rcases key l' b d e1 e2 with ⟨q1, q2⟩ | ⟨rfl, rfl⟩
    · exact m.fr l' b d e1 q2 e3
    · exact hG
  · rcases key l' b d e1 e2 with ⟨q1, q2⟩ | ⟨rfl, rfl⟩
    · rw [upd_ne q1]
      exact m.at_ l' b d e1 q2 e3
    · exact ⟨o, upd_same, hc⟩
  · rcases key l' b _ e1 e2 with ⟨q1, q2⟩ | ⟨_, q2⟩
    · exact m.lk_ l' b ds e1 q2
    · rw [← q2] at hc
      cases hc
theorem take_get {A : Type} {l : List A} {n j : Nat} {x : A} (h : (l.take n)[j]? = some x) : l[j]? = some x := by
  have hj : j < (l.take n).length := (List.getElem?_eq_some_iff.mp h).1
  have hn : j < n := by rw [List.length_take] at hj; omega
  rw [List.getElem?_take_of_lt hn] at h
  exact h
theorem MemR.cut {n : Nat} (m : MemR K G H i M) : MemR K G H (i.take n) (M.take n) :=
  ⟨m.sub, m.nd.sublist (List.take_sublist ..), by simp [m.len], fun l a c e1 e2 => m.fr l a c (take_get e1) (take_get e2), fun l a c e1 e2 => m.at_ l a c (take_get e1) (take_get e2), fun l a ds e1 e2 => m.lk_ l a ds (take_get e1) (take_get e2), m.tab, m.nt⟩
end
def ErrR (K : PySem.W.Frag) (G : Hp) (x : Xn) (d : Option Addr) : Prop :=
  (x.fs = [] ∧ d = none) ∨ ∃ (a : Addr) (vs : List (Str × V)), d = some a ∧ x.fs ≠ [] ∧ G a = some (.xd vs) ∧ vs.map (·.1) = x.fs.map (·.1) ∧ RpAll K G (vs.map (·.2)) (x.fs.map (·.2))
def XR (K : PySem.W.Frag) (G : Hp) (x : Xn) (cls : Value) (d : Option Addr) (H : Hp) : Prop :=
  cls = .ref (He.ga K x.cls) ∧ ErrR K G x d
def Ask {A B : Type} (K : PySem.W.Frag) (W : WX) (Rel : Hp → Hp → List Addr → B → A → Prop) (G : Hp) (i : List Addr) (s : L2.St) (Q : B → Hp → Prop) : Ans A → Prop
  | .val r M' => ∀ v G' H', Sub G G' → MemR K G' H' i M' → Rel G' H' i v r → Q v H'
  | .exc x M' => ∀ cls d G' H', Sub G G' → MemR K G' H' i M' → XR K G' x cls d H' → W cls d s H'
  | .bad => False
def tG {A B : Type} (K : PySem.W.Frag) (W : WX) (Rel : Hp → Hp → List Addr → B → A → Prop) (f : En → Mem → Ans A) : L2.St → Hp → (B → Hp → Prop) → Prop := fun s H Q =>
  ∃ (G : Hp) (i : List Addr) (e : En) (M : Mem), EnvR K G i e s ∧ MemR K G H i M ∧ Ask K W Rel G i s Q (f e M)
inductive RpWs (K : PySem.W.Frag) (G : Hp) (i : List Addr) : List V → List Wv → Prop
  | nil : RpWs K G i [] []
  | cons {v vs w ws} : RpW K G i v w → RpWs K G i vs ws → RpWs K G i (v :: vs) (w :: ws)
theorem RpWs.mono {K : PySem.W.Frag} {G G' : Hp} {i i' : List Addr} (e : Sub G G') (p : i <+: i') : ∀ {vs ws}, RpWs K G i vs ws → RpWs K G' i' vs ws
  | _, _, .nil => .nil
  | _, _, .cons h t => .cons (h.mono e p) (RpWs.mono e p t)
theorem RpWs.length {K : PySem.W.Frag} {G : Hp} {i : List Addr} : ∀ {vs ws}, RpWs K G i vs ws → vs.length = ws.length
  | _, _, .nil => rfl
  | _, _, .cons _ t => congrArg Nat.succ t.length
abbrev tD (K : PySem.W.Frag) (W : WX) (f : Den) : TE := tG K W (ResR K) f
abbrev tDA (K : PySem.W.Frag) (W : WX) (f : En → Mem → Ans (List Wv)) : TA := tG K W (fun G _ i => RpWs K G i) f
abbrev tDT (K : PySem.W.Frag) (W : WX) (f : DenT) : TT := tG K W (fun _ _ _ (b : Bool) a => b = a) f
def AskS (K : PySem.W.Frag) (W : WX) (G : Hp) (i : List Addr) (D : Ends) : SAns → Prop
  | .next e' M' => ∀ s' G' i' H', Sub G G' → i <+: i' → EnvR K G' i' e' s' → MemR K G' H' i' M' → D.nx s' H'
  | .ret r M' => ∀ v G' i' H', Sub G G' → i <+: i' → MemR K G' H' i' M' → ResR K G' H' i' v r → D.rt v H'
  | .brk e' M' => ∀ s' G' i' H', Sub G G' → i <+: i' → EnvR K G' i' e' s' → MemR K G' H' i' M' → D.bk s' H'
  | .cont e' M' => ∀ s' G' i' H', Sub G G' → i <+: i' → EnvR K G' i' e' s' → MemR K G' H' i' M' → D.ct s' H'
  | .exc x e' M' => ∀ cls d s' G' i' H', Sub G G' → i <+: i' → EnvR K G' i' e' s' → MemR K G' H' i' M' → XR K G' x cls d H' → W cls d s' H'
  | .bad => False
def tDS (K : PySem.W.Frag) (W : WX) (f : DenS) : TS := fun D s H => ∃ (G : Hp) (i : List Addr) (e : En) (M : Mem), EnvR K G i e s ∧ MemR K G H i M ∧ AskS K W G i D (f e M)
section
variable {K : PySem.W.Frag} {W : WX} {G G' H H' : Hp} {i i' : List Addr} {M M' : Mem} {e : En} {s : L2.St}
theorem Ask.mono {A B : Type} {Rel : Hp → Hp → List Addr → B → A → Prop} {a : Ans A} {Q : B → Hp → Prop} (e : Sub G G') (h : Ask K W Rel G i s Q a) : Ask K W Rel G' i s Q a := by
  cases a with
  | bad => exact h
  | exc x M' => exact fun cls d G2 H2 h1 h2 h3 => h cls d G2 H2 (e.trans h1) h2 h3
  | val r M1 => exact fun v G2 H2 h1 h2 h3 => h v G2 H2 (e.trans h1) h2 h3
theorem AskS.mono {a : SAns} {D : Ends} (e : Sub G G') (p : i <+: i') (h : AskS K W G i D a) : AskS K W G' i' D a := by
  cases a with
  | bad => exact h
  | next e' M' => exact fun s G2 i2 H2 h1 h2 h3 h4 => h s G2 i2 H2 (e.trans h1) (p.trans h2) h3 h4
  | ret r M' => exact fun s G2 i2 H2 h1 h2 h3 h4 => h s G2 i2 H2 (e.trans h1) (p.trans h2) h3 h4
  | brk e' M' => exact fun s G2 i2 H2 h1 h2 h3 h4 => h s G2 i2 H2 (e.trans h1) (p.trans h2) h3 h4
  | cont e' M' => exact fun s G2 i2 H2 h1 h2 h3 h4 => h s G2 i2 H2 (e.trans h1) (p.trans h2) h3 h4
  | exc x e' M' => exact fun cls d s G2 i2 H2 h1 h2 h3 h4 h5 => h cls d s G2 i2 H2 (e.trans h1) (p.trans h2) h3 h4 h5
theorem tG.go {A B A2 B2 : Type} {Rel : Hp → Hp → List Addr → B → A → Prop} {Rel2 : Hp → Hp → List Addr → B2 → A2 → Prop} {f : En → Mem → Ans A} {g : A → Mem → Ans A2} {P : B → Hp → Prop} {Q : B2 → Hp → Prop}
    (he : EnvR K G i e s) (hm : MemR K G H i M) (h : Ask K W Rel2 G i s Q ((f e M).bind g))
    (k : ∀ v r M1 G1 H1, Sub G G1 → MemR K G1 H1 i M1 → Rel G1 H1 i v r → Ask K W Rel2 G1 i s Q (g r M1) → P v H1) : tG K W Rel f s H P := by
  refine ⟨G, i, e, M, he, hm, ?_⟩
  cases q : f e M with
  | bad => rw [q] at h; exact h
  | exc x M' => rw [q] at h; exact h
  | val r M1 =>
    rw [q] at h
    exact fun v G' H' h1 h2 h3 => k v r M1 G' H' h1 h2 h3 (Ask.mono h1 h)
end
end Lf
set_option Elab.async false
set_option linter.all false
set_option maxRecDepth 100000
set_option maxHeartbeats 2000000
namespace Lf
open PySem PySem.Spec PyProof.Rows L2
theorem PE.weak {X : Cx} {e : Expr} {t t' : TE} (h : PE X e t) (w : ∀ s H Q, t' s H Q → t s H Q) : PE X e t' := ⟨fun pins s σ H Q I q => h.run pins s σ H Q I (w _ _ _ q)⟩
theorem PT.weak {X : Cx} {e : Expr} {t t' : TT} (h : PT X e t) (w : ∀ s H Q, t' s H Q → t s H Q) : PT X e t' := ⟨fun pins s σ H Q I q => h.run pins s σ H Q I (w _ _ _ q)⟩
theorem PA.weak {X : Cx} {e : List Expr} {t t' : TA} (h : PA X e t) (w : ∀ s H Q, t' s H Q → t s H Q) : PA X e t' := ⟨fun pos pins s σ H Q I q => h.run pos pins s σ H Q I (w _ _ _ q)⟩
theorem PS.weak {X : Cx} {e : Stmt} {t t' : TS} (h : PS X e t) (w : ∀ D s H, t' D s H → t D s H) : PS X e t' := ⟨fun pins s σ H Q I q => h.run pins s σ H Q I (w _ _ _ q)⟩
theorem PSs.weak {X : Cx} {e : List Stmt} {t t' : TS} (h : PSs X e t) (w : ∀ D s H, t' D s H → t D s H) : PSs X e t' := ⟨fun pins s σ H Q I q => h.run pins s σ H Q I (w _ _ _ q)⟩
@[simp] def Rv.fz : Rv → Wv
  | .w x => x
  | .own c => .d c
section
variable {K : PySem.W.Frag} {W : WX} {G G' H H' : Hp} {i : List Addr} {M M' : Mem} {e : En} {s : L2.St}
theorem ResR.fz {v : V} {r : Rv} (m : MemR K G H i M) (h : ResR K G H i v r) : ∃ G', Sub G G' ∧ MemR K G' H i M ∧ RpW K G' i v r.fz := by
  cases r with
  | w x => exact ⟨G, Sub.refl G, m, h⟩
  | own c =>
    obtain ⟨a, o, rfl, h1, h2, h3, h4⟩ := h
    exact ⟨upd G a o, Sub.new h1, m.freeze h1 h2 h3 h4.nt, (h4.mono (Sub.new h1)).rp upd_same⟩
theorem tD.goW {B2 A2 : Type} {Rel2 : Hp → Hp → List Addr → B2 → A2 → Prop} {f : Den} {g : Rv → Mem → Ans A2} {P : V → Hp → Prop} {Q : B2 → Hp → Prop}
    (he : EnvR K G i e s) (hm : MemR K G H i M) (h : Ask K W Rel2 G i s Q ((f e M).bind g))
    (k : ∀ v r M1 G1 H1, Sub G G1 → MemR K G1 H1 i M1 → RpW K G1 i v r.fz → Ask K W Rel2 G1 i s Q (g r M1) → P v H1) : tD K W f s H P :=
  tG.go he hm h fun v r M1 G1 H1 h1 h2 h3 h4 => by
    obtain ⟨G2, a, b, c⟩ := h3.fz h2
    exact k v r M1 G2 H1 (h1.trans a) b c (h4.mono a)
@[simp] def dVar (j : Nat) : Den := fun e M => match e[j]? with
  | some (some w) => .val (.w w) M
  | _ => .bad
@[simp] def dC (x : PyData) : Den := fun _ M => .val (.w (.d x)) M
@[simp] def dF (a : Addr) : Den := fun _ M => .val (.w (.f a)) M
end
section
variable {X : Cx} {W : WX}
theorem d_var {j : Nat} {x : Str} {pos : Pos} (hN : X.N[j]? = some x) (hv : Vis X.env.scope x) (hd : (x == ("__debug__" : Str)) = false := by decide) (hcd : (x == ("__classdict__" : Str)) = false := by decide) : PE X (.Name x pos) (tD X.K W (dVar j)) :=
  PE.weak (pe_var hN hv hd hcd) fun s H Q h => by
    obtain ⟨G, i, e, M, he, hm, h⟩ := h
    cases q : e[j]? with
    | none => simp [q] at h; exact h.elim
    | some o =>
      cases o with
      | none => simp [q] at h; exact h.elim
      | some w =>
        simp only [dVar, q] at h
        obtain ⟨v, h1, h2⟩ := he.2 j w q
        exact ⟨v, h1, h v G H (Sub.refl G) hm h2⟩
theorem d_int {n : Int} {j pos} : PE X (.Constant (.int n) j pos) (tD X.K W (dC (.int n))) := PE.weak pe_int fun s H Q h => by
  obtain ⟨G, i, e, M, he, hm, h⟩ := h
  exact h _ G H (Sub.refl G) hm (.int n)
theorem d_bl {n : Bool} {j pos} : PE X (.Constant (.bool n) j pos) (tD X.K W (dC (.bool n))) := PE.weak pe_bl fun s H Q h => by
  obtain ⟨G, i, e, M, he, hm, h⟩ := h
  exact h _ G H (Sub.refl G) hm (.bl n)
theorem d_non {j pos} : PE X (.Constant .none j pos) (tD X.K W (dC .none)) := PE.weak pe_non fun s H Q h => by
  obtain ⟨G, i, e, M, he, hm, h⟩ := h
  exact h _ G H (Sub.refl G) hm .non
theorem d_str {x : Str} {j pos} : PE X (.Constant (.str x) j pos) (tD X.K W (dC (.str x))) := PE.weak pe_str fun s H Q h => by
  obtain ⟨G, i, e, M, he, hm, h⟩ := h
  exact h _ G H (Sub.refl G) hm (.str x)
theorem d_gint {n : Int} {x : Str} {pos : Pos} (hg : Gl X x) (hm : ∃ t, X.mg x = some (.int n t)) (hd : (x == ("__debug__" : Str)) = false := by decide) : PE X (.Name x pos) (tD X.K W (dC (.int n))) := by
  obtain ⟨t, hm⟩ := hm
  exact PE.weak (pe_glob (v := .int n) hg hm ⟨t, rfl⟩ hd) fun s H Q h => by
    obtain ⟨G, i, e, M, he, hm, h⟩ := h
    exact h _ G H (Sub.refl G) hm (.int n)
@[simp] def aNil : En → Mem → Ans (List Wv) := fun _ M => .val [] M
@[simp] def aCons (f : Den) (g : En → Mem → Ans (List Wv)) : En → Mem → Ans (List Wv) := fun e M => (f e M).bind fun r M1 => (g e M1).bind fun rs M2 => .val (r.fz :: rs) M2
theorem a_nil : PA X [] (tDA X.K W aNil) := PA.weak pa_nil fun s H Q h => by
  obtain ⟨G, i, e, M, he, hm, h⟩ := h
  exact h [] G H (Sub.refl G) hm .nil
theorem a_cons {e : Expr} {es : List Expr} {f : Den} {g : En → Mem → Ans (List Wv)} (h1 : PE X e (tD X.K W f)) (h2 : PA X es (tDA X.K W g)) (hs : starEach (e :: es) X.env = (false, eval e X.env) :: starEach es X.env := by rfl) :
    PA X (e :: es) (tDA X.K W (aCons f g)) := PA.weak (pa_cons h1 h2 hs) fun s H Q h => by
  obtain ⟨G, i, e, M, he, hm, h⟩ := h
  refine tD.goW he hm h fun v r M1 G1 H1 s1 m1 r1 h => ?_
  refine tG.go (he.mono s1 (List.prefix_refl i)) m1 h fun vs rs M2 G2 H2 s2 m2 r2 h => ?_
  exact h _ G2 H2 (Sub.refl _) m2 (.cons (r1.mono s2 (List.prefix_refl i)) r2)
end
end Lf
set_option Elab.async false
set_option linter.all false
set_option maxRecDepth 100000
set_option maxHeartbeats 2000000
namespace Lf
open PySem PySem.Spec PyProof.Rows L2
def unlO : Option PyData → Option PyData
  | some c => if isLk c = true then none else some c
  | none => none
theorem unlkO_some {o : Option PyData} {c : PyData} (h : unlO o = some c) : o = some c ∧ isLk c = false := by
  unfold unlO at h
  split at h
  · split at h
    · cases h
    · rename_i hk
      cases h
      exact ⟨rfl, by simpa using hk⟩
  · cases h
@[simp] def Wv.rd (M : Mem) : Wv → Option PyData
  | .d x => some x
  | .r l => unlO M[l]?
  | .f _ => none
  | .k _ => none
  | .er _ _ _ => none
@[simp] def Wv.rdK (M : Mem) : Wv → Option PyData
  | .d x => some x
  | .r l => unlO M[l]?
  | .f _ => none
  | .k xs => some (.list xs)
  | .er _ _ _ => none
inductive Cn (K : PySem.W.Frag) (G H : Hp) : V → PyData → Prop
  | non : Cn K G H .non .none
  | bl (b : Bool) : Cn K G H (.bl b) (.bool b)
  | int (i : Int) : Cn K G H (.int i) (.int i)
  | str (x : Str) : Cn K G H (.str x) (.str x)
  | lst {a : Addr} {xs : List V} {ds : List PyData} : H a = some (.lst xs) → RpAll K G xs ds → Cn K G H (.ref a) (.list ds)
  | tup {a : Addr} {xs : List V} {ds : List PyData} : TupAt K G a xs ds → RpAll K G xs ds → Cn K G H (.ref a) (.tuple ds)
  | dT {a : Addr} {kvs : List (List Key × V)} {ds : List (PyData × PyData)} : H a = some (.dT kvs) → RpT K G kvs ds → Cn K G H (.ref a) (.dict ds)
  | dK {a : Addr} {kvs : List (Key × V)} {ds : List (PyData × PyData)} : H a = some (.dK kvs) → RpK K G kvs ds → Cn K G H (.ref a) (.dict ds)
inductive CnK (K : PySem.W.Frag) (G H : Hp) : V → PyData → Prop
  | of {v : V} {d : PyData} : Cn K G H v d → CnK K G H v d
  | lst {a : Addr} {xs : List V} {ds : List PyData} : SqL K H a xs → RpAll K G xs ds → CnK K G H (.ref a) (.list ds)
section
variable {K : PySem.W.Frag} {W : WX} {G G' H H' : Hp} {i : List Addr} {M M' : Mem} {e : En} {s : L2.St}
theorem Rp.cn (e : Sub G H) {v : V} {d : PyData} (h : Rp K G v d) : Cn K G H v d := by
  cases h with
  | non => exact .non
  | bl b => exact .bl b
  | int i => exact .int i
  | str x => exact .str x
  | lst h t => exact .lst (e _ _ h) t
  | tup h t => exact .tup h t
  | dT h t => exact .dT (e _ _ h) t
  | dK h t => exact .dK (e _ _ h) t
theorem ObR.cn {o : HO} {c : PyData} {a : Addr} (h : H a = some o) : ObR K G o c → Cn K G H (.ref a) c
  | .lst t => .lst h t
  | .dT t => .dT h t
  | .dK t => .dK h t
theorem RpW.cn (m : MemR K G H i M) {v : V} {w : Wv} {d : PyData} (h : RpW K G i v w) (q : w.rd M = some d) : Cn K G H v d := by
  cases w with
  | d x => cases q; exact Rp.cn m.sub h
  | r l =>
    obtain ⟨a, h1, rfl⟩ := h
    obtain ⟨o, h2, h3⟩ := m.at_ l a d h1 (unlkO_some q).1 (unlkO_some q).2
    exact h3.cn h2
  | f a => cases q
  | er a d fs => cases q
  | k xs => cases q
theorem RpW.cnK (m : MemR K G H i M) {v : V} {w : Wv} {d : PyData} (h : RpW K G i v w) (q : w.rdK M = some d) : CnK K G H v d := by
  cases w with
  | d x => cases q; exact .of (Rp.cn m.sub h)
  | r l => exact .of (RpW.cn (w := .r l) m h q)
  | f a => cases q
  | er a d fs => cases q
  | k xs =>
    cases q
    obtain ⟨a, vs, rfl, h1, h2⟩ := h
    exact .lst (m.sub.l h1) h2
mutual
theorem Rp.dp : ∀ {v : V} {d : PyData}, Rp K G v d → Sub G H → SeqAt.shaped d = true ∨ PyData.canLay0 d = true → Dp K H v d
  | _, _, .non, _, _ => .non
  | _, _, .bl b, _, _ => .bl b
  | _, _, .int i, _, _ => .int i
  | _, _, .str x, _, _ => .str x
  | _, _, .lst h t, e, q => .lst (.of (e _ _ h)) (RpAll.dp t e (by rcases q with q | q; exact SeqAt.canLay_of_shaped q; exact q))
  | _, _, .tup h t, e, q => .tup (e.t h) (RpAll.dp t e (by rcases q with q | q; exact SeqAt.canLay_of_shaped q; exact q))
  | _, _, .dT h t, e, q => by rcases q with q | q; (have := SeqAt.canLay_of_shaped q; simp [PyData.canLay0] at this); simp [PyData.canLay0] at q
  | _, _, .dK h t, e, q => by rcases q with q | q; (have := SeqAt.canLay_of_shaped q; simp [PyData.canLay0] at this); simp [PyData.canLay0] at q
theorem RpAll.dp : ∀ {v : List V} {d : List PyData}, RpAll K G v d → Sub G H → PyData.canLayAll0 d = true → DpAll K H v d
  | _, _, .nil, _, _ => .nil
  | _, _, .cons h t, e, q => by
    simp only [PyData.canLayAll0, Bool.and_eq_true] at q
    exact .cons (Rp.dp h e (.inr q.1)) (RpAll.dp t e q.2)
end
theorem Cn.dp {v : V} {d : PyData} (h : Cn K G H v d) (e : Sub G H) (q : SeqAt.shaped d = true) : Dp K H v d := by
  have q' := SeqAt.canLay_of_shaped q
  cases h with
  | non => exact .non
  | bl b => exact .bl b
  | int i => exact .int i
  | str x => exact .str x
  | lst h t => exact .lst (.of h) (t.dp e q')
  | tup h t => exact .tup (e.t h) (t.dp e q')
  | dT h t => simp [PyData.canLay0] at q'
  | dK h t => simp [PyData.canLay0] at q'
@[simp] def Wv.dat : Wv → Option PyData
  | .d x => some x
  | _ => none
@[simp] def dats : List Wv → Option (List PyData)
  | [] => some []
  | w :: ws => match w.dat, dats ws with
    | some x, some xs => some (x :: xs)
    | _, _ => none
theorem RpWs.all {vs : List V} : ∀ {ws : List Wv} {ds : List PyData}, RpWs K G i vs ws → dats ws = some ds → RpAll K G vs ds := by
  intro ws
  induction ws generalizing vs with
  | nil => intro ds h q; cases h; cases q; exact .nil
  | cons w ws ih =>
    intro ds h q
    cases h with
    | cons h t =>
      unfold dats at q
      cases w with
      | d x =>
        cases z : dats ws with
        | none => simp [z] at q
        | some xs => simp [z] at q; subst q; exact .cons h (ih t z)
      | r l => simp at q
      | f a => simp at q
      | er a d fs => simp at q
      | k xs => simp at q
def tupR (ws : List Wv) (M : Mem) : Ans Rv := match dats ws with
  | some ds => if ds.length ≤ sizeLine then .val (.w (.d (.tuple ds))) M else .bad
  | none => .bad
def lstR (ws : List Wv) (M : Mem) : Ans Rv := match dats ws with
  | some ds => if ds.length ≤ sizeLine then .val (.own (.list ds)) M else .bad
  | none => .bad
@[simp] def dTup (f : En → Mem → Ans (List Wv)) : Den := fun e M => (f e M).bind tupR
@[simp] def dLst (f : En → Mem → Ans (List Wv)) : Den := fun e M => (f e M).bind lstR
end
section
variable {X : Cx} {W : WX}
theorem d_tup {es : List Expr} {f : En → Mem → Ans (List Wv)} {n : Nat} {pos : Pos} (h : PA X es (tDA X.K W f)) : PE X (.Tuple es n pos) (tD X.K W (dTup f)) := by
  refine PE.weak (Lt.pe_tupX h) fun s H Q q => ?_
  obtain ⟨G, i, e, M, he, hm, q⟩ := q
  refine tG.go he hm q fun vs ws M1 G1 H1 s1 m1 r1 q => ?_
  unfold tupR at q
  cases z : dats ws with
  | none => rw [z] at q; exact q.elim
  | some ds =>
    rw [z] at q
    simp only at q
    split at q
    · rename_i hl
      have ra := r1.all z
      refine ⟨ra.length ▸ hl, needF ds, fun p o ho hp => ?_⟩
      exact q (.ref p) _ _ (Sub.new (m1.gfree hp)) (m1.newTup hp) (.tup (.new ho) (ra.mono (Sub.new (m1.gfree hp))))
    · exact q.elim
theorem d_lst {es : List Expr} {f : En → Mem → Ans (List Wv)} {pos : Pos} (h : PA X es (tDA X.K W f)) : PE X (.List es pos) (tD X.K W (dLst f)) := by
  refine PE.weak (pe_lst h) fun s H Q q => ?_
  obtain ⟨G, i, e, M, he, hm, q⟩ := q
  refine tG.go he hm q fun vs ws M1 G1 H1 s1 m1 r1 q => ?_
  unfold lstR at q
  cases z : dats ws with
  | none => rw [z] at q; exact q.elim
  | some ds =>
    rw [z] at q
    simp only at q
    split at q
    · rename_i hl
      have ra := r1.all z
      refine ⟨ra.length ▸ hl, fun p hp => ?_⟩
      exact q (.ref p) G1 _ (Sub.refl _) (m1.grow hp) ⟨p, _, rfl, m1.gfree hp, m1.notin hp, upd_same, .lst ra⟩
    · exact q.elim
end
end Lf
set_option Elab.async false
set_option linter.all false
set_option maxRecDepth 100000
set_option maxHeartbeats 2000000
namespace Lf
open PySem PySem.Spec PyProof.Rows L2
def OpD (X : Cx) (r : R2) (F : PyData → PyData → Option Rv) : Prop :=
  ∀ (G H : Hp) (i : List Addr) (M : Mem) (v u : V) (d1 d2 : PyData) (res : Rv) (Q : VK), MemR X.K G H i M → Cn X.K G H v d1 → Cn X.K G H u d2 → F d1 d2 = some res →
    (∀ v' G' H', Sub G G' → MemR X.K G' H' i M → ResR X.K G' H' i v' res → Q v' H') → r v u H Q
@[simp] def opR (F : PyData → PyData → Option Rv) (x y : Wv) (M : Mem) : Ans Rv := match x.rd M, y.rd M with
  | some a, some b => (match F a b with
    | some r => .val r M
    | none => .bad)
  | _, _ => .bad
@[simp] def dBin (F : PyData → PyData → Option Rv) (f g : Den) : Den := fun e M => (f e M).bind fun x M1 => (g e M1).bind fun y M2 => opR F x.fz y.fz M2
section
variable {X : Cx} {W : WX} {f g : Den} {F : PyData → PyData → Option Rv} {a b : Expr} {pos : Pos}
theorem opR_use {K : PySem.W.Frag} {G : Hp} {i : List Addr} {M : Mem} {s : L2.St} {x y : Wv} {Q : VK} (q : Ask K W (ResR K) G i s Q (opR F x y M)) :
    ∃ d1 d2 r, x.rd M = some d1 ∧ y.rd M = some d2 ∧ F d1 d2 = some r ∧ ∀ v' G' H', Sub G G' → MemR K G' H' i M → ResR K G' H' i v' r → Q v' H' := by
  unfold opR at q
  cases h1 : x.rd M with
  | none => rw [h1] at q; exact q.elim
  | some d1 =>
    cases h2 : y.rd M with
    | none => rw [h1, h2] at q; exact q.elim
    | some d2 =>
      rw [h1, h2] at q
      simp only at q
      cases h3 : F d1 d2 with
      | none => rw [h3] at q; exact q.elim
      | some r => rw [h3] at q; exact ⟨d1, d2, r, rfl, rfl, h3, q⟩
theorem bin_use {r : R2} (od : OpD X r F) (s : L2.St) (H : Hp) (Q : VK) (q : tD X.K W (dBin F f g) s H Q) : tOp r (tD X.K W f) (tD X.K W g) s H Q := by
  obtain ⟨G, i, e, M, he, hm, q⟩ := q
  refine tD.goW he hm q fun v x M1 G1 H1 s1 m1 r1 q => ?_
  refine tD.goW (he.mono s1 (List.prefix_refl i)) m1 q fun u y M2 G2 H2 s2 m2 r2 q => ?_
  obtain ⟨d1, d2, z, h1, h2, h3, h4⟩ := opR_use q
  exact od G2 H2 i M2 v u d1 d2 z Q m2 ((r1.mono s2 (List.prefix_refl i)).cn m2 h1) (r2.cn m2 h2) h3 h4
theorem d_op {op : Operator} {r : R2} (ho : OpR X (binaryOp op) r) (od : OpD X r F) (ha : PE X a (tD X.K W f)) (hb : PE X b (tD X.K W g)) : PE X (.BinOp a op b pos) (tD X.K W (dBin F f g)) :=
  PE.weak (pe_op ho ha hb) (bin_use od)
theorem d_cmpR {op : CmpOp} {r : R2} (ho : OpR X (compareOp op) r) (od : OpD X r F) (ha : PE X a (tD X.K W f)) (hb : PE X b (tD X.K W g)) (hm : behindInMarks op b = false) : PE X (.Compare a [op] [b] pos) (tD X.K W (dBin F f g)) :=
  PE.weak (pe_cmpR ho ha hb hm) (bin_use od)
theorem OpD.or {r r' : R2} {F F' : PyData → PyData → Option Rv} (h : OpD X r F) (h' : OpD X r' F') : OpD X (fun x y H Q => r x y H Q ∨ r' x y H Q) (fun a b => (F a b).or (F' a b)) := by
  intro G H i M v u d1 d2 res Q m c1 c2 e q
  replace e : (F d1 d2).or (F' d1 d2) = some res := e
  cases z : F d1 d2 with
  | some y => rw [z] at e; cases e; exact .inl (h G H i M v u d1 d2 _ Q m c1 c2 z q)
  | none => rw [z] at e; exact .inr (h' G H i M v u d1 d2 _ Q m c1 c2 e q)
@[simp] def vI (n : Int) : Rv := .w (.d (.int n))
@[simp] def vB (b : Bool) : Rv := .w (.d (.bool b))
theorem odI {C : Int → Int → Prop} {g : Int → Int → Int} {F : PyData → PyData → Option Rv} (hF : ∀ d1 d2 r, F d1 d2 = some r → ∃ a b, d1 = .int a ∧ d2 = .int b ∧ C a b ∧ r = vI (g a b)) : OpD X (rI C fun a b => .int (g a b)) F := by
  intro G H i M v u d1 d2 res Q m c1 c2 e q
  obtain ⟨a, b, rfl, rfl, hc, rfl⟩ := hF _ _ _ e
  cases c1; cases c2
  exact ⟨a, b, rfl, rfl, hc, q _ G H (Sub.refl G) m (.int _)⟩
theorem odI0 {g : Int → Int → Int} {F : PyData → PyData → Option Rv} (hF : ∀ d1 d2 r, F d1 d2 = some r → ∃ a b, d1 = .int a ∧ d2 = .int b ∧ r = vI (g a b)) : OpD X (rI0 fun a b => .int (g a b)) F := by
  intro G H i M v u d1 d2 res Q m c1 c2 e q
  obtain ⟨a, b, rfl, rfl, rfl⟩ := hF _ _ _ e
  cases c1; cases c2
  exact ⟨a, b, rfl, rfl, q _ G H (Sub.refl G) m (.int _)⟩
theorem odB0 {g : Int → Int → Bool} {F : PyData → PyData → Option Rv} (hF : ∀ d1 d2 r, F d1 d2 = some r → ∃ a b, d1 = .int a ∧ d2 = .int b ∧ r = vB (g a b)) : OpD X (rI0 fun a b => .bl (g a b)) F := by
  intro G H i M v u d1 d2 res Q m c1 c2 e q
  obtain ⟨a, b, rfl, rfl, rfl⟩ := hF _ _ _ e
  cases c1; cases c2
  exact ⟨a, b, rfl, rfl, q _ G H (Sub.refl G) m (.bl _)⟩
@[simp] def int2 (g : Int → Int → Option Rv) : PyData → PyData → Option Rv
  | .int a, .int b => g a b
  | _, _ => none
theorem int2_ok {g : Int → Int → Option Rv} {d1 d2 : PyData} {r : Rv} (h : int2 g d1 d2 = some r) : ∃ a b, d1 = .int a ∧ d2 = .int b ∧ g a b = some r := by
  cases d1 <;> cases d2 <;> first | exact ⟨_, _, rfl, rfl, h⟩ | cases h
@[simp] def subF (x y : PyData) : Option Rv := int2 (fun a b => some (vI (a - b))) x y
@[simp] def fdivF (x y : PyData) : Option Rv := int2 (fun a b => if 0 < b ∧ b.natAbs.log2 < 9000 then some (vI (a / b)) else none) x y
@[simp] def modF (x y : PyData) : Option Rv := int2 (fun a b => if 0 < b then some (vI (a % b)) else none) x y
@[simp] def powF (x y : PyData) : Option Rv := int2 (fun a b => if 0 ≤ b ∧ b ≤ 1000000 ∧ a.natAbs < 2 ^ 64 then some (vI (a ^ b.toNat)) else none) x y
@[simp] def shlF (x y : PyData) : Option Rv := int2 (fun a b => if 0 ≤ b ∧ b ≤ 1000000 ∧ a.natAbs < 2 ^ 64 then some (vI (a * 2 ^ b.toNat)) else none) x y
@[simp] def shrF (x y : PyData) : Option Rv := int2 (fun a b => if 0 ≤ b then some (vI (a / 2 ^ b.toNat)) else none) x y
@[simp] def xorF (x y : PyData) : Option Rv := int2 (fun a b => some (vI (Builtin.bitXor a b))) x y
theorem if_some {A : Type} {p : Prop} [Decidable p] {a b : A} (h : (if p then some a else none) = some b) : p ∧ a = b := by
  split at h
  · exact ⟨by assumption, Option.some.inj h⟩
  · cases h
theorem d_sub (ha : PE X a (tD X.K W f)) (hb : PE X b (tD X.K W g)) : PE X (.BinOp a .Sub b pos) (tD X.K W (dBin subF f g)) :=
  d_op op_sub (odI0 fun _ _ _ h => by obtain ⟨x, y, h1, h2, h3⟩ := int2_ok h; exact ⟨x, y, h1, h2, (Option.some.inj h3).symm⟩) ha hb
theorem d_fdiv (ha : PE X a (tD X.K W f)) (hb : PE X b (tD X.K W g)) : PE X (.BinOp a .FloorDiv b pos) (tD X.K W (dBin fdivF f g)) :=
  d_op op_fdivW (odI fun _ _ _ h => by obtain ⟨x, y, h1, h2, h3⟩ := int2_ok h; obtain ⟨c, h4⟩ := if_some h3; exact ⟨x, y, h1, h2, c, h4.symm⟩) ha hb
theorem d_mod (ha : PE X a (tD X.K W f)) (hb : PE X b (tD X.K W g)) : PE X (.BinOp a .Mod b pos) (tD X.K W (dBin modF f g)) :=
  d_op op_mod (odI fun _ _ _ h => by obtain ⟨x, y, h1, h2, h3⟩ := int2_ok h; obtain ⟨c, h4⟩ := if_some h3; exact ⟨x, y, h1, h2, c, h4.symm⟩) ha hb
theorem d_pow (ha : PE X a (tD X.K W f)) (hb : PE X b (tD X.K W g)) : PE X (.BinOp a .Pow b pos) (tD X.K W (dBin powF f g)) :=
  d_op op_pow (odI fun _ _ _ h => by obtain ⟨x, y, h1, h2, h3⟩ := int2_ok h; obtain ⟨c, h4⟩ := if_some h3; exact ⟨x, y, h1, h2, c, h4.symm⟩) ha hb
@[simp] def addF : PyData → PyData → Option Rv
  | .int a, .int b => some (vI (a + b))
  | .str a, .str b => if a.length + b.length ≤ sizeLine then some (.w (.d (.str (a ++ b)))) else none
  | .tuple a, .tuple b => if a.length + b.length ≤ sizeLine then some (.w (.d (.tuple (a ++ b)))) else none
  | .list a, .list b => if a.length + b.length ≤ sizeLine then some (.own (.list (a ++ b))) else none
  | _, _ => none
def rAddAll (X : Cx) : R2 := fun x y H Q => (rI0 (fun a b => V.int (a + b)) x y H Q ∨ ((∃ i j, x = .str i ∧ y = .str j ∧ i.length + j.length ≤ sizeLine ∧ Q (.str (i ++ j)) H) ∨ (Lt.rCatX X.K x y H Q ∨ rCat x y H Q)))
theorem od_add : OpD X (rAddAll X) addF := by
  intro G H i M v u d1 d2 res Q m c1 c2 e q
  cases c1 with
  | int a =>
    cases c2 <;> first | cases e | skip
    exact .inl ⟨_, _, rfl, rfl, q _ G H (Sub.refl G) m (.int _)⟩
  | str a =>
    cases c2 <;> first | (simp [addF] at e; done) | skip
    obtain ⟨c, h4⟩ := if_some e
    subst h4
    exact .inr (.inl ⟨_, _, rfl, rfl, c, q _ G H (Sub.refl G) m (.str _)⟩)
  | @tup _ _ ds1 h t =>
    cases c2 <;> first | (simp [addF] at e; done) | skip
    rename_i ds2 h2 t2
    obtain ⟨c, h4⟩ := if_some e
    subst h4
    refine .inr (.inr (.inl ⟨_, _, _, _, rfl, rfl, m.sub.t h, m.sub.t h2, by rw [t.length, t2.length]; exact c, fun e0 => ?_, fun e0 e1 => ?_, fun e0 e1 => ⟨needF (ds1 ++ ds2), fun p o ho hp => ?_⟩⟩))
    · subst e0
      cases t
      exact q _ G H (Sub.refl G) m (.tup h2 t2)
    · subst e1
      cases t2
      rw [List.append_nil] at q
      exact q _ G H (Sub.refl G) m (.tup h t)
    · exact q (.ref p) _ _ (Sub.new (m.gfree hp)) (m.newTup hp) (.tup (.new ho) ((t.append t2).mono (Sub.new (m.gfree hp))))
  | lst h t =>
    cases c2 <;> first | (simp [addF] at e; done) | skip
    rename_i h2 t2
    obtain ⟨c, h4⟩ := if_some e
    subst h4
    refine .inr (.inr (.inr ⟨_, _, _, _, rfl, rfl, h, h2, by rw [t.length, t2.length]; exact c, fun p hp => ?_⟩))
    exact q (.ref p) G _ (Sub.refl G) (m.grow hp) ⟨p, _, rfl, m.gfree hp, m.notin hp, upd_same, .lst (t.append t2)⟩
  | _ => cases c2 <;> simp [addF] at e
theorem d_add (ha : PE X a (tD X.K W f)) (hb : PE X b (tD X.K W g)) : PE X (.BinOp a .Add b pos) (tD X.K W (dBin addF f g)) :=
  d_op (OpR.or op_add (OpR.or op_add_str (OpR.or Lt.op_catX op_cat))) od_add ha hb
@[simp] def mulF : PyData → PyData → Option Rv
  | .int a, .int b => if a.natAbs < 2 ^ 64 ∨ b.natAbs < 2 ^ 64 then some (vI (a * b)) else none
  | .list a, .int b => if b.natAbs < 2 ^ 63 ∧ a.length * b.toNat ≤ sizeLine then some (.own (.list (List.replicate b.toNat a).flatten)) else none
  | _, _ => none
theorem RpAll.rep {K : PySem.W.Frag} {G : Hp} {vs : List V} {ds : List PyData} (h : RpAll K G vs ds) : ∀ n : Nat, RpAll K G (List.replicate n vs).flatten (List.replicate n ds).flatten
  | 0 => .nil
  | n + 1 => by
    rw [List.replicate_succ, List.replicate_succ, List.flatten_cons, List.flatten_cons]
    exact h.append (RpAll.rep h n)
theorem od_mul : OpD X (fun x y H Q => rI CMul (fun a b => V.int (a * b)) x y H Q ∨ rRep x y H Q) mulF := by
  intro G H i M v u d1 d2 res Q m c1 c2 e q
  cases c1 with
  | int a =>
    cases c2 <;> first | (simp [mulF] at e; done) | skip
    obtain ⟨c, h4⟩ := if_some e
    subst h4
    exact .inl ⟨_, _, rfl, rfl, (by show (-(2 ^ 64) < _ ∧ _) ∨ (-(2 ^ 64) < _ ∧ _); omega), q _ G H (Sub.refl G) m (.int _)⟩
  | lst h t =>
    cases c2 <;> first | (simp [mulF] at e; done) | skip
    obtain ⟨⟨c1, c3⟩, h4⟩ := if_some e
    subst h4
    refine .inr ⟨_, _, _, rfl, rfl, h, by omega, by omega, by rw [t.length]; exact c3, fun p hp => ?_⟩
    exact q (.ref p) G _ (Sub.refl G) (m.grow hp) ⟨p, _, rfl, m.gfree hp, m.notin hp, upd_same, .lst (t.rep _)⟩
  | _ => cases c2 <;> simp [mulF] at e
theorem d_mul (ha : PE X a (tD X.K W f)) (hb : PE X b (tD X.K W g)) : PE X (.BinOp a .Mult b pos) (tD X.K W (dBin mulF f g)) :=
  d_op (OpR.or op_mul op_rep) od_mul ha hb
@[simp] def dNeg (f : Den) : Den := fun e M => (f e M).bind fun x M1 => match x.fz with
  | .d (.int n) => .val (vI (-n)) M1
  | _ => .bad
theorem d_neg (ha : PE X a (tD X.K W f)) : PE X (.UnaryOp .USub a pos) (tD X.K W (dNeg f)) := PE.weak (pe_un un_neg ha) fun s H Q q => by
  obtain ⟨G, i, e, M, he, hm, q⟩ := q
  refine tD.goW he hm q fun v x M1 G1 H1 s1 m1 r1 q => ?_
  cases hx : x.fz with
  | d y =>
    rw [hx] at q r1
    cases y with
    | int n =>
      cases r1
      exact ⟨n, rfl, q _ G1 H1 (Sub.refl _) m1 (.int _)⟩
    | _ => exact q.elim
  | _ => rw [hx] at q; exact q.elim
@[simp] def eqF (a b : PyData) : Option Rv := if SeqAt.shaped a = true ∧ SeqAt.shaped b = true then some (vB (PyData.eqv a b)) else none
@[simp] def neF (a b : PyData) : Option Rv := if SeqAt.shaped a = true ∧ SeqAt.shaped b = true then some (vB (!PyData.eqv a b)) else none
theorem od_eq : OpD X (rEqD X.K) eqF := by
  intro G H i M v u d1 d2 res Q m c1 c2 e q
  obtain ⟨⟨h1, h2⟩, h4⟩ := if_some e
  subst h4
  exact ⟨d1, d2, c1.dp m.sub h1, c2.dp m.sub h2, h1, h2, q _ G H (Sub.refl G) m (.bl _)⟩
theorem od_ne : OpD X (rNeD X.K) neF := by
  intro G H i M v u d1 d2 res Q m c1 c2 e q
  obtain ⟨⟨h1, h2⟩, h4⟩ := if_some e
  subst h4
  exact ⟨d1, d2, c1.dp m.sub h1, c2.dp m.sub h2, h1, h2, q _ G H (Sub.refl G) m (.bl _)⟩
theorem d_eq {k : Nat} (hr : Room k X.A) (ha : PE X a (tD X.K W f)) (hb : PE X b (tD X.K W g)) : PE X (.Compare a [.Eq] [b] pos) (tD X.K W (dBin eqF f g)) := d_cmpR (op_eqD hr.units) od_eq ha hb (nobehind _ (by decide) (by decide))
@[simp] def intsD : List PyData → Option (List Int)
  | [] => some []
  | .int n :: r => (match intsD r with
    | some ns => some (n :: ns)
    | none => none)
  | _ :: _ => none
theorem ints_eq : ∀ {ds : List PyData} {ns : List Int}, intsD ds = some ns → ds = ns.map .int
  | [], _, h => by cases h; rfl
  | d :: r, ns, h => by
    cases d with
    | int n =>
      cases z : intsD r with
      | none => simp [intsD, z] at h
      | some ms =>
        simp [intsD, z] at h
        subst h
        rw [ints_eq z]; rfl
    | _ => simp [intsD] at h
theorem ints_map : ∀ ns : List Int, intsD (ns.map .int) = some ns
  | [] => rfl
  | n :: r => by show (match intsD (r.map .int) with | some ns => some (n :: ns) | none => none) = some (n :: r); rw [ints_map r]
theorem RpAll.ints_eq {K : PySem.W.Frag} {G : Hp} : ∀ {vs : List V} {ns : List Int}, RpAll K G vs (ns.map .int) → vs = ns.map V.int
  | _, [], h => by cases h; rfl
  | _, n :: r, h => by
    cases h with
    | cons h1 h2 => cases h1; rw [RpAll.ints_eq h2]; rfl
@[simp] def ltF : PyData → PyData → Option Rv
  | .int a, .int b => some (vB (decide (a < b)))
  | .tuple a, .tuple b => (match intsD a, intsD b with
    | some x, some y => some (vB (HT.lexLt x y))
    | _, _ => none)
  | _, _ => none
theorem od_lt : OpD X (fun x y H Q => rI0 (fun a b => V.bl (decide (a < b))) x y H Q ∨ rLtT X.K x y H Q) ltF := by
  intro G H i M v u d1 d2 res Q m c1 c2 e q
  cases c1 with
  | int a =>
    cases c2 <;> first | (simp [ltF] at e; done) | skip
    simp only [ltF, Option.some.injEq] at e
    subst e
    exact .inl ⟨_, _, rfl, rfl, q _ G H (Sub.refl G) m (.bl _)⟩
  | tup h t =>
    cases c2 <;> first | (simp [ltF] at e; done) | skip
    rename_i ds1 _ _ ds2 h2 t2
    cases z1 : intsD ds1 with
    | none => simp [ltF, z1] at e
    | some x =>
      cases z2 : intsD ds2 with
      | none => simp [ltF, z1, z2] at e
      | some y =>
        simp only [ltF, z1, z2, Option.some.injEq] at e
        subst e
        rw [ints_eq z1] at t
        rw [ints_eq z2] at t2
        have e1 := t.ints_eq
        have e2 := t2.ints_eq
        subst e1 e2
        exact .inr ⟨_, _, x, y, rfl, rfl, m.sub.t h, m.sub.t h2, q _ G H (Sub.refl G) m (.bl _)⟩
  | _ => cases c2 <;> simp [ltF] at e
theorem d_lt {k : Nat} (hr : Room k X.A) (ha : PE X a (tD X.K W f)) (hb : PE X b (tD X.K W g)) : PE X (.Compare a [.Lt] [b] pos) (tD X.K W (dBin ltF f g)) := d_cmpR (OpR.or op_lt (op_ltT hr.units0)) od_lt ha hb (nobehind _ (by decide) (by decide))
@[simp] def leF (x y : PyData) : Option Rv := int2 (fun a b => some (vB (decide (a ≤ b)))) x y
@[simp] def gtF (x y : PyData) : Option Rv := int2 (fun a b => some (vB (decide (b < a)))) x y
@[simp] def geF (x y : PyData) : Option Rv := int2 (fun a b => some (vB (decide (b ≤ a)))) x y
@[simp] def lt0F (x y : PyData) : Option Rv := int2 (fun a b => some (vB (decide (a < b)))) x y
theorem od_le : OpD X (rI0 fun a b => .bl (decide (a ≤ b))) leF := odB0 fun _ _ _ h => by obtain ⟨x, y, h1, h2, h3⟩ := int2_ok h; exact ⟨x, y, h1, h2, (Option.some.inj h3).symm⟩
theorem od_gt : OpD X (rI0 fun a b => .bl (decide (b < a))) gtF := odB0 fun _ _ _ h => by obtain ⟨x, y, h1, h2, h3⟩ := int2_ok h; exact ⟨x, y, h1, h2, (Option.some.inj h3).symm⟩
theorem od_ge : OpD X (rI0 fun a b => .bl (decide (b ≤ a))) geF := odB0 fun _ _ _ h => by obtain ⟨x, y, h1, h2, h3⟩ := int2_ok h; exact ⟨x, y, h1, h2, (Option.some.inj h3).symm⟩
theorem d_ge (ha : PE X a (tD X.K W f)) (hb : PE X b (tD X.K W g)) : PE X (.Compare a [.GtE] [b] pos) (tD X.K W (dBin geF f g)) := d_cmpR op_ge od_ge ha hb (nobehind _ (by decide) (by decide))
@[simp] def dChain (F F' : PyData → PyData → Option Rv) (f g h : Den) : Den := fun e M => (f e M).bind fun x M1 => (g e M1).bind fun y M2 => (opR F x.fz y.fz M2).bind fun z M3 => match z with
  | .w (.d (.bool true)) => (h e M3).bind fun w M4 => opR F' y.fz w.fz M4
  | .w (.d (.bool false)) => .val (vB false) M3
  | _ => .bad
theorem opR_bind {K : PySem.W.Frag} {G : Hp} {i : List Addr} {M : Mem} {s : L2.St} {x y : Wv} {A B : Type} {Rel : Hp → Hp → List Addr → B → A → Prop} {Q : B → Hp → Prop} {k : Rv → Mem → Ans A} (q : Ask K W Rel G i s Q ((opR F x y M).bind k)) :
    ∃ d1 d2 r, x.rd M = some d1 ∧ y.rd M = some d2 ∧ F d1 d2 = some r ∧ Ask K W Rel G i s Q (k r M) := by
  unfold opR at q
  cases h1 : x.rd M with
  | none => rw [h1] at q; exact q.elim
  | some d1 =>
    cases h2 : y.rd M with
    | none => rw [h1, h2] at q; exact q.elim
    | some d2 =>
      rw [h1, h2] at q
      simp only at q
      cases h3 : F d1 d2 with
      | none => rw [h3] at q; exact q.elim
      | some r => rw [h3] at q; exact ⟨d1, d2, r, rfl, rfl, h3, q⟩
theorem d_chain {op op' : CmpOp} {r r' : R2} {F F' : PyData → PyData → Option Rv} {c : Expr} {h : Den} (ho : OpR X (compareOp op) r) (ho' : OpR X (compareOp op') r') (od : OpD X r F) (od' : OpD X r' F') (ha : PE X a (tD X.K W f)) (hb : PE X b (tD X.K W g)) (hc : PE X c (tD X.K W h))
    (hm : lastMarks [op, op'] [b, c] = false := by with_unfolding_all rfl) : PE X (.Compare a [op, op'] [b, c] pos) (tD X.K W (dChain F F' f g h)) := PE.weak (pe_chain ho ho' ha hb hc hm) fun s H Q q => by
  obtain ⟨G, i, e, M, he, hm, q⟩ := q
  refine tD.goW he hm q fun v x M1 G1 H1 s1 m1 r1 q => ?_
  refine tD.goW (he.mono s1 (List.prefix_refl i)) m1 q fun u y M2 G2 H2 s2 m2 r2 q => ?_
  obtain ⟨d1, d2, z, h1, h2, h3, q⟩ := opR_bind q
  refine od G2 H2 i M2 v u d1 d2 z _ m2 ((r1.mono s2 (List.prefix_refl i)).cn m2 h1) (r2.cn m2 h2) h3 fun v' G3 H3 s3 m3 r3 => ?_
  have q := Ask.mono s3 q
  cases z with
  | own _ => exact q.elim
  | w z =>
    cases z with
    | d z =>
      cases z with
      | bool k =>
        cases r3
        refine ⟨k, rfl, ?_⟩
        cases k with
        | true =>
          show tD X.K W h s H3 _
          refine tD.goW ((he.mono s1 (List.prefix_refl i)).mono (s2.trans s3) (List.prefix_refl i)) m3 q fun w x M4 G4 H4 s4 m4 r4 q => ?_
          obtain ⟨d1, d2, z, h1, h2, h3, h4⟩ := opR_use q
          exact od' G4 H4 i M4 u w d1 d2 z Q m4 ((r2.mono (s3.trans s4) (List.prefix_refl i)).cn m4 h1) (r4.cn m4 h2) h3 h4
        | false =>
          show Q (.bl false) H3
          exact q _ G3 H3 (Sub.refl _) m3 (.bl false)
      | _ => exact q.elim
    | _ => exact q.elim
@[simp] def Wv.isN : Wv → Bool
  | .d .none => true
  | _ => false
theorem RpW.isN {K : PySem.W.Frag} {G : Hp} {i : List Addr} {v : V} {w : Wv} (h : RpW K G i v w) : decide (v = .non) = w.isN := by
  cases w with
  | d x =>
    have h : Rp K G v x := h
    cases h <;> rfl
  | r l => obtain ⟨a, _, rfl⟩ := h; rfl
  | f a => obtain rfl : v = .ref a := h; rfl
  | er a d fs => obtain ⟨rfl, _⟩ := h; rfl
  | k xs => obtain ⟨a, _, rfl, _⟩ := h; rfl
@[simp] def dIsN (f : Den) : Den := fun e M => (f e M).bind fun x M1 => .val (vB x.fz.isN) M1
@[simp] def dNotN (f : Den) : Den := fun e M => (f e M).bind fun x M1 => .val (vB (!x.fz.isN)) M1
theorem d_isN {j pos'} (ha : PE X a (tD X.K W f)) : PE X (.Compare a [.Is] [.Constant .none j pos'] pos) (tD X.K W (dIsN f)) := PE.weak (pe_cmp (pc_isN ha)) fun s H Q q => by
  obtain ⟨G, i, e, M, he, hm, q⟩ := q
  refine tD.goW he hm q fun v x M1 G1 H1 s1 m1 r1 q => ?_
  show Q (.bl (decide (v = .non))) H1
  rw [r1.isN]
  exact q _ G1 H1 (Sub.refl _) m1 (.bl _)
end
end Lf
set_option Elab.async false
set_option linter.all false
set_option maxRecDepth 100000
set_option maxHeartbeats 2000000
namespace Lf
open PySem PySem.Spec PyProof.Rows L2
section
variable {X : Cx} {W : WX} {f g h : Den} {F : PyData → PyData → Option Rv} {a b c : Expr} {pos : Pos}
def rInAll (X : Cx) (neg : Bool) : R2 := fun x y H Q => ∃ d ds, Dp X.K H x d ∧ (Dp X.K H y (.list ds) ∨ Dp X.K H y (.tuple ds)) ∧ SeqAt.shaped d = true ∧ PyData.canLayAll0 ds = true ∧ Q (.bl (if neg then !ds.any (fun z => PyData.eqv z d) else ds.any fun z => PyData.eqv z d)) H
theorem op_inAll (hu : X.A.units + 65 < cLine) : OpR X (compareOp .In) (rInAll X false) := by
  intro pins s σ H x y v u Q I rx ry q
  obtain ⟨d, ds, hd, he, sd, se, q⟩ := q
  obtain ⟨as, r1⟩ := Dp.reads I d x v hd rx
  rcases he with he | he
  · obtain ⟨bs, r2⟩ := Dp.reads I (.list ds) y u he ry
    exact SeqAt.in_list_reads r2 r1 se (SeqAt.canLay_of_shaped sd) (room_in_shaped sd hu) ⟨.bl _, H, I, rfl, q⟩
  · obtain ⟨bs, r2⟩ := Dp.reads I (.tuple ds) y u he ry
    exact SeqAt.in_tuple_reads r2 r1 se (SeqAt.canLay_of_shaped sd) (room_in_shaped sd hu) ⟨.bl _, H, I, rfl, q⟩
@[simp] def inF (neg : Bool) (x y : PyData) : Option Rv := match y with
  | .list ds => if SeqAt.shaped x = true ∧ PyData.canLayAll0 ds = true then some (vB (if neg then !ds.any (fun z => PyData.eqv z x) else ds.any fun z => PyData.eqv z x)) else none
  | .tuple ds => if SeqAt.shaped x = true ∧ PyData.canLayAll0 ds = true then some (vB (if neg then !ds.any (fun z => PyData.eqv z x) else ds.any fun z => PyData.eqv z x)) else none
  | _ => none
theorem od_in {neg : Bool} : OpD X (rInAll X neg) (inF neg) := by
  intro G H i M v u d1 d2 res Q m c1 c2 e q
  cases c2 with
  | lst h t =>
    obtain ⟨⟨h1, h2⟩, h4⟩ := if_some e
    subst h4
    exact ⟨d1, _, c1.dp m.sub h1, .inl (.lst (.of h) (t.dp m.sub h2)), h1, h2, q _ G H (Sub.refl G) m (.bl _)⟩
  | tup h t =>
    obtain ⟨⟨h1, h2⟩, h4⟩ := if_some e
    subst h4
    exact ⟨d1, _, c1.dp m.sub h1, .inr (.tup (m.sub.t h) (t.dp m.sub h2)), h1, h2, q _ G H (Sub.refl G) m (.bl _)⟩
  | _ => simp [inF] at e
theorem units65 {k : Nat} {A : Around} (hr : Room k A) : A.units + 65 < cLine := by have := hr.un; omega
theorem d_in {k : Nat} (hr : Room k X.A) (ha : PE X a (tD X.K W f)) (hb : PE X b (tD X.K W g)) (hm : behindInMarks .In b = false := by rfl) : PE X (.Compare a [.In] [b] pos) (tD X.K W (dBin (inF false) f g)) := d_cmpR (op_inAll (units65 hr)) od_in ha hb hm
@[simp] def asB (r : Rv) (M : Mem) : Ans Bool := match r with
  | .w (.d (.bool b)) => .val b M
  | _ => .bad
@[simp] def tst (f : Den) : DenT := fun e M => (f e M).bind asB
theorem asB_use {K : PySem.W.Frag} {G : Hp} {i : List Addr} {M : Mem} {s : L2.St} {r : Rv} {A B : Type} {Rel : Hp → Hp → List Addr → B → A → Prop} {Q : B → Hp → Prop} {k : Bool → Mem → Ans A} (q : Ask K W Rel G i s Q ((asB r M).bind k)) :
    ∃ b, r = vB b ∧ Ask K W Rel G i s Q (k b M) := by
  cases r with
  | own c => exact q.elim
  | w x =>
    cases x with
    | d y =>
      cases y with
      | bool b => exact ⟨b, rfl, q⟩
      | _ => exact q.elim
    | _ => exact q.elim
theorem asB_last {K : PySem.W.Frag} {G : Hp} {i : List Addr} {M : Mem} {s : L2.St} {r : Rv} {B : Type} {Rel : Hp → Hp → List Addr → B → Bool → Prop} {Q : B → Hp → Prop} (q : Ask K W Rel G i s Q (asB r M)) :
    ∃ b, r = vB b ∧ Ask K W Rel G i s Q (.val b M) := by
  refine asB_use (k := fun b M => .val b M) ?_
  have e0 : ((asB r M).bind fun b M => Ans.val b M) = asB r M := by cases asB r M <;> rfl
  rw [e0]; exact q
theorem bl_of {K : PySem.W.Frag} {G H : Hp} {i : List Addr} {v : V} {b : Bool} (h : ResR K G H i v (vB b)) : v = .bl b := by
  have h : Rp K G v (.bool b) := h
  cases h
  rfl
@[simp] def dAnd (f g : Den) : Den := fun e M => (f e M).bind fun x M1 => (asB x M1).bind fun b M2 => if b = true then g e M2 else .val (vB false) M2
@[simp] def dOr (f g : Den) : Den := fun e M => (f e M).bind fun x M1 => (asB x M1).bind fun b M2 => if b = true then .val (vB true) M2 else g e M2
@[simp] def dNot (f : Den) : Den := fun e M => (f e M).bind fun x M1 => (asB x M1).bind fun b M2 => .val (vB (!b)) M2
theorem d_one {op} (ha : PE X a (tD X.K W f)) : PE X (.BoolOp op [a] pos) (tD X.K W f) := pe_one ha
theorem d_and {rest : List Expr} (ha : PE X a (tD X.K W f)) (hb : PE X (.BoolOp .And (b :: rest) pos) (tD X.K W g)) : PE X (.BoolOp .And (a :: b :: rest) pos) (tD X.K W (dAnd f g)) := PE.weak (pe_and ha hb) fun s H Q q => by
  obtain ⟨G, i, e, M, he, hm, q⟩ := q
  refine tG.go he hm q fun v x M1 G1 H1 s1 m1 r1 q => ?_
  obtain ⟨b, rfl, q⟩ := asB_use q
  refine ⟨b, bl_of r1, ?_⟩
  cases b with
  | true => exact ⟨G1, i, e, M1, he.mono s1 (List.prefix_refl i), m1, q⟩
  | false => exact q _ G1 H1 (Sub.refl _) m1 (.bl _)
theorem d_not (ha : PE X a (tD X.K W f)) : PE X (.UnaryOp .Not a pos) (tD X.K W (dNot f)) := PE.weak (pe_not ha) fun s H Q q => by
  obtain ⟨G, i, e, M, he, hm, q⟩ := q
  refine tG.go he hm q fun v x M1 G1 H1 s1 m1 r1 q => ?_
  obtain ⟨b, rfl, q⟩ := asB_use q
  exact ⟨b, bl_of r1, q _ G1 H1 (Sub.refl _) m1 (.bl _)⟩
variable {tf tg : DenT}
theorem t_val (ha : PE X a (tD X.K W f)) (hw : ∀ whole, isTrue a X.env whole = (do let v ← whole; standAt a.pos; holding [v] (truthy v)) := by intro _; rfl) : PT X a (tDT X.K W (tst f)) := PT.weak (pt_val ha hw) fun s H Q q => by
  obtain ⟨G, i, e, M, he, hm, q⟩ := q
  refine tG.go he hm q fun v x M1 G1 H1 s1 m1 r1 q => ?_
  obtain ⟨b, rfl, q⟩ := asB_last q
  exact ⟨b, bl_of r1, q _ G1 H1 (Sub.refl _) m1 rfl⟩
theorem t_cmpR {op : CmpOp} {r : R2} (ho : OpR X (compareOp op) r) (od : OpD X r F) (ha : PE X a (tD X.K W f)) (hb : PE X b (tD X.K W g)) (hm : behindInMarks op b = false) : PT X (.Compare a [op] [b] pos) (tDT X.K W (tst (dBin F f g))) :=
  PT.weak (pt_cmpR ho ha hb hm) fun s H Q q => by
    refine bin_use od s H _ ?_
    obtain ⟨G, i, e, M, he, hm, q⟩ := q
    refine tG.go he hm q fun v x M1 G1 H1 s1 m1 r1 q => ?_
    obtain ⟨b, rfl, q⟩ := asB_last q
    exact ⟨b, bl_of r1, q _ G1 H1 (Sub.refl _) m1 rfl⟩
theorem t_eq {k : Nat} (hr : Room k X.A) (ha : PE X a (tD X.K W f)) (hb : PE X b (tD X.K W g)) : PT X (.Compare a [.Eq] [b] pos) (tDT X.K W (tst (dBin eqF f g))) := t_cmpR (op_eqD hr.units) od_eq ha hb (nobehind _ (by decide) (by decide))
theorem t_ne {k : Nat} (hr : Room k X.A) (ha : PE X a (tD X.K W f)) (hb : PE X b (tD X.K W g)) : PT X (.Compare a [.NotEq] [b] pos) (tDT X.K W (tst (dBin neF f g))) := t_cmpR (op_neD hr.units) od_ne ha hb (nobehind _ (by decide) (by decide))
theorem t_lt {k : Nat} (hr : Room k X.A) (ha : PE X a (tD X.K W f)) (hb : PE X b (tD X.K W g)) : PT X (.Compare a [.Lt] [b] pos) (tDT X.K W (tst (dBin ltF f g))) := t_cmpR (OpR.or op_lt (op_ltT hr.units0)) od_lt ha hb (nobehind _ (by decide) (by decide))
theorem t_gt (ha : PE X a (tD X.K W f)) (hb : PE X b (tD X.K W g)) : PT X (.Compare a [.Gt] [b] pos) (tDT X.K W (tst (dBin gtF f g))) := t_cmpR op_gt od_gt ha hb (nobehind _ (by decide) (by decide))
theorem t_isN {j pos'} (ha : PE X a (tD X.K W f)) : PT X (.Compare a [.Is] [.Constant .none j pos'] pos) (tDT X.K W (tst (dIsN f))) := PT.weak (pt_cmp (pc_isN ha)) fun s H Q q => by
  obtain ⟨G, i, e, M, he, hm, q⟩ := q
  have e0 : ∀ e M, tst (dIsN f) e M = (f e M).bind fun x M1 => .val x.fz.isN M1 := fun e M => by
    simp only [tst, dIsN]
    cases f e M <;> rfl
  rw [e0] at q
  refine tD.goW he hm q fun v x M1 G1 H1 s1 m1 r1 q => ?_
  exact ⟨_, rfl, by rw [r1.isN]; exact q _ G1 H1 (Sub.refl _) m1 rfl⟩
theorem t_chain {op op' : CmpOp} {r r' : R2} {F F' : PyData → PyData → Option Rv} (ho : OpR X (compareOp op) r) (ho' : OpR X (compareOp op') r') (od : OpD X r F) (od' : OpD X r' F') (ha : PE X a (tD X.K W f)) (hb : PE X b (tD X.K W g)) (hc : PE X c (tD X.K W h))
    (hm : lastMarks [op, op'] [b, c] = false := by with_unfolding_all rfl) : PT X (.Compare a [op, op'] [b, c] pos) (tDT X.K W (tst (dChain F F' f g h))) := PT.weak (pt_chain ho ho' ha hb hc hm) fun s H Q q => by
  obtain ⟨G, i, e, M, he, hm, q⟩ := q
  simp only [tst] at q
  have key : tD X.K W (dChain F F' f g h) s H (fun x H' => ∃ k, x = .bl k ∧ Q k H') := by
    refine tG.go he hm q fun v x M1 G1 H1 s1 m1 r1 q => ?_
    obtain ⟨b, rfl, q⟩ := asB_last q
    exact ⟨b, bl_of r1, q _ G1 H1 (Sub.refl _) m1 rfl⟩
  obtain ⟨G, i, e, M, he, hm, q⟩ := key
  refine tD.goW he hm q fun v x M1 G1 H1 s1 m1 r1 q => ?_
  refine tD.goW (he.mono s1 (List.prefix_refl i)) m1 q fun u y M2 G2 H2 s2 m2 r2 q => ?_
  obtain ⟨d1, d2, z, h1, h2, h3, q⟩ := opR_bind q
  refine od G2 H2 i M2 v u d1 d2 z _ m2 ((r1.mono s2 (List.prefix_refl i)).cn m2 h1) (r2.cn m2 h2) h3 fun v' G3 H3 s3 m3 r3 => ?_
  have q := Ask.mono s3 q
  cases z with
  | own _ => exact q.elim
  | w z =>
    cases z with
    | d z =>
      cases z with
      | bool k =>
        cases r3
        refine ⟨k, rfl, ?_⟩
        cases k with
        | true =>
          show tD X.K W h s H3 _
          refine tD.goW ((he.mono s1 (List.prefix_refl i)).mono (s2.trans s3) (List.prefix_refl i)) m3 q fun w x M4 G4 H4 s4 m4 r4 q => ?_
          obtain ⟨d1, d2, z, h1, h2, h3, h4⟩ := opR_use q
          exact od' G4 H4 i M4 u w d1 d2 z _ m4 ((r2.mono (s3.trans s4) (List.prefix_refl i)).cn m4 h1) (r4.cn m4 h2) h3 h4
        | false => exact q _ G3 H3 (Sub.refl _) m3 (.bl false)
      | _ => exact q.elim
    | _ => exact q.elim
@[simp] def tAndD (f g : DenT) : DenT := fun e M => (f e M).bind fun b M1 => if b = true then g e M1 else .val false M1
@[simp] def tOrD (f g : DenT) : DenT := fun e M => (f e M).bind fun b M1 => if b = true then .val true M1 else g e M1
@[simp] def tNotD (f : DenT) : DenT := fun e M => (f e M).bind fun b M1 => .val (!b) M1
theorem w_and1 (ha : PT X a (tDT X.K W tf)) : PW X (.BoolOp .And [a] pos) (tDT X.K W tf) := pw_and1 ha
theorem w_or1 (ha : PT X a (tDT X.K W tf)) : PW X (.BoolOp .Or [a] pos) (tDT X.K W tf) := pw_or1 ha
theorem PW.weak {e : Expr} {t t' : TT} (h : PW X e t) (w : ∀ s H Q, t' s H Q → t s H Q) : PW X e t' := ⟨fun wh pins s σ H Q I q => h.run wh pins s σ H Q I (w _ _ _ q)⟩
theorem w_and {rest : List Expr} (ha : PT X a (tDT X.K W tf)) (hb : PW X (.BoolOp .And (b :: rest) pos) (tDT X.K W tg)) : PW X (.BoolOp .And (a :: b :: rest) pos) (tDT X.K W (tAndD tf tg)) := PW.weak (pw_and ha hb) fun s H Q q => by
  obtain ⟨G, i, e, M, he, hm, q⟩ := q
  refine tG.go he hm q fun v x M1 G1 H1 s1 m1 r1 q => ?_
  subst r1
  cases v with
  | true => exact ⟨G1, i, e, M1, he.mono s1 (List.prefix_refl i), m1, q⟩
  | false => exact q _ G1 H1 (Sub.refl _) m1 rfl
theorem w_or {rest : List Expr} (ha : PT X a (tDT X.K W tf)) (hb : PW X (.BoolOp .Or (b :: rest) pos) (tDT X.K W tg)) : PW X (.BoolOp .Or (a :: b :: rest) pos) (tDT X.K W (tOrD tf tg)) := PW.weak (pw_or ha hb) fun s H Q q => by
  obtain ⟨G, i, e, M, he, hm, q⟩ := q
  refine tG.go he hm q fun v x M1 G1 H1 s1 m1 r1 q => ?_
  subst r1
  cases v with
  | false => exact ⟨G1, i, e, M1, he.mono s1 (List.prefix_refl i), m1, q⟩
  | true => exact q _ G1 H1 (Sub.refl _) m1 rfl
theorem t_not (ha : PT X a (tDT X.K W tf)) : PT X (.UnaryOp .Not a pos) (tDT X.K W (tNotD tf)) := PT.weak (pt_not ha) fun s H Q q => by
  obtain ⟨G, i, e, M, he, hm, q⟩ := q
  refine tG.go he hm q fun v x M1 G1 H1 s1 m1 r1 q => ?_
  subst r1
  exact q _ G1 H1 (Sub.refl _) m1 rfl
@[simp] def dIf (t : DenT) (f g : Den) : Den := fun e M => (t e M).bind fun b M1 => if b = true then f e M1 else g e M1
theorem d_if (hc : PT X c (tDT X.K W tf)) (ha : PE X a (tD X.K W f)) (hb : PE X b (tD X.K W g)) : PE X (.IfExp c a b pos) (tD X.K W (dIf tf f g)) := PE.weak (pe_ifExp hc ha hb) fun s H Q q => by
  obtain ⟨G, i, e, M, he, hm, q⟩ := q
  refine tG.go he hm q fun v x M1 G1 H1 s1 m1 r1 q => ?_
  subst r1
  cases v with
  | true => exact ⟨G1, i, e, M1, he.mono s1 (List.prefix_refl i), m1, q⟩
  | false => exact ⟨G1, i, e, M1, he.mono s1 (List.prefix_refl i), m1, q⟩
theorem atI_all {K : PySem.W.Frag} {G : Hp} {vs : List V} {ds : List PyData} {n : Int} {d : PyData} (t : RpAll K G vs ds) (e : atI ds n = some d) : ∃ v, atI vs n = some v ∧ Rp K G v d := by
  unfold atI at e ⊢
  rw [t.length]
  cases z : ixN ds.length n with
  | none => rw [z] at e; cases e
  | some j =>
    rw [z] at e
    obtain ⟨v, h1, h2⟩ := t.get (show ds[j]? = some d from e)
    exact ⟨v, h1, h2⟩
@[simp] def ixR (x y : Wv) (M : Mem) : Ans Rv := match x.rdK M, y with
  | some (.list ds), .d (.int n) => (match atI ds n with
    | some d => .val (.w (.d d)) M
    | none => .bad)
  | some (.tuple ds), .d (.int n) => (match atI ds n with
    | some d => .val (.w (.d d)) M
    | none => .bad)
  | some (.str z), .d (.int n) => if z.length ≤ sizeLine then (match atI z.cps.toList n with
    | some c => .val (.w (.d (.str ⟨#[c]⟩))) M
    | none => .bad) else .bad
  | _, _ => .bad
@[simp] def dIx (f g : Den) : Den := fun e M => (f e M).bind fun x M1 => (g e M1).bind fun y M2 => ixR x.fz y.fz M2
theorem d_ix (ha : PE X a (tD X.K W f)) (hb : PE X b (tD X.K W g)) (hs : PlainIx b := by exact fun _ _ => rfl) : PE X (.Subscript a b pos) (tD X.K W (dIx f g)) := PE.weak (pe_ix ix_seq ha hb hs) fun s H Q q => by
  obtain ⟨G, i, e, M, he, hm, q⟩ := q
  refine tD.goW he hm q fun v x M1 G1 H1 s1 m1 r1 q => ?_
  refine tD.goW (he.mono s1 (List.prefix_refl i)) m1 q fun u y M2 G2 H2 s2 m2 r2 q => ?_
  unfold ixR at q
  cases h1 : x.fz.rdK M2 with
  | none => rw [h1] at q; exact q.elim
  | some d1 =>
    rw [h1] at q
    have c1 := (r1.mono s2 (List.prefix_refl i)).cnK m2 h1
    cases hy : y.fz with
    | d d2 =>
      rw [hy] at q r2
      cases d2 with
      | int n =>
        cases r2
        cases d1 with
        | list ds =>
          simp only at q
          have : ∃ p xs, v = .ref p ∧ SqL X.K H2 p xs ∧ RpAll X.K G2 xs ds := by
            cases c1 with
            | of c => cases c with
              | lst h t => exact ⟨_, _, rfl, .of h, t⟩
            | lst h t => exact ⟨_, _, rfl, h, t⟩
          obtain ⟨p, xs, rfl, hq, t⟩ := this
          cases z : atI ds n with
          | none => rw [z] at q; exact q.elim
          | some d =>
            rw [z] at q
            obtain ⟨w, e1, e2⟩ := atI_all t z
            exact .inl ⟨p, xs, n, w, rfl, rfl, hq, e1, q w G2 H2 (Sub.refl _) m2 e2⟩
        | tuple ds =>
          simp only at q
          have : ∃ p xs, v = .ref p ∧ SqT X.K H2 p xs ∧ RpAll X.K G2 xs ds := by
            cases c1 with
            | of c => cases c with
              | tup h t => exact ⟨_, _, rfl, m2.sub.t h, t⟩
          obtain ⟨p, xs, rfl, hq, t⟩ := this
          cases z : atI ds n with
          | none => rw [z] at q; exact q.elim
          | some d =>
            rw [z] at q
            obtain ⟨w, e1, e2⟩ := atI_all t z
            exact .inr (.inl ⟨p, xs, n, w, rfl, rfl, hq, e1, q w G2 H2 (Sub.refl _) m2 e2⟩)
        | str zz =>
          simp only at q
          have : v = .str zz := by
            cases c1 with
            | of c => cases c with
              | str => rfl
          subst this
          split at q
          · rename_i hz
            cases z : atI zz.cps.toList n with
            | none => rw [z] at q; exact q.elim
            | some d =>
              rw [z] at q
              exact .inr (.inr ⟨zz, n, d, rfl, rfl, hz, z, q _ G2 H2 (Sub.refl _) m2 (.str _)⟩)
          · exact q.elim
        | _ => exact q.elim
      | _ => cases d1 <;> exact q.elim
    | _ => rw [hy] at q; cases d1 <;> exact q.elim
end
end Lf
set_option Elab.async false
set_option linter.all false
set_option maxRecDepth 100000
set_option maxHeartbeats 4000000
namespace PySem.SeqAt
theorem call_tuple_lt {A : Around} {s : Shared} {prog : Program} {w : World} {E : Value → Shared → Prop} {Q : Value → Shared → Prop} {l b : Addr} {items items2 : Array Value} {e r : Nat → Bool} (hl : s.heap.IsTuple l items) (hb : s.heap.IsTuple b items2)
    (he : ∀ j (h1 : j < items.size) (h2 : j < items2.size), EqAt A.in1 s items[j] items2[j] (e j)) (hr : ∀ j (h1 : j < items.size) (h2 : j < items2.size), e j = false → RcLt A.in1 s items[j] items2[j] (r j))
    (h : Q (.bool (firstLt e r (decide (items.size < items2.size)) (List.range (min items.size items2.size)))) s) : wpAny (model prog w) A (call (.builtin "tuple.__lt__") [.ref l, .ref b]) Q E s := by
  obtain ⟨⟨cls, dd, data, sl⟩, ho, hc, n, hd⟩ := id hl
  obtain ⟨⟨cls2, dd2, data2, sl2⟩, ho2, hc2, n2, hd2⟩ := id hb
  simp only at hc hd hc2 hd2
  subst hc hd hc2 hd2
  exact call_meets F.slot_tuple_lt ⟨_, ho, rfl⟩ F.entry_tuple_lt (F.args_tuple_lt_2 _ _) (tuple_ltAt l b items items2 n n2 dd dd2 sl sl2 e r) ⟨ho, ho2, he, hr, h⟩
end PySem.SeqAt
namespace PySem.W
open PySem PySem.Calls PySem.SeqAt PyProof.Rows
section
variable {prog : Program} {w : World} {A : Around} {E : Value → Shared → Prop} {s : Shared}
theorem oneLt_tuples {xs ys : List PyData} {a b : Value} {as bs : List Addr} {Q : Bool → Shared → Prop} (ra : Reads s.heap a (.tuple xs) as) (rb : Reads s.heap b (.tuple ys) bs) (hal : alikeAll xs ys = true)
    (hu : A.units + min (PyData.tuple xs).depth (PyData.tuple ys).depth < cLine) (hq : Q (dataLt (.tuple xs) (.tuple ys)) s) : wpAny (model prog w) A (oneLt' true a b) Q E s := by
  cases ra with
  | @tuple l o vs n _ as₁ h1 h2 h3 h4 =>
    cases rb with
    | @tuple l' o' vs' n' _ bs₁ k1 k2 k3 k4 =>
      have n1 : vs.size = xs.length := by simpa using ReadsAll.length _ _ _ h4
      have n2 : vs'.size = ys.length := by simpa using ReadsAll.length _ _ _ k4
      rw [dataLt_tuple, ← firstLt_toks xs ys hal, ← n1, ← n2] at hq
      rw [oneLt'_eq]
      simp only [if_true]
      refine wpAny_bind (wpAny_cRoomFor (room_here hu) ?_)
      refine wpAny_bind (wpAny_callSpecialIfBound?_slot (T := "tuple") ⟨_, h1, h2⟩ F.slot_tuple_lt (call_tuple_lt (e := pairEq xs ys) (r := fun j => dataLt (xs.getD j .none) (ys.getD j .none)) ⟨_, h1, h2, _, h3⟩ ⟨_, k1, k2, _, k3⟩ (fun j j1 j2 => ?_) (fun j j1 j2 hj => ?_) ?_))
      · have := eqAt_alikeAll xs ys A.in1 s vs.toList vs'.toList _ _ h4 k4 hal (room_in hu) j (by simpa using j1) (by simpa using j2)
        simpa using this
      · have := rcLt_alikeAll xs ys A.in1 s vs.toList vs'.toList _ _ h4 k4 hal (room_in hu) j (by simpa using j1) (by simpa using j2) hj
        simpa using this
      · exact wpAny_truthy_bool hq
theorem firsts_tups {M : Model} : ∀ {vs : List Value} {ds : List PyData} {Q : List (Option Value) → Shared → Prop}, EachIs (fun v d => ∃ as, Reads s.heap v d as) vs ds → (∀ d, d ∈ ds → ∃ r, d = .tuple r) →
    (∀ fs : List (Option Value), fs.length = ds.length → (∀ (j : Nat) (f : Option Value) (d : PyData), fs[j]? = some f → ds[j]? = some d → (f.isSome = true ↔ d ≠ .tuple [])) → Q fs s) → wpAny M A (vs.mapM firstOfTuple') Q E s
  | _, _, Q, .nil, _, h => by rw [List.mapM_nil]; exact wpAny_pure (h [] rfl (by intro j f d e; simp at e))
  | _, _, Q, .cons (b := d) ⟨as, r⟩ t, ht, h => by
    obtain ⟨xs, rfl⟩ := ht d List.mem_cons_self
    rw [List.mapM_cons]
    refine wpAny_bind ?_
    rw [kas_first_eq]
    cases r with
    | @tuple a o vs n _ as₁ h1 h2 h3 h4 =>
      refine wpAny_bind (Looks.here (show Looks M s.heap (typeOf (.ref a)) o.cls from (Looks.ld h1).andThen .now) ?_)
      rw [h2, if_neg (by first | decide | simp)]
      refine wpAny_bind (listItems_at h1 h3 (wpAny_pure ?_))
      refine wpAny_bind (firsts_tups (Q := fun bs s' => wpAny M A (pure (vs[0]? :: bs)) Q E s') t (fun d hd => ht d (List.mem_cons_of_mem _ hd)) fun fs hl hf => wpAny_pure (h _ (by simp [hl]) fun j f d e1 e2 => ?_))
      cases j with
      | zero =>
        simp at e1 e2
        subst e1 e2
        have hn : vs.size = xs.length := by simpa using SeqAt.ReadsAll.length _ _ _ h4
        cases xs with
        | nil => simp at hn; simp [hn]
        | cons x r => simp at hn; simp; omega
      | succ j => exact hf j f d (by simpa using e1) (by simpa using e2)
theorem SortsAt.tups {vs : List Value} {ds : List PyData} (e : EachIs (fun v d => ∃ as, Reads s.heap v d as) vs ds) (hal : AllAlike ds) (ht : ∀ d, d ∈ ds → ∃ r, d = .tuple r) (hu : ∀ d, d ∈ ds → A.units + d.depth < cLine) : SortsAt prog w A s (dataKind s.heap ds) vs := by
  by_cases hne : ∀ d, d ∈ ds → ∃ x r, d = .tuple (x :: r)
  · exact SortsAt.data e hal (.inl hne) hu
  have room : ∀ {d d' : PyData}, d ∈ ds → A.units + min d.depth d'.depth < cLine := fun {d d'} hd => Nat.lt_of_le_of_lt (Nat.add_le_add_left (Nat.min_le_left _ _) _) (hu d hd)
  have hnn : ∀ d, d ∈ ds → d ≠ .none := fun d hd z => by obtain ⟨r, hr⟩ := ht d hd; rw [z] at hr; cases hr
  obtain ⟨d0, hd0, he0⟩ : ∃ d0 ∈ ds, d0 = .tuple [] := by
    refine Classical.byContradiction fun z => hne fun d hd => ?_
    obtain ⟨r, hr⟩ := ht d hd
    cases r with
    | nil => exact absurd ⟨d, hd, hr⟩ z
    | cons x r => exact ⟨x, r, hr⟩
  have hlen := e.length
  have notAll : ∀ fs : List (Option Value), fs.length = ds.length → (∀ (j : Nat) (f : Option Value) (d : PyData), fs[j]? = some f → ds[j]? = some d → (f.isSome = true ↔ d ≠ .tuple [])) → ¬ (fs.toArray.all (·.isSome)) = true := by
    intro fs hl hf z
    obtain ⟨j, hj, ej⟩ := List.getElem_of_mem hd0
    have hj2 : j < fs.length := by omega
    have h1 := hf j fs[j] ds[j] (List.getElem?_eq_getElem hj2) (List.getElem?_eq_getElem hj)
    rw [List.all_toArray, List.all_eq_true] at z
    exact h1.mp (z _ (List.getElem_mem hj2)) (by rw [ej, he0])
  refine ⟨fun v hv => ?_, ?_⟩
  · obtain ⟨d, hd, as, r⟩ := e.left v hv
    exact ⟨_, dataKind_some hal hd r⟩
  · by_cases hfirst : ds[0]? = some (.tuple [])
    · refine ⟨oneType', fun E x y a b Q ha hb hq => ?_, fun h2 E Q hq => ?_⟩
      · obtain ⟨d, as, hd, ra, rfl⟩ := dataKind_inv ha
        obtain ⟨d', as', hd', rb, rfl⟩ := dataKind_inv hb
        rw [keyLt'_oneType]
        have h1 := hal d hd d' hd'
        have h2 := room (d' := d') hd
        obtain ⟨r1, rfl⟩ := ht d hd
        obtain ⟨r2, rfl⟩ := ht d' hd'
        exact oneLt_tuples ra rb (by simpa [alike] using h1) h2 hq
      · rw [keyKind'_eq, List.mapM_toArray, map_eq_pure_bind]
        refine wpAny_bind (wpAny_bind (firsts_tups e ht fun fs hl hf => wpAny_pure ?_))
        have hall := notAll fs hl hf
        rw [if_neg hall]
        have h0 : ¬ ((fs.toArray[0]?.bind id).isSome = true) := by
          have hl0 : 0 < fs.length := by
            have : 0 < ds.length := (List.getElem?_eq_some_iff.mp hfirst).1
            omega
          have h1 := hf 0 fs[0] (.tuple []) (List.getElem?_eq_getElem hl0) hfirst
          intro z
          have : fs[0].isSome = true := by
            have e1 : fs.toArray[0]? = some fs[0] := by simp [hl0]
            rw [e1] at z
            simpa using z
          exact absurd rfl (h1.mp this)
        rw [if_neg h0, oneTypeOnly'_eq, List.mapM_toArray, map_eq_pure_bind]
        refine wpAny_bind (wpAny_bind (wpAny_bind (kas_mapM (r := Value.type "tuple") _ (fun v hv Q' hq => ?_) (wpAny_pure ?_))))
        · obtain ⟨d, hd, as, r⟩ := e.left v hv
          obtain ⟨xs, rfl⟩ := ht d hd
          exact (looks_reads r).here hq
        · obtain ⟨v₁, rest, rfl⟩ : ∃ v₁ rest, vs = v₁ :: rest := by
            cases vs with
            | nil => simp at h2
            | cons v r => exact ⟨v, r, rfl⟩
          have hall2 : ((List.map (fun _ => Value.type "tuple") (v₁ :: rest)).toArray.all fun x => x == Value.type "tuple") = true := by
            simp only [List.all_toArray, List.all_map, List.all_eq_true]
            intro _ _
            rfl
          have h02 : (List.map (fun _ => Value.type "tuple") (v₁ :: rest)).toArray[0]? = some (Value.type "tuple") := by simp
          rw [h02]
          simp only [hall2, if_true]
          exact wpAny_pure (wpAny_pure hq)
    · refine ⟨general', fun E x y a b Q ha hb hq => ?_, fun h2 E Q hq => ?_⟩
      · obtain ⟨d, as, hd, ra, rfl⟩ := dataKind_inv ha
        obtain ⟨d', as', hd', rb, rfl⟩ := dataKind_inv hb
        show wpAny (model prog w) A (oneLt' false x y) Q E s
        exact oneLt_alike (fun z => nomatch z) ra rb (hal d hd d' hd') (hnn d hd) (room hd) hq
      · rw [keyKind'_eq, List.mapM_toArray, map_eq_pure_bind]
        refine wpAny_bind (wpAny_bind (firsts_tups e ht fun fs hl hf => wpAny_pure ?_))
        have hall := notAll fs hl hf
        rw [if_neg hall]
        have hl0 : 0 < fs.length := by omega
        have hd0 : 0 < ds.length := by omega
        have h1 := hf 0 fs[0] ds[0] (List.getElem?_eq_getElem hl0) (List.getElem?_eq_getElem hd0)
        have h3 : fs[0].isSome = true := h1.mpr fun z => hfirst (by rw [List.getElem?_eq_getElem hd0, z])
        have h0 : (fs.toArray[0]?.bind id).isSome = true := by
          have e1 : fs.toArray[0]? = some fs[0] := by simp [hl0]
          rw [e1]
          simpa using h3
        rw [if_pos h0]
        exact wpAny_pure hq
end
end PySem.W
namespace PySem.W
open PySem PySem.Calls PyProof.Rows
theorem SortsAt.small {prog : Program} {w : World} {A : Around} {s : Shared} {vs : List Value} {ds : List PyData} (e : EachIs (fun v d => ∃ as, Reads s.heap v d as) vs ds) (hal : AllAlike ds) (hn : ∀ d, d ∈ ds → d ≠ .none) (h1 : vs.length ≤ 1)
    (hu : ∀ d, d ∈ ds → A.units + d.depth < cLine) : SortsAt prog w A s (dataKind s.heap ds) vs := by
  have room : ∀ {d d' : PyData}, d ∈ ds → A.units + min d.depth d'.depth < cLine := fun {d d'} hd => Nat.lt_of_le_of_lt (Nat.add_le_add_left (Nat.min_le_left _ _) _) (hu d hd)
  refine ⟨fun v hv => ?_, general', ?_, fun h2 => absurd h2 (by omega)⟩
  · obtain ⟨d, hd, as, r⟩ := e.left v hv
    exact ⟨_, dataKind_some hal hd r⟩
  · intro E x y a b Q ha hb hq
    obtain ⟨d, as, hd, ra, rfl⟩ := dataKind_inv ha
    obtain ⟨d', as', hd', rb, rfl⟩ := dataKind_inv hb
    show wpAny (model prog w) A (oneLt' false x y) Q E s
    exact oneLt_alike (fun z => nomatch z) ra rb (hal d hd d' hd') (hn d hd) (room hd) hq
end PySem.W
namespace Lf
open PySem PySem.Spec PyProof.Rows L2
open PySem.W (EachIs dataLe AllAlike Sortable alike)
def sortOk (ds : List PyData) : Bool :=
  (ds.all fun a => ds.all fun b => alike a b) && (ds.all fun a => decide (a.depth ≤ 50)) && decide (ds.length ≤ sizeLine) && PyData.canLayAll0 ds &&
  ((decide (ds.length ≤ 1) && ds.all (fun a => match a with | .none => false | _ => true)) || (ds.all fun a => match a with | .tuple _ => true | _ => false) || ds.all fun a => match a with | .tuple _ => false | .none => false | _ => true)
theorem sortOk_use {ds : List PyData} (h : sortOk ds = true) : AllAlike ds ∧ (∀ d ∈ ds, d.depth ≤ 50) ∧ ds.length ≤ sizeLine ∧ PyData.canLayAll0 ds = true ∧ ((ds.length ≤ 1 ∧ ∀ d ∈ ds, d ≠ .none) ∨ (∀ d ∈ ds, ∃ r, d = .tuple r) ∨ Sortable ds) := by
  unfold sortOk at h
  simp only [Bool.and_eq_true, Bool.or_eq_true, List.all_eq_true, decide_eq_true_eq] at h
  obtain ⟨⟨⟨⟨h1, h2⟩, h3⟩, h0⟩, h4⟩ := h
  refine ⟨fun d hd d' hd' => h1 d hd d' hd', h2, h3, h0, ?_⟩
  rcases h4 with (⟨h4, h5⟩ | h4) | h4
  · exact .inl ⟨h4, fun d hd e => by have := h5 d hd; rw [e] at this; cases this⟩
  · refine .inr (.inl fun d hd => ?_)
    have := h4 d hd
    split at this
    · exact ⟨_, rfl⟩
    · cases this
  · refine .inr (.inr (.inr fun d hd => ?_))
    have := h4 d hd
    split at this
    · cases this
    · cases this
    · rename_i a b; exact ⟨fun e => b e, fun xs e => a xs e⟩
section
variable {X : Cx} {pins : List (Addr × Obj)} {σ : L2.St} {H : Hp} {s : Shared}
theorem each_zip : ∀ {xs : List V} {ds : List PyData} {vs : List Value}, Vals xs vs → xs.length = ds.length → EachIs (fun (v : Value) (b : V × PyData) => RelV b.1 v) vs (xs.zip ds)
  | _, [], _, .nil, _ => .nil
  | _, _ :: _, _, .nil, h => by simp at h
  | _, [], _, .cons _ _, h => by simp at h
  | _, _ :: _, _, .cons r t, h => .cons r (each_zip t (by simpa using h))
theorem each_reads (I : Inv X pins σ H s) : ∀ {xs : List V} {ds : List PyData} {vs : List Value}, Vals xs vs → DpAll X.K H xs ds → EachIs (fun (v : Value) (b : V × PyData) => ∃ as, Reads s.heap v b.2 as) vs (xs.zip ds)
  | _, _, _, .nil, .nil => .nil
  | _, _, _, .cons r t, .cons h k => .cons (Dp.reads I _ _ _ h r) (each_reads I t k)
theorem dpAll_length {K : PySem.W.Frag} : ∀ {xs : List V} {ds : List PyData}, DpAll K H xs ds → xs.length = ds.length
  | _, _, .nil => rfl
  | _, _, .cons _ t => congrArg Nat.succ (dpAll_length t)
theorem vals_each : ∀ {bs : List (V × PyData)} {out : List Value}, EachIs (fun (v : Value) (b : V × PyData) => RelV b.1 v) out bs → Vals (bs.map Prod.fst) out
  | _, _, .nil => .nil
  | _, _, .cons r t => .cons r (vals_each t)
theorem sorted_gen {x : Value} {k : Nat} {Q : VK} {Good : List V → List PyData → Prop} (I : Inv X pins σ H s) (hr : Room k X.A)
    (hc : ∀ (R : List Value → Shared → Prop) (E : Value → Shared → Prop), (∀ s' vs xs ds, (∀ b o, s.heap.get? b = some o → s'.heap.get? b = some o) → s'.gens = s.gens → s'.os = s.os → Good xs ds → Vals xs vs → R vs s') → wpAny (model X.prog X.w) X.A.in1 (collect x) R E s)
    (hg : ∀ xs ds, Good xs ds → DpAll X.K H xs ds ∧ sortOk ds = true)
    (q : ∀ xs ds p, Good xs ds → H p = none → Q (.ref p) (upd H p (.lst (((xs.zip ds).mergeSort (dataLe false Prod.snd)).map Prod.fst)))) :
    wpAny (model X.prog X.w) X.A (call (.builtin "sorted") [x]) (EP X pins σ Q) X.xe s := by
  refine Calls.call_function_entry PyProof.Rows.kind_sorted PyProof.Rows.plain_sorted PyProof.Rows.entry_sorted (PyProof.Rows.args_sorted1 _) ?_
  unfold Builtin.«sorted»
  refine wpAny_bind (m := checkCount "sorted" 1 1 _) (wpAny_pure ?_)
  refine wpAny_bind (hc _ _ fun s' vs xs ds kp g o good rv => ?_)
  obtain ⟨dp, ok⟩ := hg xs ds good
  obtain ⟨al, dep, hL, _, cases_⟩ := sortOk_use ok
  have l1 := dpAll_length dp
  have l2 := rv.length
  have I1 : Inv X pins σ H s' := I.call' (ch := []) o (Un.kept kp) (I.hok.kept kp) (by rw [g]; exact I.bare) (fun _ z => nomatch z)
  refine wpAny_bind (wpAny_newList ?_ (by omega))
  have hoL : (s'.heap.push (seqObj "list" vs.toArray 0)).get? s'.heap.objs.size = some (seqObj "list" vs.toArray 0) := Heap.get?_push_size _ rfl
  show wpAny _ _ _ _ _ { s' with heap := s'.heap.push (seqObj "list" vs.toArray 0) }
  have kp2 : ∀ b o, s'.heap.get? b = some o → (PySem.W.sortingHeap (s'.heap.push (seqObj "list" vs.toArray 0)) s'.heap.objs.size vs).get? b = some o := fun b o e =>
    PySem.W.sortingHeap_old (Nat.ne_of_lt (Heap.lt_size e)) (Heap.get?_push_of_some _ e)
  have er : EachIs (fun (v : Value) (b : V × PyData) => ∃ as, Reads (PySem.W.sortingHeap (s'.heap.push (seqObj "list" vs.toArray 0)) s'.heap.objs.size vs) v b.2 as) vs (xs.zip ds) :=
    (each_reads I1 rv dp).mono fun _ _ ⟨as, r⟩ => ⟨as, PyProof.Rows.Reads.keeps kp2 r⟩
  have hm : (xs.zip ds).map Prod.snd = ds := List.map_snd_zip (by omega)
  have e2 : EachIs (fun v d => ∃ as, Reads (PySem.W.sortingHeap (s'.heap.push (seqObj "list" vs.toArray 0)) s'.heap.objs.size vs) v d as) vs ds := by
    have z := PySem.W.each_map (R := fun v d => ∃ as, Reads (PySem.W.sortingHeap (s'.heap.push (seqObj "list" vs.toArray 0)) s'.heap.objs.size vs) v d as) Prod.snd er
    rw [hm] at z
    exact z
  have hu : ∀ d, d ∈ ds → X.A.in1.in1.units + d.depth < cLine := fun d hd => by
    have := dep d hd
    have := hr.un
    show X.A.units + 1 + 1 + d.depth < cLine
    omega
  have S : PySem.W.SortsAt X.prog X.w X.A.in1.in1 { s' with heap := PySem.W.sortingHeap (s'.heap.push (seqObj "list" vs.toArray 0)) s'.heap.objs.size vs } (PySem.W.dataKind (PySem.W.sortingHeap (s'.heap.push (seqObj "list" vs.toArray 0)) s'.heap.objs.size vs) ds) vs := by
    rcases cases_ with ⟨h1, h2⟩ | h1 | h1
    · exact PySem.W.SortsAt.small (s := { s' with heap := PySem.W.sortingHeap (s'.heap.push (seqObj "list" vs.toArray 0)) s'.heap.objs.size vs }) e2 al h2 (by omega) hu
    · exact PySem.W.SortsAt.tups (s := { s' with heap := PySem.W.sortingHeap (s'.heap.push (seqObj "list" vs.toArray 0)) s'.heap.objs.size vs }) e2 al h1 hu
    · exact PySem.W.SortsAt.data (s := { s' with heap := PySem.W.sortingHeap (s'.heap.push (seqObj "list" vs.toArray 0)) s'.heap.objs.size vs }) e2 al h1 hu
  refine wpAny_bind (wpAny_holding (wpAny_call_entry PyProof.Rows.slot_list_sort ⟨_, hoL, rfl⟩ PyProof.Rows.entry_list_sort
    (PySem.W.list_sort_vals (s := { s' with heap := s'.heap.push (seqObj "list" vs.toArray 0) }) hoL S (by omega) ⟨_, rfl, ?_⟩) (PyProof.Rows.args_list_sort _)))
  have out : EachIs (fun (v : Value) (b : V × PyData) => RelV b.1 v) (PySem.W.sortVals (PySem.W.dataKind (PySem.W.sortingHeap (s'.heap.push (seqObj "list" vs.toArray 0)) s'.heap.objs.size vs) ds) false vs vs) ((xs.zip ds).mergeSort (dataLe false Prod.snd)) := by
    have z := PySem.W.sortVals_data (h' := PySem.W.sortingHeap (s'.heap.push (seqObj "list" vs.toArray 0)) s'.heap.objs.size vs) (enc := Prod.snd) false (each_zip rv l1) er (by rw [hm]; exact al)
    rw [hm] at z
    exact z
  obtain ⟨e', he'⟩ := PyProof.Rows.sortedHeap_at (vs := vs) (out := (PySem.W.sortVals (PySem.W.dataKind (PySem.W.sortingHeap (s'.heap.push (seqObj "list" vs.toArray 0)) s'.heap.objs.size vs) ds) false vs vs).toArray) hoL
  have hlen : (((xs.zip ds).mergeSort (dataLe false Prod.snd)).map Prod.fst).length ≤ sizeLine := by
    rw [List.length_map, List.length_mergeSort, List.length_zip]
    omega
  refine wpAny_pure ⟨_, rfl, .ref s'.heap.objs.size, upd H s'.heap.objs.size (.lst (((xs.zip ds).mergeSort (dataLe false Prod.snd)).map Prod.fst)), I1.laid (t' := s'.toks) (fun b u e => ?_) (Nat.le_refl _)
    (show ObjOk X.prog X.w _ _ _ (.lst _) from ⟨hlen, _, e', vals_each out, he'⟩), rfl, q xs ds _ good (I1.hok.fresh (Nat.le_refl _))⟩
  have hb : b < s'.heap.objs.size := Heap.lt_size e
  rw [PyProof.Rows.sortedHeap_old (Nat.ne_of_lt hb) (by rw [size_push']; exact Nat.lt_succ_of_lt hb)]
  exact Heap.get?_push_of_some _ e
end
end Lf
set_option Elab.async false
set_option linter.all false
set_option maxRecDepth 100000
set_option maxHeartbeats 4000000
namespace Lf
open PySem PySem.Spec PyProof.Rows L2
open PySem.W (EachIs dataLe AllAlike Sortable alike)
def CallD (X : Cx) (r : List V → Hp → VK → Prop) (F : List Wv → Mem → Option Rv) : Prop :=
  ∀ (G H : Hp) (i : List Addr) (M : Mem) (vs : List V) (ws : List Wv) (res : Rv) (Q : VK), MemR X.K G H i M → RpWs X.K G i vs ws → F ws M = some res →
    (∀ v' G' H', Sub G G' → MemR X.K G' H' i M → ResR X.K G' H' i v' res → Q v' H') → r vs H Q
@[simp] def cbR (F : List Wv → Mem → Option Rv) (ws : List Wv) (M : Mem) : Ans Rv := match F ws M with
  | some r => .val r M
  | none => .bad
@[simp] def dCB (F : List Wv → Mem → Option Rv) (f : En → Mem → Ans (List Wv)) : Den := fun e M => (f e M).bind (cbR F)
section
variable {X : Cx} {W : WX} {f g h : Den} {fa : En → Mem → Ans (List Wv)} {F : List Wv → Mem → Option Rv} {a b c : Expr} {pos : Pos}
theorem cb_use {r : List V → Hp → VK → Prop} (cd : CallD X r F) (s : L2.St) (H : Hp) (Q : VK) (q : tD X.K W (dCB F fa) s H Q) : tCB r (tDA X.K W fa) s H Q := by
  obtain ⟨G, i, e, M, he, hm, q⟩ := q
  refine tG.go he hm q fun vs ws M1 G1 H1 s1 m1 r1 q => ?_
  unfold cbR at q
  cases z : F ws M1 with
  | none => rw [z] at q; exact q.elim
  | some res => rw [z] at q; exact cd G1 H1 i M1 vs ws res Q m1 r1 z q
theorem d_callB {r : List V → Hp → VK → Prop} {id : String} {x : Str} {p : Pos} {e : Expr} {es : List Expr} (hc : CallR X (.builtin id) r) (cd : CallD X r F) (hg : Gl X x) (hm : X.mg x = none) (hv : bootBuiltins x = some (.builtin id)) (ha : PA X (e :: es) (tDA X.K W fa))
    (hn : x ≠ "__name__" := by decide) (hd : (x == ("__debug__" : Str)) = false := by decide) (he : starEach (e :: es) X.env = (false, eval e X.env) :: starEach es X.env := by rfl) (hpl : (backTo pos (starEach es X.env)).any (·.1) = false := by rfl) :
    PE X (.Call (.Name x p) (e :: es) [] pos) (tD X.K W (dCB F fa)) := PE.weak (pe_callB hc hg hm hv ha hn hd he hpl) (cb_use cd)
theorem d_callTy {r : List V → Hp → VK → Prop} {T : String} {x : Str} {p : Pos} {e : Expr} {es : List Expr} (hc : CallR X (.type T) r) (cd : CallD X r F) (hg : Gl X x) (hm : X.mg x = none) (hv : bootBuiltins x = some (.type T)) (ha : PA X (e :: es) (tDA X.K W fa))
    (hn : x ≠ "__name__" := by decide) (hd : (x == ("__debug__" : Str)) = false := by decide) (he : starEach (e :: es) X.env = (false, eval e X.env) :: starEach es X.env := by rfl) (hpl : (backTo pos (starEach es X.env)).any (·.1) = false := by rfl) :
    PE X (.Call (.Name x p) (e :: es) [] pos) (tD X.K W (dCB F fa)) := PE.weak (pe_callTy hc hg hm hv ha hn hd he hpl) (cb_use cd)
@[simp] def one (F : PyData → Option Rv) : List Wv → Mem → Option Rv
  | [w], M => (w.rdK M).bind F
  | _, _ => none
theorem one_use {F : PyData → Option Rv} {K : PySem.W.Frag} {G H : Hp} {i : List Addr} {M : Mem} {vs : List V} {ws : List Wv} {res : Rv} (m : MemR K G H i M) (r : RpWs K G i vs ws) (e : one F ws M = some res) : ∃ v d, vs = [v] ∧ CnK K G H v d ∧ F d = some res := by
  cases r with
  | nil => cases e
  | @cons v vs w ws h t =>
    cases t with
    | cons _ _ => cases e
    | nil =>
      have e : (w.rdK M).bind F = some res := e
      cases z : w.rdK M with
      | none => rw [z] at e; cases e
      | some d => rw [z] at e; exact ⟨v, d, rfl, h.cnK m z, e⟩
theorem CnK.list {K : PySem.W.Frag} {G H : Hp} {v : V} {ds : List PyData} (h : CnK K G H v (.list ds)) : ∃ p xs, v = .ref p ∧ SqL K H p xs ∧ RpAll K G xs ds := by
  cases h with
  | of c => cases c with
    | lst h t => exact ⟨_, _, rfl, .of h, t⟩
  | lst h t => exact ⟨_, _, rfl, h, t⟩
theorem CnK.tuple {K : PySem.W.Frag} {G H : Hp} {v : V} {ds : List PyData} (h : CnK K G H v (.tuple ds)) : ∃ p xs, v = .ref p ∧ TupAt K G p xs ds ∧ RpAll K G xs ds := by
  cases h with
  | of c => cases c with
    | tup h t => exact ⟨_, _, rfl, h, t⟩
theorem CnK.str {K : PySem.W.Frag} {G H : Hp} {v : V} {z : Str} (h : CnK K G H v (.str z)) : v = .str z := by
  cases h with
  | of c => cases c with
    | str => rfl
theorem CnK.int {K : PySem.W.Frag} {G H : Hp} {v : V} {z : Int} (h : CnK K G H v (.int z)) : v = .int z := by
  cases h with
  | of c => cases c with
    | int => rfl
theorem CnK.bl {K : PySem.W.Frag} {G H : Hp} {v : V} {z : Bool} (h : CnK K G H v (.bool z)) : v = .bl z := by
  cases h with
  | of c => cases c with
    | bl => rfl
theorem CnK.dict {K : PySem.W.Frag} {G H : Hp} {v : V} {ds : List (PyData × PyData)} (h : CnK K G H v (.dict ds)) : (∃ p kvs, v = .ref p ∧ H p = some (.dT kvs) ∧ RpT K G kvs ds) ∨ ∃ p kvs, v = .ref p ∧ H p = some (.dK kvs) ∧ RpK K G kvs ds := by
  cases h with
  | of c => cases c with
    | dT h t => exact .inl ⟨_, _, rfl, h, t⟩
    | dK h t => exact .inr ⟨_, _, rfl, h, t⟩
theorem RpT.length {K : PySem.W.Frag} {G : Hp} : ∀ {v : List (List Key × V)} {d : List (PyData × PyData)}, RpT K G v d → v.length = d.length
  | _, _, .nil => rfl
  | _, _, .cons _ t => congrArg Nat.succ t.length
theorem RpK.length {K : PySem.W.Frag} {G : Hp} : ∀ {v : List (Key × V)} {d : List (PyData × PyData)}, RpK K G v d → v.length = d.length
  | _, _, .nil => rfl
  | _, _, .cons _ t => congrArg Nat.succ t.length
@[simp] def lenF : PyData → Option Rv
  | .list ds => some (vI ds.length)
  | .tuple ds => some (vI ds.length)
  | .dict ds => some (vI ds.length)
  | .str z => if z.length ≤ sizeLine then some (vI z.length) else none
  | _ => none
def rLenAll (X : Cx) : List V → Hp → VK → Prop := fun xs H Q => (∃ p ys, xs = [.ref p] ∧ (SqL X.K H p ys ∨ SqT X.K H p ys) ∧ Q (.int ys.length) H) ∨ ((∃ z, xs = [.str z] ∧ z.length ≤ sizeLine ∧ Q (.int z.length) H) ∨ ((∃ a kvs, xs = [V.ref a] ∧ H a = some (.dK kvs) ∧ Q (.int kvs.length) H) ∨ rLenT xs H Q))
theorem cr_lenAll : CallR X (.builtin "len") (rLenAll X) := CallR.or call_len_seq (CallR.or call_len_str (CallR.or call_lenD call_len_dT))
theorem cd_len : CallD X (rLenAll X) (one lenF) := by
  intro G H i M vs ws res Q m r e q
  obtain ⟨v, d, rfl, c, e⟩ := one_use m r e
  cases d with
  | list ds =>
    obtain ⟨p, xs, rfl, h1, h2⟩ := c.list
    cases e
    rw [← h2.length] at q
    exact .inl ⟨p, xs, rfl, .inl h1, q _ G H (Sub.refl _) m (.int _)⟩
  | tuple ds =>
    obtain ⟨p, xs, rfl, h1, h2⟩ := c.tuple
    cases e
    rw [← h2.length] at q
    exact .inl ⟨p, xs, rfl, .inr (m.sub.t h1), q _ G H (Sub.refl _) m (.int _)⟩
  | str z =>
    have := c.str
    subst this
    obtain ⟨hz, rfl⟩ := if_some e
    exact .inr (.inl ⟨z, rfl, hz, q _ G H (Sub.refl _) m (.int _)⟩)
  | dict ds =>
    cases e
    rcases c.dict with ⟨p, kvs, rfl, h1, h2⟩ | ⟨p, kvs, rfl, h1, h2⟩
    · rw [← h2.length] at q
      exact .inr (.inr (.inr ⟨p, kvs, rfl, h1, q _ G H (Sub.refl _) m (.int _)⟩))
    · rw [← h2.length] at q
      exact .inr (.inr (.inl ⟨p, kvs, rfl, h1, q _ G H (Sub.refl _) m (.int _)⟩))
  | _ => cases e
theorem d_len {p : Pos} {e : Expr} (hm : X.mg "len" = none) (ha : PA X [e] (tDA X.K W fa)) (hg : Gl X "len" := by rfl) (he : starEach [e] X.env = (false, eval e X.env) :: starEach [] X.env := by rfl) :
    PE X (.Call (.Name "len" p) [e] [] pos) (tD X.K W (dCB (one lenF) fa)) := d_callB cr_lenAll cd_len hg hm boot_len ha (by decide) (by decide) he rfl
@[simp] def tupleF : PyData → Option Rv
  | .list ds => some (.w (.d (.tuple ds)))
  | .tuple ds => some (.w (.d (.tuple ds)))
  | _ => none
theorem cd_tuple : CallD X (Lt.rTupX X.K) (one tupleF) := by
  intro G H i M vs ws res Q m r e q
  obtain ⟨v, d, rfl, c, e⟩ := one_use m r e
  cases d with
  | list ds =>
    obtain ⟨p, xs, rfl, h1, h2⟩ := c.list
    cases e
    exact ⟨p, xs, rfl, .inl ⟨h1, _, fun l o ho hl => q (.ref l) _ _ (Sub.new (m.gfree hl)) (m.newTup hl) (.tup (.new ho) (h2.mono (Sub.new (m.gfree hl))))⟩⟩
  | tuple ds =>
    obtain ⟨p, xs, rfl, h1, h2⟩ := c.tuple
    cases e
    exact ⟨p, xs, rfl, .inr ⟨m.sub.t h1, q _ G H (Sub.refl _) m (.tup h1 h2)⟩⟩
  | _ => cases e
theorem d_tuple {p : Pos} {e : Expr} (hm : X.mg "tuple" = none) (ha : PA X [e] (tDA X.K W fa)) (hg : Gl X "tuple" := by rfl) (he : starEach [e] X.env = (false, eval e X.env) :: starEach [] X.env := by rfl) :
    PE X (.Call (.Name "tuple" p) [e] [] pos) (tD X.K W (dCB (one tupleF) fa)) := d_callTy Lt.call_tupleX cd_tuple hg hm boot_tuple ha (by decide) (by decide) he rfl
@[simp] def listF : PyData → Option Rv
  | .list ds => some (.own (.list ds))
  | .tuple ds => some (.own (.list ds))
  | _ => none
theorem cd_list : CallD X (fun xs H Q => ∃ p ys, xs = [.ref p] ∧ (SqL X.K H p ys ∨ SqT X.K H p ys) ∧ ∀ l, H l = none → Q (.ref l) (upd H l (.lst ys))) (one listF) := by
  intro G H i M vs ws res Q m r e q
  obtain ⟨v, d, rfl, c, e⟩ := one_use m r e
  cases d with
  | list ds =>
    obtain ⟨p, xs, rfl, h1, h2⟩ := c.list
    cases e
    exact ⟨p, xs, rfl, .inl h1, fun l hl => q (.ref l) _ _ (Sub.refl _) (m.grow hl) ⟨l, _, rfl, m.gfree hl, m.notin hl, upd_same, .lst h2⟩⟩
  | tuple ds =>
    obtain ⟨p, xs, rfl, h1, h2⟩ := c.tuple
    cases e
    exact ⟨p, xs, rfl, .inr (m.sub.t h1), fun l hl => q (.ref l) _ _ (Sub.refl _) (m.grow hl) ⟨l, _, rfl, m.gfree hl, m.notin hl, upd_same, .lst h2⟩⟩
  | _ => cases e
theorem d_list {p : Pos} {e : Expr} (hm : X.mg "list" = none) (ha : PA X [e] (tDA X.K W fa)) (hg : Gl X "list" := by rfl) (he : starEach [e] X.env = (false, eval e X.env) :: starEach [] X.env := by rfl) :
    PE X (.Call (.Name "list" p) [e] [] pos) (tD X.K W (dCB (one listF) fa)) := d_callTy call_list_of cd_list hg hm boot_list ha (by decide) (by decide) he rfl
@[simp] def boolsD : List PyData → Option (List Bool)
  | [] => some []
  | .bool n :: r => (match boolsD r with
    | some ns => some (n :: ns)
    | none => none)
  | _ :: _ => none
theorem boolsD_eq : ∀ {ds : List PyData} {ns : List Bool}, boolsD ds = some ns → ds = ns.map .bool
  | [], _, h => by cases h; rfl
  | d :: r, ns, h => by
    cases d with
    | bool n =>
      cases z : boolsD r with
      | none => simp [boolsD, z] at h
      | some ms =>
        simp [boolsD, z] at h
        subst h
        rw [boolsD_eq z]; rfl
    | _ => simp [boolsD] at h
theorem RpAll.bools_eq {K : PySem.W.Frag} {G : Hp} : ∀ {vs : List V} {ns : List Bool}, RpAll K G vs (ns.map .bool) → vs = ns.map V.bl
  | _, [], h => by cases h; rfl
  | _, n :: r, h => by
    cases h with
    | cons h1 h2 => cases h1; rw [RpAll.bools_eq h2]; rfl
@[simp] def sumF : PyData → Option Rv
  | .list ds => (intsD ds).map fun ns => vI ns.sum
  | _ => none
@[simp] def allF : PyData → Option Rv
  | .list ds => (boolsD ds).map fun ns => vB (ns.all id)
  | _ => none
@[simp] def anyF : PyData → Option Rv
  | .list ds => (boolsD ds).map fun ns => vB (ns.any id)
  | _ => none
theorem cd_all : CallD X (rAll X.K) (one allF) := by
  intro G H i M vs ws res Q m r e q
  obtain ⟨v, d, rfl, c, e⟩ := one_use m r e
  cases d with
  | list ds =>
    obtain ⟨p, xs, rfl, h1, h2⟩ := c.list
    cases z : boolsD ds with
    | none => simp [allF, z] at e
    | some ns =>
      simp only [allF, z, Option.map_some, Option.some.injEq] at e
      subst e
      rw [boolsD_eq z] at h2
      have := h2.bools_eq
      subst this
      exact ⟨p, ns, rfl, h1, q _ G H (Sub.refl _) m (.bl _)⟩
  | _ => cases e
theorem d_all {p : Pos} {e : Expr} (hc : X.calm = true) (hm : X.mg "all" = none) (ha : PA X [e] (tDA X.K W fa)) (hg : Gl X "all" := by rfl) (he : starEach [e] X.env = (false, eval e X.env) :: starEach [] X.env := by rfl) :
    PE X (.Call (.Name "all" p) [e] [] pos) (tD X.K W (dCB (one allF) fa)) := d_callB (cr_all hc) cd_all hg hm (by decide +kernel) ha (by decide) (by decide) he rfl
@[simp] def two (F : Int → Int → Rv) : List Wv → Mem → Option Rv
  | [.d (.int a), .d (.int b)], _ => some (F a b)
  | _, _ => none
theorem two_use {F : Int → Int → Rv} {K : PySem.W.Frag} {G : Hp} {i : List Addr} {M : Mem} {vs : List V} {ws : List Wv} {res : Rv} (r : RpWs K G i vs ws) (e : two F ws M = some res) : ∃ a b, vs = [.int a, .int b] ∧ res = F a b := by
  unfold two at e
  split at e
  · rename_i a b
    cases r with
    | cons h t =>
      cases t with
      | cons h2 t2 =>
        cases t2
        cases h
        cases h2
        exact ⟨a, b, rfl, (Option.some.inj e).symm⟩
  · cases e
theorem cd_min2 : CallD X (fun xs H Q => ∃ i j, xs = [.int i, .int j] ∧ Q (.int (if j < i then j else i)) H) (two fun a b => vI (if b < a then b else a)) := by
  intro G H i M vs ws res Q m r e q
  obtain ⟨a, b, rfl, rfl⟩ := two_use r e
  exact ⟨a, b, rfl, q _ G H (Sub.refl _) m (.int _)⟩
theorem cd_max2 : CallD X (fun xs H Q => ∃ i j, xs = [.int i, .int j] ∧ Q (.int (if j > i then j else i)) H) (two fun a b => vI (if b > a then b else a)) := by
  intro G H i M vs ws res Q m r e q
  obtain ⟨a, b, rfl, rfl⟩ := two_use r e
  exact ⟨a, b, rfl, q _ G H (Sub.refl _) m (.int _)⟩
theorem d_min2 {p : Pos} {e e2 : Expr} (hc : X.calm = true) (hm : X.mg "min" = none) (ha : PA X [e, e2] (tDA X.K W fa)) (hg : Gl X "min" := by rfl) (he : starEach [e, e2] X.env = (false, eval e X.env) :: starEach [e2] X.env := by rfl) (hpl : (backTo pos (starEach [e2] X.env)).any (·.1) = false := by rfl) :
    PE X (.Call (.Name "min" p) [e, e2] [] pos) (tD X.K W (dCB (two fun a b => vI (if b < a then b else a)) fa)) := d_callB (call_min2 hc) cd_min2 hg hm (by decide +kernel) ha (by decide) (by decide) he hpl
theorem d_max2 {p : Pos} {e e2 : Expr} (hc : X.calm = true) (hm : X.mg "max" = none) (ha : PA X [e, e2] (tDA X.K W fa)) (hg : Gl X "max" := by rfl) (he : starEach [e, e2] X.env = (false, eval e X.env) :: starEach [e2] X.env := by rfl) (hpl : (backTo pos (starEach [e2] X.env)).any (·.1) = false := by rfl) :
    PE X (.Call (.Name "max" p) [e, e2] [] pos) (tD X.K W (dCB (two fun a b => vI (if b > a then b else a)) fa)) := d_callB (call_max2 hc) cd_max2 hg hm (by decide +kernel) ha (by decide) (by decide) he hpl
@[simp] def intF : PyData → Option Rv
  | .int n => some (vI n)
  | .bool b => some (vI (if b then 1 else 0))
  | _ => none
theorem cd_int : CallD X (fun xs H Q => (∃ i, xs = [.int i] ∧ Q (.int i) H) ∨ ∃ k, xs = [.bl k] ∧ Q (.int (if k then 1 else 0)) H) (one intF) := by
  intro G H i M vs ws res Q m r e q
  obtain ⟨v, d, rfl, c, e⟩ := one_use m r e
  cases d with
  | int n => cases e; rw [c.int]; exact .inl ⟨n, rfl, q _ G H (Sub.refl _) m (.int _)⟩
  | bool n => cases e; rw [c.bl]; exact .inr ⟨n, rfl, q _ G H (Sub.refl _) m (.int _)⟩
  | _ => cases e
theorem d_intc {p : Pos} {e : Expr} (hm : X.mg "int" = none) (ha : PA X [e] (tDA X.K W fa)) (hg : Gl X "int" := by rfl) (he : starEach [e] X.env = (false, eval e X.env) :: starEach [] X.env := by rfl) :
    PE X (.Call (.Name "int" p) [e] [] pos) (tD X.K W (dCB (one intF) fa)) := d_callTy call_int1 cd_int hg hm boot_int ha (by decide) (by decide) he rfl
end
end Lf
set_option Elab.async false
set_option linter.all false
set_option maxRecDepth 100000
set_option maxHeartbeats 4000000
namespace Lf
open PySem PySem.Spec PyProof.Rows L2
open PySem.W (EachIs dataLe AllAlike Sortable alike)
section
variable {X : Cx} {W : WX} {f g h : Den} {fa : En → Mem → Ans (List Wv)} {F : List Wv → Mem → Option Rv} {a b c : Expr} {pos : Pos}
@[simp] def tyD : PyData → String
  | .none => "NoneType"
  | .bool _ => "bool"
  | .int _ => "int"
  | .str _ => "str"
  | .list _ => "list"
  | .tuple _ => "tuple"
  | .dict _ => "dict"
@[simp] def isD (d : PyData) (T : String) : Bool := tyD d == T || (tyD d == "bool" && T == "int")
theorem kit_isD (d : PyData) {T : String} (hT : T ∈ ["int", "bool", "str", "tuple", "list", "dict"]) : kitB (tyD d) T = some (isD d T) := by
  simp only [List.mem_cons, List.not_mem_nil, or_false] at hT
  have key : ∀ A ∈ ["NoneType", "bool", "int", "str", "list", "tuple", "dict"], ∀ B ∈ ["int", "bool", "str", "tuple", "list", "dict"], kitB A B = some (A == B || (A == "bool" && B == "int")) := by decide +kernel
  have h1 : tyD d ∈ ["NoneType", "bool", "int", "str", "list", "tuple", "dict"] := by cases d <;> simp
  exact key _ h1 T (by simpa using hT)
theorem sqT_tyx {K : PySem.W.Frag} {H : Hp} {p : Addr} {xs : List V} (h : SqT K H p xs) : TyX K H (.ref p) (.type "tuple") := by
  rcases h with (h | ⟨o, h⟩) | ⟨o, its, n, h1, h2, _⟩
  · exact .base (.tup h)
  · exact .fTuple h
  · exact .kTuple h1 h2
theorem sqL_tyx {K : PySem.W.Frag} {H : Hp} {p : Addr} {xs : List V} (h : SqL K H p xs) : TyX K H (.ref p) (.type "list") := by
  rcases h with (h | ⟨o, h⟩) | ⟨o, its, n, h1, h2, _⟩
  · exact .base (.lst h)
  · exact .base (.frz h)
  · exact .kList h1 h2
theorem CnK.tyx {K : PySem.W.Frag} {G H : Hp} {v : V} {d : PyData} (h : CnK K G H v d) (e : Sub G H) : TyX K H v (.type (tyD d)) := by
  cases h with
  | of c =>
    cases c with
    | non => exact .base .non
    | bl b => exact .base (.bl b)
    | int i => exact .base (.int i)
    | str x => exact .base (.str x)
    | lst h t => exact .base (.lst h)
    | tup h t => exact sqT_tyx (e.t h)
    | dT h t => exact .base (.dT h)
    | dK h t => exact .base (.dK h)
  | lst h t => exact sqL_tyx h
@[simp] def isiR (Ts : List String) (x : Rv) (M : Mem) : Ans Rv := match x.fz.rdK M with
  | some d => .val (vB (Ts.any fun T => isD d T)) M
  | none => .bad
@[simp] def dIsi (Ts : List String) (f : Den) : Den := fun e M => (f e M).bind (isiR Ts)
theorem isi_use {K : PySem.W.Frag} {G H : Hp} {i : List Addr} {M : Mem} {s : L2.St} {x : Rv} {v : V} {Q : VK} {Ts : List String} (m : MemR K G H i M) (r : RpW K G i v x.fz) (q : Ask K W (ResR K) G i s Q (isiR Ts x M)) :
    ∃ d, CnK K G H v d ∧ ∀ G' H', Sub G G' → MemR K G' H' i M → Q (.bl (Ts.any fun T => isD d T)) H' := by
  unfold isiR at q
  cases z : x.fz.rdK M with
  | none => rw [z] at q; exact q.elim
  | some d =>
    rw [z] at q
    exact ⟨d, r.cnK m z, fun G' H' a b => q _ G' H' a b (.bl _)⟩
theorem d_isi {p p2 : Pos} {e : Expr} {T : String} {x : Str} (hT : T ∈ ["int", "bool", "str", "tuple", "list", "dict"]) (hm : X.mg "isinstance" = none) (hgT : Gl X x) (hmT : X.mg x = none) (hvT : bootBuiltins x = some (.type T)) (he : PE X e (tD X.K W f)) (hg : Gl X "isinstance" := by rfl)
    (hn : x ≠ "__name__" := by decide) (hd : (x == ("__debug__" : Str)) = false := by decide)
    (h1 : starEach [e, .Name x p2] X.env = (false, eval e X.env) :: starEach [.Name x p2] X.env := by rfl) (h2 : starEach [.Name x p2] X.env = (false, eval (.Name x p2) X.env) :: starEach [] X.env := by rfl) (hpl : (backTo pos (starEach [.Name x p2] X.env)).any (·.1) = false := by rfl) :
    PE X (.Call (.Name "isinstance" p) [e, .Name x p2] [] pos) (tD X.K W (dIsi [T] f)) :=
  PE.weak (pe_callB call_isi hg hm boot_isinstance (pa_cons he (pa_cons (pe_bltn (v := .ty T) hgT hmT hvT rfl hn hd) pa_nil h2) h1) (by decide) (by decide) h1 hpl) fun s H Q q => by
    obtain ⟨G, i, e, M, he, hm, q⟩ := q
    refine tD.goW he hm q fun v x M1 G1 H1 s1 m1 r1 q => ?_
    obtain ⟨d, c, q⟩ := isi_use m1 r1 q
    refine ⟨v, .ty T, _, _, _, rfl, .ty T, c.tyx m1.sub, kit_ty (kit_isD d hT), ?_⟩
    have := q G1 H1 (Sub.refl _) m1
    simpa using this
def sortD (ds : List PyData) : List PyData := ds.mergeSort (dataLe false id)
theorem zip_sorted {xs : List V} {ds : List PyData} (hl : xs.length = ds.length) : ((xs.zip ds).mergeSort (dataLe false Prod.snd)).map Prod.snd = sortD ds := by
  unfold sortD
  have z := PySem.W.sort_maps (r := dataLe false Prod.snd) (s := dataLe false id) (l := xs.zip ds) Prod.snd (fun _ _ _ _ => rfl)
  rw [z, List.map_snd_zip (by omega)]
theorem RpAll.mem {K : PySem.W.Frag} {G : Hp} : ∀ {xs : List V} {ds : List PyData}, RpAll K G xs ds → ∀ p ∈ xs.zip ds, Rp K G p.1 p.2
  | _, _, .nil, p, hp => by simp at hp
  | _, _, .cons h t, p, hp => by
    rcases List.mem_cons.mp hp with rfl | hp
    · exact h
    · exact RpAll.mem t p hp
theorem RpAll.ofMem {K : PySem.W.Frag} {G : Hp} : ∀ {bs : List (V × PyData)}, (∀ p ∈ bs, Rp K G p.1 p.2) → RpAll K G (bs.map Prod.fst) (bs.map Prod.snd)
  | [], _ => .nil
  | b :: bs, h => .cons (h b List.mem_cons_self) (RpAll.ofMem fun p hp => h p (List.mem_cons_of_mem _ hp))
theorem RpAll.sorted {K : PySem.W.Frag} {G : Hp} {xs : List V} {ds : List PyData} (h : RpAll K G xs ds) : RpAll K G (((xs.zip ds).mergeSort (dataLe false Prod.snd)).map Prod.fst) (sortD ds) := by
  rw [← zip_sorted h.length]
  exact RpAll.ofMem fun p hp => h.mem p ((List.mergeSort_perm _ _).mem_iff.mp hp)
theorem sortOk_lay {ds : List PyData} (h : sortOk ds = true) : PyData.canLayAll0 ds = true := by
  obtain ⟨_, _, _, h1, _⟩ := sortOk_use h
  exact h1
theorem collect_tuple {prog : Program} {w : World} {A : Around} {E : Value → Shared → Prop} {s : Shared} {l : Addr} {vs : List Value} {Q : List Value → Shared → Prop} (hl : IsTup s.heap l vs.toArray)
    (h : Q vs { s with heap := (s.heap.push (seqObj "list" #[] 0)).update s.heap.objs.size (Obj.mapSeq (· ++ vs.toArray)) }) (hsz : vs.length ≤ sizeLine) :
    wpAny (model prog w) A (collect (.ref l)) Q E s := by
  obtain ⟨o, ho, hc, n, hd⟩ := id hl
  unfold collect
  refine wpAny_bind (wpAny_runValue (codeAny_builtin entry_proto_collect' ?_))
  show wpAny _ _ (do again (.builtin "list.__iadd__" ⟨[← newList [], .ref l], []⟩)) _ _ s
  refine wpAny_bind (wpAny_newList (wpAny_pure ⟨Code.quiet_builtin _ (by decide +kernel), codeAny_builtin entry_list_iadd' ?_⟩))
  show wpAny _ _ (Builtin.List.listExtendWith (.ref s.heap.objs.size) (.ref l) (.ref s.heap.objs.size)) _ _ { s with heap := s.heap.push (seqObj "list" #[] 0) }
  unfold Builtin.List.listExtendWith
  have ho' : (s.heap.push (seqObj "list" #[] 0)).get? l = some o := Heap.get?_push_of_some _ ho
  refine wpAny_bind (wpAny_typeOf (T := "tuple") ⟨o, ho', hc⟩ ?_)
  have ht : (Value.type "tuple" == Value.type "tuple") = true := by rfl
  rw [if_pos (by rw [ht]; simp)]
  refine wpAny_bind (listItems_at ho' hd ?_)
  refine wpAny_bind (listItems_at (xs := #[]) (n := 0) (Heap.get?_push_size _ rfl) rfl ?_)
  rw [if_neg (by simp)]
  refine wpAny_bind (listUpdate_at (xs := #[]) (n := 0) (Heap.get?_push_size _ rfl) rfl ?_ (Nat.zero_le _) (by show (#[] ++ vs.toArray).size ≤ sizeLine + 1; simp only [Array.size_append, List.size_toArray, List.length_nil]; omega))
  refine wpAny_pure ?_
  show wpAny (model prog w) A (do
      let o ← load s.heap.objs.size
      match o.data with
      | .seq xs _ => pure xs.toList
      | _ => unsupported "internal:collect") Q E { s with heap := (s.heap.push (seqObj "list" #[] 0)).update s.heap.objs.size (Obj.mapSeq (· ++ vs.toArray)) }
  refine wpAny_bind (wpAny_load (get?_update_seq (Heap.get?_push_size _ rfl) _) ?_)
  show wpAny _ _ (pure ((#[] : Array Value) ++ vs.toArray).toList) Q E _
  rw [show ((#[] : Array Value) ++ vs.toArray).toList = vs by simp]
  exact wpAny_pure h
theorem collected_kept {h : Heap} {vs : Array Value} {b : Addr} {o : Obj} (e : h.get? b = some o) : ((h.push (seqObj "list" #[] 0)).update h.objs.size (Obj.mapSeq (· ++ vs))).get? b = some o := by
  have hlt := Heap.lt_size e
  rw [Heap.get?_update_ne _ _ _ _ (Nat.ne_of_lt hlt)]
  exact Heap.get?_push_of_some _ e
theorem isKeys_of {H : Hp} : ∀ {kvs : List (List Key × V)} {ks : List (List Key × Addr × Value)}, Paired (fun (p : List Key × V) (q : List Key × Addr × Value) => p.1 = q.1 ∧ H q.2.1 = some (.tup (p.1.map kV)) ∧ RelV p.2 q.2.2) kvs ks → IsKeys H kvs (ks.map fun x => x.2.1)
  | _, _, .nil => .nil
  | _, _, .cons h t => .cons h.2.1 (isKeys_of t)
theorem refs_vals : ∀ ks : List (List Key × Addr × Value), Vals ((ks.map fun x => x.2.1).map V.ref) (ks.map fun x => Value.ref x.2.1)
  | [] => .nil
  | _ :: t => .cons rfl (refs_vals t)
def rSortAll (X : Cx) : List V → Hp → VK → Prop := fun vs H Q => ∃ (v : V) (Good : List V → List PyData → Prop), vs = [v] ∧
  ((∃ a xs ds, v = .ref a ∧ (SqL X.K H a xs ∨ SqT X.K H a xs) ∧ Good = (fun ys es => ys = xs ∧ es = ds)) ∨ (∃ a kvs, v = .ref a ∧ Rd H a (.dT kvs) ∧ Good = fun ys es => ∃ bs, ys = bs.map V.ref ∧ IsKeys H kvs bs ∧ es = kvs.map fun kv => .tuple (kv.1.map kD))) ∧
  (∀ xs ds, Good xs ds → DpAll X.K H xs ds ∧ sortOk ds = true) ∧
  ∀ xs ds p, Good xs ds → H p = none → Q (.ref p) (upd H p (.lst (((xs.zip ds).mergeSort (dataLe false Prod.snd)).map Prod.fst)))
theorem cr_sortAll {k : Nat} (hc : X.calm = true) (hr : Room k X.A) : CallR X (.builtin "sorted") (rSortAll X) := by
  intro pins s σ H vs us Q I r h
  obtain ⟨v, Good, rfl, src, hg, q⟩ := h
  obtain ⟨u, rfl, rx⟩ := vals1 r
  refine sorted_gen I hr (fun R E k => ?_) hg q
  rcases src with ⟨a, xs, ds, rfl, hs, rfl⟩ | ⟨a, kvs, rfl, hd, rfl⟩
  · cases rx
    rcases hs with hs | hs
    · obtain ⟨its, rv, p, hz⟩ := I.list hs
      exact collect_list p.isList (k _ its xs ds (fun b o e => collected_kept e) rfl rfl ⟨rfl, rfl⟩ rv) (by rw [← rv.length]; exact hz)
    · obtain ⟨its, rv, p, hz⟩ := I.tuple hs
      exact collect_tuple p (k _ its xs ds (fun b o e => collected_kept e) rfl rfl ⟨rfl, rfl⟩ rv) (by rw [← rv.length]; exact hz)
  · cases rx
    obtain ⟨z, hs, ks, pr, o, es, ep, ho, hx, hdt, he, hn⟩ := (show ObjOk X.prog X.w H s.heap a (.dT kvs) from hd.ok I.hok)
    have l1 : es.size = ks.length := size_of_entries he
    have l2 : kvs.length = ks.length := Paired.length pr
    refine PySem.W.kdu_collect (A := X.A.in1) (kdl_raw hs hx hdt) (I.ok.hd hc) ho (by omega) fun h' tk acc' kp it => ?_
    have ea : acc'.toList = ks.map fun x => Value.ref x.2.1 := by
      have hl : acc'.toList.length = ks.length := by rw [Array.length_toList, it.1]; exact l1
      apply List.ext_getElem?
      intro j
      rw [List.getElem?_map]
      cases hj : acc'.toList[j]? with
      | none =>
        have h1 := List.getElem?_eq_none_iff.mp hj
        rw [List.getElem?_eq_none (by omega)]
        all_goals rfl
      | some v =>
        obtain ⟨en, hen, hv⟩ := it.2 j v (by rw [← Array.getElem?_toList]; exact hj)
        have qe := entry_at he j
        rw [hen] at qe
        cases hb : ks[j]? with
        | none =>
          rw [hb] at qe
          exact nomatch (show some en = none from qe)
        | some b =>
          rw [hb] at qe
          have e2 : en = entryOfKey (tupleKind (mixKind X.prog X.w)) b := Option.some.inj qe
          rw [hv, e2]
          rfl
    have hk : IsKeys H kvs (ks.map fun x => x.2.1) := isKeys_of pr
    refine k _ acc'.toList _ _ kp rfl rfl ⟨ks.map fun x => x.2.1, rfl, hk, rfl⟩ ?_
    rw [ea]
    exact refs_vals ks
theorem MemR.tups {K : PySem.W.Frag} {G H : Hp} {i : List Addr} {M : Mem} (m : MemR K G H i M) (bs : List Addr) (hb : ∀ b ∈ bs, ∃ xs, H b = some (.tup xs)) : ∃ G', Sub G G' ∧ MemR K G' H i M ∧ ∀ b ∈ bs, G' b = H b := by
  have s0 : Sub G (fun x => if x ∈ bs then H x else G x) := fun a o e => by
    show (if a ∈ bs then H a else G a) = some o
    split
    · exact m.sub a o e
    · exact e
  refine ⟨fun x => if x ∈ bs then H x else G x, s0, ⟨fun a o e => ?_, m.nd, m.len, fun l a c ea ec hk => ?_, fun l a c e1 e2 e3 => ?_, fun l a ds e1 e2 => ?_, m.tab, fun a ps e => ?_⟩, fun b hb => if_pos hb⟩
  · have e : (if a ∈ bs then H a else G a) = some o := e
    split at e
    · exact e
    · exact m.sub a o e
  · show (if a ∈ bs then H a else G a) = none
    split
    · rename_i hm
      obtain ⟨xs, h1⟩ := hb a hm
      obtain ⟨o, g, t⟩ := m.at_ l a c ea ec hk
      rw [h1] at g
      cases g
      cases t
    · exact m.fr l a c ea ec hk
  · obtain ⟨o, g, t⟩ := m.at_ l a c e1 e2 e3
    exact ⟨o, g, t.mono s0⟩
  · obtain ⟨od, u, g, t⟩ := m.lk_ l a ds e1 e2
    exact ⟨od, u, s0 _ _ g, t.mono s0⟩
  · have e : (if a ∈ bs then H a else G a) = some (.tbl ps) := e
    split at e
    · rename_i hm
      obtain ⟨xs, h1⟩ := hb a hm
      rw [h1] at e
      cases e
    · exact m.nt a ps e
@[simp] def tupKeys : List (PyData × PyData) → Bool
  | [] => true
  | (.tuple _, _) :: r => tupKeys r
  | _ :: _ => false
@[simp] def sortF : PyData → Option Rv
  | .list ds => if sortOk ds = true then some (.own (.list (sortD ds))) else none
  | .tuple ds => if sortOk ds = true then some (.own (.list (sortD ds))) else none
  | _ => none
theorem cd_sorted : CallD X (rSortAll X) (one sortF) := by
  intro G H i M vs ws res Q m r e q
  obtain ⟨v, d, rfl, c, e⟩ := one_use m r e
  have seq : ∀ {a : Addr} {xs : List V} {ds : List PyData}, (SqL X.K H a xs ∨ SqT X.K H a xs) → RpAll X.K G xs ds → sortOk ds = true → res = .own (.list (sortD ds)) → rSortAll X [.ref a] H Q := by
    intro a xs ds hs t ok er
    subst er
    refine ⟨.ref a, _, rfl, .inl ⟨a, xs, ds, rfl, hs, rfl⟩, fun ys es z => ?_, fun ys es p z hp => ?_⟩
    · obtain ⟨rfl, rfl⟩ := z
      exact ⟨t.dp m.sub (sortOk_lay ok), ok⟩
    · obtain ⟨rfl, rfl⟩ := z
      exact q (.ref p) G _ (Sub.refl _) (m.grow hp) ⟨p, _, rfl, m.gfree hp, m.notin hp, upd_same, .lst t.sorted⟩
  cases d with
  | list ds =>
    obtain ⟨p, xs, rfl, h1, h2⟩ := c.list
    obtain ⟨ok, h3⟩ := if_some e
    exact seq (.inl h1) h2 ok h3.symm
  | tuple ds =>
    obtain ⟨p, xs, rfl, h1, h2⟩ := c.tuple
    obtain ⟨ok, h3⟩ := if_some e
    exact seq (.inr (m.sub.t h1)) h2 ok h3.symm
  | _ => cases e
theorem d_sorted {p : Pos} {e : Expr} {k : Nat} (hc : X.calm = true) (hr : Room k X.A) (hm : X.mg "sorted" = none) (ha : PA X [e] (tDA X.K W fa)) (hg : Gl X "sorted" := by rfl) (he : starEach [e] X.env = (false, eval e X.env) :: starEach [] X.env := by rfl) :
    PE X (.Call (.Name "sorted" p) [e] [] pos) (tD X.K W (dCB (one sortF) fa)) := d_callB (cr_sortAll hc hr) cd_sorted hg hm (by decide +kernel) ha (by decide) (by decide) he rfl
def rgD (a b : Int) : List PyData := (List.range (b - a).toNat).map fun j => .int (a + (j : Nat))
theorem rg_rp {K : PySem.W.Frag} {G : Hp} (a b : Int) : RpAll K G (rgV a b) (rgD a b) := by
  unfold rgV rgD
  generalize List.range (b - a).toNat = l
  induction l with
  | nil => exact .nil
  | cons x r ih => exact .cons (.int _) ih
@[simp] def rgOk (a b : Int) : Bool := decide (a.natAbs < 2 ^ 62 ∧ b.natAbs < 2 ^ 62 ∧ (b - a).toNat ≤ 2 ^ 24)
@[simp] def asI (r : Rv) (M : Mem) : Ans Int := match r with
  | .w (.d (.int b)) => .val b M
  | _ => .bad
theorem asI_use {K : PySem.W.Frag} {G : Hp} {i : List Addr} {M : Mem} {s : L2.St} {r : Rv} {A B : Type} {Rel : Hp → Hp → List Addr → B → A → Prop} {Q : B → Hp → Prop} {k : Int → Mem → Ans A} (q : Ask K W Rel G i s Q ((asI r M).bind k)) :
    ∃ b, r = vI b ∧ Ask K W Rel G i s Q (k b M) := by
  cases r with
  | own c => exact q.elim
  | w x =>
    cases x with
    | d y =>
      cases y with
      | int b => exact ⟨b, rfl, q⟩
      | _ => exact q.elim
    | _ => exact q.elim
theorem int_of {K : PySem.W.Frag} {G H : Hp} {i : List Addr} {v : V} {b : Int} (h : ResR K G H i v (vI b)) : v = .int b := by
  have h : Rp K G v (.int b) := h
  cases h
  rfl
@[simp] def dTupRg (f : Den) : Den := fun e M => (f e M).bind fun x M1 => (asI x M1).bind fun n M2 => if rgOk 0 n = true then .val (.w (.d (.tuple (rgD 0 n)))) M2 else .bad
@[simp] def dLstRg (f : Den) : Den := fun e M => (f e M).bind fun x M1 => (asI x M1).bind fun n M2 => if rgOk 0 n = true then .val (.own (.list (rgD 0 n))) M2 else .bad
theorem d_lstRg {p p2 pos2 : Pos} {e : Expr} (hc : X.calm = true) (hmt : X.mg "list" = none) (hmr : X.mg "range" = none) (ha : PE X e (tD X.K W f)) (hgt : Gl X "list" := by rfl) (hgr : Gl X "range" := by rfl)
    (na : starEach [e] X.env = (false, eval e X.env) :: starEach [] X.env := by rfl)
    (nb : starEach [Expr.Call (.Name "range" p2) [e] [] pos2] X.env = (false, eval (Expr.Call (.Name "range" p2) [e] [] pos2) X.env) :: starEach [] X.env := by rfl) :
    PE X (.Call (.Name "list" p) [.Call (.Name "range" p2) [e] [] pos2] [] pos) (tD X.K W (dLstRg f)) :=
  PE.weak (pe_listRg hc hgt hmt (prg_1 hgr hmr ha na) nb) fun s H Q q => by
    obtain ⟨G, i, e, M, he, hm, q⟩ := q
    refine tG.go he hm q fun v x M1 G1 H1 s1 m1 r1 q => ?_
    obtain ⟨n, rfl, q⟩ := asI_use q
    simp only [asI, vI, Ans.bind] at q
    split at q
    · rename_i ok
      refine ⟨n, int_of r1, (by unfold RgOk; have := of_decide_eq_true ok; omega), fun l hl => ?_⟩
      exact q (.ref l) _ _ (Sub.refl _) (m1.grow hl) ⟨l, _, rfl, m1.gfree hl, m1.notin hl, upd_same, .lst (rg_rp 0 n)⟩
    · exact q.elim
def cutD {A : Type} (xs : List A) (lo hi : Option Int) : List A := (xs.drop (HT.sIx xs.length 0 lo)).take (HT.sIx xs.length xs.length hi - HT.sIx xs.length 0 lo)
theorem RpAll.cut {K : PySem.W.Frag} {G : Hp} {xs : List V} {ds : List PyData} (h : RpAll K G xs ds) (lo hi : Option Int) : RpAll K G (cutV xs lo hi) (cutD ds lo hi) := by
  unfold cutV cutD
  rw [h.length]
  exact (h.drop _).take _
@[simp] def pNo : En → Mem → Ans (Option Int) := fun _ M => .val none M
@[simp] def pYes (f : Den) : En → Mem → Ans (Option Int) := fun e M => (f e M).bind fun x M1 => (asI x M1).bind fun n M2 => .val (some n) M2
abbrev tDO (K : PySem.W.Frag) (W : WX) (f : En → Mem → Ans (Option Int)) : TO := tG K W (fun _ _ _ (b : Option Int) a => b = a) f
theorem PO.weak {e : Option Expr} {t t' : TO} (h : PO X e t) (w : ∀ s H Q, t' s H Q → t s H Q) : PO X e t' := ⟨fun pins s σ H Q I q => h.run pins s σ H Q I (w _ _ _ q)⟩
theorem p_no : PO X none (tDO X.K W pNo) := PO.weak po_none fun s H Q q => by
  obtain ⟨G, i, e, M, he, hm, q⟩ := q
  exact q _ G H (Sub.refl _) hm rfl
theorem p_yes {e : Expr} (he : PE X e (tD X.K W f)) : PO X (some e) (tDO X.K W (pYes f)) := PO.weak (po_some he) fun s H Q q => by
  obtain ⟨G, i, e, M, he, hm, q⟩ := q
  refine tG.go he hm q fun v x M1 G1 H1 s1 m1 r1 q => ?_
  obtain ⟨n, rfl, q⟩ := asI_use q
  exact ⟨n, int_of r1, q _ G1 H1 (Sub.refl _) m1 rfl⟩
@[simp] def slR (x : Wv) (lo hi : Option Int) (M : Mem) : Ans Rv := match x.rdK M with
  | some (.list ds) => .val (.own (.list (cutD ds lo hi))) M
  | some (.tuple ds) => .val (.w (.d (.tuple (cutD ds lo hi)))) M
  | some (.str z) => if z.length ≤ sizeLine then .val (.w (.d (.str (cutS z lo hi)))) M else .bad
  | _ => .bad
@[simp] def dSl (f : Den) (lo hi : En → Mem → Ans (Option Int)) : Den := fun e M => (f e M).bind fun x M1 => (lo e M1).bind fun l M2 => (hi e M2).bind fun h M3 => slR x.fz l h M3
theorem d_sl {e : Expr} {lo hi : Option Expr} {p2 : Pos} {tl th : En → Mem → Ans (Option Int)} (he : PE X e (tD X.K W f)) (hl : PO X lo (tDO X.K W tl)) (hu : PO X hi (tDO X.K W th)) : PE X (.Subscript e (.Slice lo hi none p2) pos) (tD X.K W (dSl f tl th)) :=
  PE.weak (pe_slice (SlR.or sl_list (SlR.or Lt.sl_tupX sl_str)) he hl hu) fun s H Q q => by
    obtain ⟨G, i, e, M, he, hm, q⟩ := q
    refine tD.goW he hm q fun v x M1 G1 H1 s1 m1 r1 q => ?_
    refine tG.go (he.mono s1 (List.prefix_refl i)) m1 q fun l _ M2 G2 H2 s2 m2 e2 q => ?_
    subst e2
    refine tG.go (he.mono (s1.trans s2) (List.prefix_refl i)) m2 q fun u _ M3 G3 H3 s3 m3 e3 q => ?_
    subst e3
    have r3 := r1.mono (s2.trans s3) (List.prefix_refl i)
    unfold slR at q
    cases z : x.fz.rdK M3 with
    | none => rw [z] at q; exact q.elim
    | some d =>
      rw [z] at q
      have c := r3.cnK m3 z
      cases d with
      | list ds =>
        obtain ⟨p, xs, rfl, h1, h2⟩ := c.list
        exact .inl ⟨p, xs, rfl, h1, fun k hk => q (.ref k) _ _ (Sub.refl _) (m3.grow hk) ⟨k, _, rfl, m3.gfree hk, m3.notin hk, upd_same, .lst (h2.cut _ _)⟩⟩
      | tuple ds =>
        obtain ⟨p, xs, rfl, h1, h2⟩ := c.tuple
        refine .inr (.inl ⟨p, xs, rfl, m3.sub.t h1, fun hw => ?_, fun _ => ⟨needF (cutD ds l u), fun k o ho hk => ?_⟩⟩)
        · have hw' : HT.sIx ds.length 0 l = 0 ∧ HT.sIx ds.length ds.length u = ds.length := by rw [← h2.length]; exact hw
          have hcd : cutD ds l u = ds := by
            unfold cutD
            rw [hw'.1, hw'.2]
            simp
          have q : Ask X.K W (ResR X.K) G3 i s Q (.val (.w (.d (.tuple (cutD ds l u)))) M3) := q
          rw [hcd] at q
          exact q (.ref p) G3 H3 (Sub.refl _) m3 (.tup h1 h2)
        · exact q (.ref k) _ _ (Sub.new (m3.gfree hk)) (m3.newTup hk) (.tup (.new ho) ((h2.cut _ _).mono (Sub.new (m3.gfree hk))))
      | str y =>
        have := c.str
        subst this
        simp only at q
        split at q
        · rename_i hz
          exact .inr (.inr ⟨y, rfl, hz, q _ G3 H3 (Sub.refl _) m3 (.str _)⟩)
        · exact q.elim
      | _ => exact q.elim
end
end Lf
set_option Elab.async false
set_option linter.all false
set_option maxRecDepth 100000
set_option maxHeartbeats 4000000
namespace Lf
open PySem PySem.Spec PyProof.Rows L2
mutual
def beqD : PyData → PyData → Bool
  | .none, .none => true
  | .bool a, .bool b => a == b
  | .int a, .int b => a == b
  | .str a, .str b => a == b
  | .list a, .list b => beqL a b
  | .tuple a, .tuple b => beqL a b
  | .dict a, .dict b => beqK a b
  | _, _ => false
def beqL : List PyData → List PyData → Bool
  | [], [] => true
  | x :: xs, y :: ys => beqD x y && beqL xs ys
  | _, _ => false
def beqK : List (PyData × PyData) → List (PyData × PyData) → Bool
  | [], [] => true
  | (x, u) :: xs, (y, v) :: ys => beqD x y && beqD u v && beqK xs ys
  | _, _ => false
end
mutual
theorem beqD_refl : ∀ d : PyData, beqD d d = true
  | .none => rfl
  | .bool a => by simp [beqD]
  | .int a => by simp [beqD]
  | .str a => by simp [beqD]
  | .list a => by simp [beqD, beqL_refl a]
  | .tuple a => by simp [beqD, beqL_refl a]
  | .dict a => by simp [beqD, beqK_refl a]
theorem beqL_refl : ∀ d : List PyData, beqL d d = true
  | [] => rfl
  | x :: xs => by simp [beqL, beqD_refl x, beqL_refl xs]
theorem beqK_refl : ∀ d : List (PyData × PyData), beqK d d = true
  | [] => rfl
  | (x, u) :: xs => by simp [beqK, beqD_refl x, beqD_refl u, beqK_refl xs]
end
mutual
theorem beqD_eq : ∀ (a b : PyData), beqD a b = true → a = b
  | .none, b, h => by cases b <;> simp [beqD] at h; rfl
  | .bool a, b, h => by cases b <;> simp [beqD] at h; rw [h]
  | .int a, b, h => by cases b <;> simp [beqD] at h; rw [h]
  | .str a, b, h => by cases b <;> simp [beqD] at h; rw [h]
  | .list a, b, h => by cases b <;> simp [beqD] at h; rw [beqL_eq _ _ h]
  | .tuple a, b, h => by cases b <;> simp [beqD] at h; rw [beqL_eq _ _ h]
  | .dict a, b, h => by cases b <;> simp [beqD] at h; rw [beqK_eq _ _ h]
theorem beqL_eq : ∀ (a b : List PyData), beqL a b = true → a = b
  | [], b, h => by cases b <;> simp [beqL] at h; rfl
  | x :: xs, b, h => by
    cases b with
    | nil => simp [beqL] at h
    | cons y ys => simp [beqL] at h; rw [beqD_eq _ _ h.1, beqL_eq _ _ h.2]
theorem beqK_eq : ∀ (a b : List (PyData × PyData)), beqK a b = true → a = b
  | [], b, h => by cases b <;> simp [beqK] at h; rfl
  | (x, u) :: xs, b, h => by
    cases b with
    | nil => simp [beqK] at h
    | cons y ys => obtain ⟨y, v⟩ := y; simp [beqK] at h; rw [beqD_eq _ _ h.1.1, beqD_eq _ _ h.1.2, beqK_eq _ _ h.2]
end
abbrev Items := List PyData × (Mem → Bool)
def SrcD (K : PySem.W.Frag) (G1 : Hp) (i1 : List Addr) (J : It) (a : Items) : Prop :=
  ∀ (G H : Hp) (i : List Addr) (M : Mem), Sub G1 G → i1 <+: i → MemR K G H i M → a.2 M = true →
    (∀ k, k < a.1.length → J.go k H) ∧ J.stop a.1.length H ∧ ∀ k v H', k < a.1.length → J.yld k H v H' → ∃ G' d, Sub G G' ∧ MemR K G' H' i M ∧ a.1[k]? = some d ∧ Rp K G' v d
abbrev tDI (K : PySem.W.Frag) (W : WX) (f : En → Mem → Ans Items) : TI := tG K W (fun G _ i J a => SrcD K G i J a) f
theorem PI.weak {X : Cx} {tg e : Expr} {t t' : TI} (h : PI X tg e t) (w : ∀ s H Q, t' s H Q → t s H Q) : PI X tg e t' := ⟨fun pins s σ H Q I q => h.run pins s σ H Q I (w _ _ _ q)⟩
theorem PI.or {X : Cx} {tg e : Expr} {t t' : TI} (h : PI X tg e t) (h' : PI X tg e t') : PI X tg e (fun s H Q => t s H Q ∨ t' s H Q) := ⟨fun pins s σ H Q I q => q.elim (h.run pins s σ H Q I) (h'.run pins s σ H Q I)⟩
@[simp] def itR (x : Wv) (M : Mem) : Ans Items := match x with
  | .d (.list ds) => .val (ds, fun _ => true) M
  | .d (.tuple ds) => .val (ds, fun _ => true) M
  | .k ds => .val (ds, fun _ => true) M
  | .r l => (match M[l]? with
    | some (.list ds) => .val (ds, fun M' => match M'[l]? with
      | some c => beqD c (.list ds)
      | none => false) M
    | _ => .bad)
  | _ => .bad
@[simp] def iSeq (f : Den) : En → Mem → Ans Items := fun e M => (f e M).bind fun x M1 => itR x.fz M1
theorem src_tup {K : PySem.W.Frag} {G : Hp} {i : List Addr} {a : Addr} {xs : List V} {ds : List PyData} {chk : Mem → Bool} (h : TupAt K G a xs ds) (t : RpAll K G xs ds) : SrcD K G i (Itt K a) (ds, chk) := by
  intro G' H' i' M s p m _
  have hq : SqT K H' a xs := (s.trans m.sub).t h
  have hl := t.length
  refine ⟨fun k hk => ⟨xs, xs[k]'(by simp at hk; omega), hq, by simp at hk; simp [show k < xs.length by omega]⟩, ⟨xs, hq, by simp; omega⟩, fun k v H2 hk y => ?_⟩
  obtain ⟨rfl, y⟩ := y
  obtain ⟨d, h1, h2⟩ := t.getV (y xs hq)
  exact ⟨G', d, Sub.refl _, m, h1, h2.mono s⟩
theorem src_lst {K : PySem.W.Frag} {G : Hp} {i : List Addr} {a : Addr} {ds : List PyData} {chk : Mem → Bool} (h : ∀ (G' H' : Hp) (i' : List Addr) (M : Mem), Sub G G' → i <+: i' → MemR K G' H' i' M → chk M = true → ∃ xs, SqL K H' a xs ∧ RpAll K G' xs ds) : SrcD K G i (Itl K a) (ds, chk) := by
  intro G' H' i' M s p m c
  obtain ⟨xs, hq, t⟩ := h G' H' i' M s p m c
  have hl := t.length
  refine ⟨fun k hk => ⟨xs, xs[k]'(by simp at hk; omega), hq, by simp at hk; simp [show k < xs.length by omega]⟩, ⟨xs, hq, by simp; omega⟩, fun k v H2 hk y => ?_⟩
  obtain ⟨rfl, y⟩ := y
  obtain ⟨d, h1, h2⟩ := t.getV (y xs hq)
  exact ⟨G', d, Sub.refl _, m, h1, h2⟩
section
variable {X : Cx} {W : WX} {f g h : Den} {a b c : Expr} {pos : Pos} {tg : Expr}
theorem i_seq {e : Expr} (he : PE X e (tD X.K W f)) : PI X tg e (tDI X.K W (iSeq f)) := PI.weak (PI.or (pi_list he) (pi_tup he)) fun s H R q => by
  obtain ⟨G, i, e, M, he, hm, q⟩ := q
  -- which kind it is, is told by the denotation
  have bad : ∀ {x : Ans Rv}, (x = .bad ∨ ∃ y M', x = .exc y M') → f e M = x → (iList X.K (tD X.K W f) s H R ∨ iTup X.K (tD X.K W f) s H R) := by
    intro x hx ex
    left
    refine ⟨G, i, e, M, he, hm, ?_⟩
    rcases hx with rfl | ⟨y, M', rfl⟩
    · simp only [iSeq, ex, Ans.bind] at q
      exact q.elim
    · simp only [iSeq, ex, Ans.bind] at q
      rw [ex]
      exact q
  cases ex : f e M with
  | bad => exact bad (.inl rfl) ex
  | exc y M' => exact bad (.inr ⟨y, M', rfl⟩) ex
  | val x M1 =>
    simp only [iSeq, ex, Ans.bind] at q
    have list : ∀ (P : V → Prop), (∀ v G1 H1, Sub G G1 → MemR X.K G1 H1 i M1 → RpW X.K G1 i v x.fz → ∃ a, v = .ref a ∧ (∃ xs, SqL X.K H1 a xs) ∧ R (Itl X.K a) H1) → iList X.K (tD X.K W f) s H R := by
      intro _ k
      refine ⟨G, i, e, M, he, hm, ?_⟩
      rw [ex]
      intro v G1 H1 s1 m1 r1
      obtain ⟨G2, s2, m2, r2⟩ := r1.fz m1
      exact k v G2 H1 (s1.trans s2) m2 r2
    have tup : (∀ v G1 H1, Sub G G1 → MemR X.K G1 H1 i M1 → RpW X.K G1 i v x.fz → ∃ a, v = .ref a ∧ (∃ xs, SqT X.K H1 a xs) ∧ R (Itt X.K a) H1) → iTup X.K (tD X.K W f) s H R := by
      intro k
      refine ⟨G, i, e, M, he, hm, ?_⟩
      rw [ex]
      intro v G1 H1 s1 m1 r1
      obtain ⟨G2, s2, m2, r2⟩ := r1.fz m1
      exact k v G2 H1 (s1.trans s2) m2 r2
    cases hx : x.fz with
    | d y =>
      rw [hx] at q list tup
      cases y with
      | list ds =>
        refine .inl (list (fun _ => True) fun v G1 H1 s1 m1 r1 => ?_)
        have r1 : Rp X.K G1 v (.list ds) := r1
        cases r1 with
        | lst h1 t => exact ⟨_, rfl, ⟨_, .of (m1.sub _ _ h1)⟩, q _ G1 H1 s1 m1 (src_lst fun G2 H2 i2 M2 a b c _ => ⟨_, .of (c.sub _ _ (a _ _ h1)), t.mono a⟩)⟩
      | tuple ds =>
        refine .inr (tup fun v G1 H1 s1 m1 r1 => ?_)
        have r1 : Rp X.K G1 v (.tuple ds) := r1
        cases r1 with
        | tup h1 t => exact ⟨_, rfl, ⟨_, m1.sub.t h1⟩, q _ G1 H1 s1 m1 (src_tup h1 t)⟩
      | _ => exact q.elim
    | k ds =>
      rw [hx] at q list
      refine .inl (list (fun _ => True) fun v G1 H1 s1 m1 r1 => ?_)
      obtain ⟨a, vs, rfl, h1, t⟩ := r1
      exact ⟨_, rfl, ⟨_, m1.sub.l h1⟩, q _ G1 H1 s1 m1 (src_lst fun G2 H2 i2 M2 a b c _ => ⟨_, c.sub.l (a.l h1), t.mono a⟩)⟩
    | r l =>
      rw [hx] at q list
      simp only [itR] at q
      cases hl : M1[l]? with
      | none => rw [hl] at q; exact q.elim
      | some c =>
        rw [hl] at q
        cases c with
        | list ds =>
          refine .inl (list (fun _ => True) fun v G1 H1 s1 m1 r1 => ?_)
          obtain ⟨a, h1, rfl⟩ := r1
          obtain ⟨o, h2, h3⟩ := m1.at_ l a _ h1 hl rfl
          cases h3 with
          | lst h3 =>
            refine ⟨a, rfl, ⟨_, .of h2⟩, q _ G1 H1 s1 m1 (src_lst fun G2 H2 i2 M2 a2 b c2 hc => ?_)⟩
            cases hl2 : M2[l]? with
            | none => rw [hl2] at hc; cases hc
            | some c3 =>
              rw [hl2] at hc
              have := beqD_eq _ _ hc
              subst this
              obtain ⟨o, h4, h5⟩ := c2.at_ l a _ (get_pre b h1) hl2 rfl
              cases h5 with
              | lst h5 => exact ⟨_, .of h4, h5⟩
        | _ => exact q.elim
    | f a => rw [hx] at q; exact q.elim
    | er a d fs => rw [hx] at q; exact q.elim
end
end Lf
set_option Elab.async false
set_option linter.all false
set_option maxRecDepth 100000
set_option maxHeartbeats 4000000
namespace Lf
open PySem PySem.Spec PyProof.Rows L2
def TgOk (K : PySem.W.Frag) (g : TG) (tg : PyData → En → Option En) (js : List Nat) : Prop :=
  ∀ (G H : Hp) (i : List Addr) (M : Mem) (v : V) (d : PyData) (e e1 : En) (s : L2.St) (Q : L2.St → Hp → Prop), MemR K G H i M → EnvR K G i e s → Rp K G v d → tg d e = some e1 →
    (∀ s1, EnvR K G i e1 s1 → (∀ vs : List Nat, (∀ j ∈ js, j ∈ vs) → wipe s1 vs = wipe s vs) → Q s1 H) → g v s H Q
@[simp] def tgN (j : Nat) : PyData → En → Option En := fun d e => some (e.set j (some (.d d)))
theorem wipe_set {s : L2.St} {v : Option V} {j : Nat} : ∀ {vs : List Nat}, j ∈ vs → wipe (s.set j v) vs = wipe s vs
  | k :: vs, h => by
    show (wipe (s.set j v) vs).set k none = (wipe s vs).set k none
    by_cases hk : j = k
    · subst hk
      by_cases hj : j ∈ vs
      · rw [wipe_set hj]
      · have : ∀ (vs : List Nat), (wipe (s.set j v) vs).set j none = (wipe s vs).set j none := by
          intro vs
          induction vs with
          | nil => show (s.set j v).set j none = s.set j none; rw [List.set_set]
          | cons a t ih =>
            show ((wipe (s.set j v) t).set a none).set j none = ((wipe s t).set a none).set j none
            by_cases ha : a = j
            · subst ha; rw [List.set_set, List.set_set, ih]
            · rw [List.set_comm _ _ ha, ih, List.set_comm _ _ (Ne.symm ha)]
        exact this vs
    · rw [wipe_set (List.mem_of_ne_of_mem hk h)]
theorem tg_name {K : PySem.W.Frag} {j : Nat} : TgOk K (gName j) (tgN j) [j] := by
  intro G H i M v d e e1 s Q m he r h q
  cases h
  exact q _ (he.set j (w := .d d) r) fun vs hv => wipe_set (hv j (by simp))
@[simp] def tgS : List Nat → List PyData → En → Option En
  | [], [], e => some e
  | j :: js, d :: ds, e => tgS js ds (e.set j (some (.d d)))
  | _, _, _ => none
def gS : List Nat → TGs
  | [] => gNil
  | j :: js => gCons (gName j) (gS js)
theorem tgS_ok {K : PySem.W.Frag} : ∀ (js : List Nat) (G H : Hp) (i : List Addr) (xs : List V) (ds : List PyData) (e e1 : En) (s : L2.St) (Q : L2.St → Hp → Prop), EnvR K G i e s → RpAll K G xs ds → tgS js ds e = some e1 →
    (∀ s1, EnvR K G i e1 s1 → (∀ vs : List Nat, (∀ j ∈ js, j ∈ vs) → wipe s1 vs = wipe s vs) → Q s1 H) → gS js xs s H Q
  | [], G, H, i, xs, ds, e, e1, s, Q, he, r, h, q => by
    cases ds with
    | nil =>
      cases r
      cases h
      exact ⟨rfl, q s he fun _ _ => rfl⟩
    | cons d ds => cases h
  | j :: js, G, H, i, xs, ds, e, e1, s, Q, he, r, h, q => by
    cases ds with
    | nil => cases h
    | cons d ds =>
      cases r with
      | @cons v vs _ _ r t =>
        refine ⟨v, vs, rfl, ?_⟩
        show gS js vs (s.set j (some v)) H Q
        refine tgS_ok js G H i vs ds _ e1 _ Q (he.set j (w := .d d) r) t h fun s1 h1 h2 => q s1 h1 fun ws hw => ?_
        rw [h2 ws fun k hk => hw k (List.mem_cons_of_mem _ hk), wipe_set (hw j List.mem_cons_self)]
@[simp] def tgT (js : List Nat) : PyData → En → Option En
  | .tuple ds, e => tgS js ds e
  | _, _ => none
theorem tgS_len : ∀ {js : List Nat} {ds : List PyData} {e e1 : En}, tgS js ds e = some e1 → ds.length = js.length
  | [], [], _, _, _ => rfl
  | _ :: js, _ :: ds, e, _, h => congrArg Nat.succ (tgS_len (js := js) (ds := ds) h)
  | [], _ :: _, _, _, h => by cases h
  | _ :: _, [], _, _, h => by cases h
theorem tg_tup {K : PySem.W.Frag} {js : List Nat} {n : Nat} (hn : js.length = n) : TgOk K (gTup K n (gS js)) (tgT js) js := by
  intro G H i M v d e e1 s Q m he r h q
  cases d with
  | tuple ds =>
    have h : tgS js ds e = some e1 := h
    cases r with
    | @tup a xs _ h1 t => exact ⟨a, xs, rfl, m.sub.t h1, by rw [t.length, tgS_len h, hn], tgS_ok js G H i xs ds e e1 s Q he t h q⟩
  | _ => cases h
@[simp] def sNext : DenS := fun e M => .next e M
@[simp] def SAns.then (a : SAns) (g : DenS) : SAns := match a with
  | .next e M => g e M
  | x => x
@[simp] def sSeq (f g : DenS) : DenS := fun e M => (f e M).then g
@[simp] def Ans.go {A : Type} (a : Ans A) (e : En) (k : A → Mem → SAns) : SAns := match a with
  | .val x M => k x M
  | .exc x M => .exc x e M
  | .bad => .bad
@[simp] def sIf (t : DenT) (f g : DenS) : DenS := fun e M => (t e M).go e fun b M1 => if b = true then f e M1 else g e M1
@[simp] def sRet (f : Den) : DenS := fun e M => (f e M).go e fun r M1 => .ret r M1
@[simp] def sRetN : DenS := fun _ M => .ret (.w (.d .none)) M
@[simp] def sDrop (f : Den) : DenS := fun e M => (f e M).go e fun _ M1 => .next e M1
@[simp] def asgR (j : Nat) (al : Bool) (e : En) (r : Rv) (M : Mem) : SAns := match r, al with
  | .w x, _ => .next (e.set j (some x)) M
  | .own c, true => .next (e.set j (some (.r M.length))) (M ++ [c])
  | .own c, false => .next (e.set j (some (.d c))) M
@[simp] def sAsg (j : Nat) (al : Bool) (f : Den) : DenS := fun e M => (f e M).go e (asgR j al e)
@[simp] def sAsgT (tg : PyData → En → Option En) (f : Den) : DenS := fun e M => (f e M).go e fun r M1 => match r.fz with
  | .d x => (match tg x e with
    | some e1 => .next e1 M1
    | none => .bad)
  | _ => .bad
section
variable {K : PySem.W.Frag} {W : WX} {G G' H H' : Hp} {i i' : List Addr} {M M' : Mem} {e : En} {s : L2.St} {D : Ends}
theorem tG.goS {A B : Type} {Rel : Hp → Hp → List Addr → B → A → Prop} {f : En → Mem → Ans A} {k : A → Mem → SAns} {P : B → Hp → Prop}
    (he : EnvR K G i e s) (hm : MemR K G H i M) (h : AskS K W G i D ((f e M).go e k))
    (c : ∀ v r M1 G1 H1, Sub G G1 → MemR K G1 H1 i M1 → Rel G1 H1 i v r → AskS K W G1 i D (k r M1) → P v H1) : tG K W Rel f s H P := by
  refine ⟨G, i, e, M, he, hm, ?_⟩
  cases q : f e M with
  | bad => rw [q] at h; exact h
  | exc x M' => rw [q] at h; exact fun cls d G' H' h1 h2 h3 => h cls d s G' i H' h1 (List.prefix_refl i) (he.mono h1 (List.prefix_refl i)) h2 h3
  | val r M1 =>
    rw [q] at h
    exact fun v G' H' h1 h2 h3 => c v r M1 G' H' h1 h2 h3 (AskS.mono h1 (List.prefix_refl i) h)
theorem AskS.then {a : SAns} {g : DenS} (h : AskS K W G i D (a.then g)) : AskS K W G i { D with nx := tDS K W g D } a := by
  cases a with
  | next e M => exact fun s' G' i' H' h1 h2 h3 h4 => ⟨G', i', e, M, h3, h4, AskS.mono h1 h2 h⟩
  | ret r M => exact h
  | brk e M => exact h
  | cont e M => exact h
  | exc x e M => exact h
  | bad => exact h
end
section
variable {X : Cx} {W : WX} {f g : Den} {fs gs : DenS} {tf : DenT} {st : Stmt} {rest : List Stmt} {e : Expr} {pos : Pos}
theorem s_nil : PSs X [] (tDS X.K W sNext) := PSs.weak pss_nil fun D s H q => by
  obtain ⟨G, i, e, M, he, hm, q⟩ := q
  exact q s G i H (Sub.refl _) (List.prefix_refl _) he hm
theorem s_cons (h1 : PS X st (tDS X.K W fs)) (h2 : PSs X rest (tDS X.K W gs)) : PSs X (st :: rest) (tDS X.K W (sSeq fs gs)) := PSs.weak (pss_cons h1 h2) fun D s H q => by
  obtain ⟨G, i, e, M, he, hm, q⟩ := q
  exact ⟨G, i, e, M, he, hm, AskS.then q⟩
theorem s_one (h1 : PS X st (tDS X.K W fs)) : PSs X [st] (tDS X.K W fs) := pss_one h1
theorem s_if {c : Expr} {a b : List Stmt} (hc : PT X c (tDT X.K W tf)) (ha : PSs X a (tDS X.K W fs)) (hb : PSs X b (tDS X.K W gs)) : PS X (.If c a b pos) (tDS X.K W (sIf tf fs gs)) := PS.weak (ps_if hc ha hb) fun D s H q => by
  obtain ⟨G, i, e, M, he, hm, q⟩ := q
  refine tG.goS he hm q fun v r M1 G1 H1 s1 m1 r1 q => ?_
  subst r1
  cases v with
  | true => exact ⟨G1, i, e, M1, he.mono s1 (List.prefix_refl i), m1, q⟩
  | false => exact ⟨G1, i, e, M1, he.mono s1 (List.prefix_refl i), m1, q⟩
theorem s_ret (he : PE X e (tD X.K W f)) : PS X (.Return (some e) pos) (tDS X.K W (sRet f)) := PS.weak (ps_ret he) fun D s H q => by
  obtain ⟨G, i, e, M, he, hm, q⟩ := q
  refine tG.goS he hm q fun v r M1 G1 H1 s1 m1 r1 q => ?_
  exact q v G1 i H1 (Sub.refl _) (List.prefix_refl _) m1 r1
theorem s_drop (he : PE X e (tD X.K W f)) (hs : swapsWith e none pos.line X.env = pure false := by rfl) : PS X (.Expr e pos) (tDS X.K W (sDrop f)) := PS.weak (ps_expr he hs) fun D s H q => by
  obtain ⟨G, i, e, M, he, hm, q⟩ := q
  refine tG.goS he hm q fun v r M1 G1 H1 s1 m1 r1 q => ?_
  exact q s G1 i H1 (Sub.refl _) (List.prefix_refl _) (he.mono s1 (List.prefix_refl _)) m1
@[simp] def sBad : DenS := fun _ _ => .bad
theorem asg_use {j : Nat} {al : Bool} (D : Ends) (s : L2.St) (H : Hp) (q : tDS X.K W (sAsg j al f) D s H) : tAsg (tD X.K W f) (gName j) D s H := by
  obtain ⟨G, i, e, M, he, hm, q⟩ := q
  refine tG.goS he hm q fun v r M1 G1 H1 s1 m1 r1 q => ?_
  show D.nx (s.set j (some v)) H1
  have he1 := he.mono s1 (List.prefix_refl i)
  cases r with
  | w x => exact q _ G1 i H1 (Sub.refl _) (List.prefix_refl _) (he1.set j r1) m1
  | own c =>
    cases al with
    | false =>
      obtain ⟨G2, s2, m2, r2⟩ := r1.fz m1
      exact q _ G2 i H1 s2 (List.prefix_refl _) ((he1.mono s2 (List.prefix_refl _)).set j r2) m2
    | true =>
      obtain ⟨a, o, rfl, h1, h2, h3, h4⟩ := r1
      have hp : i <+: i ++ [a] := List.prefix_append i [a]
      refine q _ G1 (i ++ [a]) H1 (Sub.refl _) hp ((he1.mono (Sub.refl _) hp).set j ⟨a, ?_, rfl⟩) (m1.push h1 h2 h3 h4)
      rw [← m1.len, List.getElem?_append_right (Nat.le_refl _)]
      simp
theorem s_asg {j : Nat} {al : Bool} {x : Str} {pos' : Pos} (hN : X.N.Nodup) (hi : X.N[j]? = some x) (hx : Loc X.env.scope x) (he : PE X e (tD X.K W f)) (hs : swapsWith e (some (.Name x pos')) pos.line X.env = pure false := by rfl) (hf : X.fn x = true ∨ X.env.scope.names.lookup x = some .local := by first | exact .inl rfl | exact .inr rfl | assumption) :
    PS X (.Assign [.Name x pos'] e pos) (tDS X.K W (sAsg j al f)) := PS.weak (ps_set hN hi hx he hs hf) asg_use
theorem s_asgT {tg : Expr} {g : TG} {tgd : PyData → En → Option En} {js : List Nat} (ht : TgOk X.K g tgd js) (he : PE X e (tD X.K W f)) (hg : PG X tg g) (hs : swapsWithSole [tg] e pos.line X.env = pure false := by rfl) (hw : swappedStores [tg] e X.env = pure none := by rfl)
    (h1 : (assignEach [tg] X.env).map (·.2) = [assign tg X.env] := by rfl) : PS X (.Assign [tg] e pos) (tDS X.K W (sAsgT tgd f)) := PS.weak (ps_asg he hg hs hw h1) fun D s H q => by
  obtain ⟨G, i, e, M, he, hm, q⟩ := q
  refine tG.goS he hm q fun v r M1 G1 H1 s1 m1 r1 q => ?_
  obtain ⟨G2, s2, m2, r2⟩ := r1.fz m1
  cases hx : r.fz with
  | d x =>
    rw [hx] at q r2
    simp only at q
    cases ht2 : tgd x e with
    | none => rw [ht2] at q; exact q.elim
    | some e1 =>
      rw [ht2] at q
      exact ht G2 H1 i M1 v x e e1 s D.nx m2 (he.mono (s1.trans s2) (List.prefix_refl _)) r2 ht2 fun st h1 _ => q st G2 i H1 s2 (List.prefix_refl _) h1 m2
  | _ => rw [hx] at q; exact q.elim
def forD (chk : Mem → Bool) (tg : PyData → En → Option En) (body : DenS) : List PyData → DenS
  | [], e, M => if chk M = true then .next e M else .bad
  | x :: xs, e, M => if chk M = true then (match tg x e with
    | none => .bad
    | some e1 => (match body e1 M with
      | .next e2 M2 => forD chk tg body xs e2 M2
      | .cont e2 M2 => forD chk tg body xs e2 M2
      | .brk e2 M2 => .next e2 M2
      | r => r)) else .bad
def sFor (it : En → Mem → Ans Items) (tg : PyData → En → Option En) (body : DenS) : DenS := fun e M => (it e M).go e fun a M1 => forD a.2 tg body a.1 e M1
theorem s_for {iter tg : Expr} {body : List Stmt} {fi : En → Mem → Ans Items} {g : TG} {tgd : PyData → En → Option En} {js : List Nat} (hp : PassesOwn (model X.prog X.w) X.A X.env X.xe) (hc : X.calm = true) (ht : TgOk X.K g tgd js) (hi : PI X tg iter (tDI X.K W fi)) (hg : PG X tg g) (hb : PSs X body (tDS X.K W fs))
    (hs : ∀ x, foldedSetIterable iter X.env x = pure x := by intro _; rfl) : PS X (.For tg iter body [] pos) (tDS X.K W (sFor fi tgd fs)) := PS.weak (ps_for hp hc hi hg hb hs) fun D s H q => by
  obtain ⟨G, i, e, M, he, hm, q⟩ := q
  refine tG.goS he hm q fun J a M1 G1 H1 s1 m1 src q => ?_
  obtain ⟨items, chk⟩ := a
  refine ⟨fun k m st Hk => m = items.length - k ∧ k ≤ items.length ∧ ∃ G2 i2 e2 M2, Sub G1 G2 ∧ i <+: i2 ∧ EnvR X.K G2 i2 e2 st ∧ MemR X.K G2 Hk i2 M2 ∧ AskS X.K W G2 i2 D (forD chk tgd fs (items.drop k) e2 M2),
    ⟨_, rfl, Nat.zero_le _, G1, i, e, M1, Sub.refl _, List.prefix_refl _, he.mono s1 (List.prefix_refl _), m1, q⟩, ?_⟩
  rintro k m st Hk ⟨rfl, hk, G2, i2, e2, M2, s2, p2, he2, m2, q⟩
  by_cases hlt : k < items.length
  · rw [List.drop_eq_getElem_cons hlt] at q
    unfold forD at q
    split at q
    · rename_i hchk
      obtain ⟨h1, h2, h3⟩ := src G2 Hk i2 M2 s2 p2 m2 hchk
      refine .inr ⟨h1 k hlt, fun st' H' => k + 1 ≤ items.length ∧ ∃ G3 i3 e3 M3, Sub G1 G3 ∧ i <+: i3 ∧ EnvR X.K G3 i3 e3 st' ∧ MemR X.K G3 H' i3 M3 ∧ AskS X.K W G3 i3 D (forD chk tgd fs (items.drop (k + 1)) e3 M3), fun st' H' ⟨z, w⟩ => ⟨_, by omega, rfl, z, w⟩, fun x H' y => ?_⟩
      obtain ⟨G3, d, s3, m3, hd, r3⟩ := h3 k x H' hlt y
      have hd2 : items[k] = d := by
        rw [List.getElem?_eq_getElem hlt] at hd
        exact Option.some.inj hd
      rw [hd2] at q
      cases htg : tgd d e2 with
      | none => rw [htg] at q; exact q.elim
      | some e3 =>
        rw [htg] at q
        refine ht G3 H' i2 M2 x d e2 e3 st _ m3 (he2.mono s3 (List.prefix_refl _)) r3 htg fun st1 h4 _ => ⟨G3, i2, e3, M2, h4, m3, ?_⟩
        have q := AskS.mono s3 (List.prefix_refl i2) q
        cases hb2 : fs e3 M2 with
        | next e4 M4 =>
          simp only [hb2] at q
          exact fun s' G' i' H'' a b c dd => ⟨hlt, G', i', e4, M4, (s2.trans s3).trans a, p2.trans b, c, dd, AskS.mono a b q⟩
        | cont e4 M4 =>
          simp only [hb2] at q
          exact fun s' G' i' H'' a b c dd => ⟨hlt, G', i', e4, M4, (s2.trans s3).trans a, p2.trans b, c, dd, AskS.mono a b q⟩
        | brk e4 M4 => simp only [hb2] at q; exact q
        | ret r M4 => simp only [hb2] at q; exact q
        | exc x e4 M4 => simp only [hb2] at q; exact q
        | bad => simp only [hb2] at q; exact q
    · exact q.elim
  · have ek : k = items.length := by omega
    subst ek
    rw [List.drop_length] at q
    unfold forD at q
    split at q
    · rename_i hchk
      obtain ⟨h1, h2, h3⟩ := src G2 Hk i2 M2 s2 p2 m2 hchk
      exact .inl ⟨h2, q st G2 i2 Hk (Sub.refl _) (List.prefix_refl _) he2 m2⟩
    · exact q.elim
end
end Lf
set_option Elab.async false
set_option linter.all false
set_option maxRecDepth 100000
set_option maxHeartbeats 4000000
namespace Lf
open PySem PySem.Spec PyProof.Rows L2
abbrev W0 : WX := fun _ _ _ _ => False
@[simp] def wipeE (e : En) : List Nat → En
  | [] => e
  | v :: vs => (wipeE e vs).set v none
theorem EnvR.none {K : PySem.W.Frag} {G : Hp} {i : List Addr} {e : En} {s : L2.St} (h : EnvR K G i e s) (j : Nat) : EnvR K G i (e.set j none) (s.set j none) := by
  refine ⟨by rw [List.length_set, List.length_set]; exact h.1, fun m w' q => ?_⟩
  by_cases hm : j = m
  · subst hm
    have hl : j < e.length := by
      have := (List.getElem?_eq_some_iff.mp q).1
      rwa [List.length_set] at this
    rw [List.getElem?_set_self hl] at q
    cases q
  · rw [List.getElem?_set_ne hm] at q
    rw [List.getElem?_set_ne hm]
    exact h.2 m w' q
theorem EnvR.wipe {K : PySem.W.Frag} {G : Hp} {i : List Addr} {e : En} {s : L2.St} (h : EnvR K G i e s) : ∀ vs : List Nat, EnvR K G i (wipeE e vs) (wipe s vs)
  | [] => h
  | v :: vs => EnvR.none (EnvR.wipe h vs) v
def lcD (l : Nat) (chk : Mem → Bool) (tg : PyData → En → Option En) (tt : DenT) (elt : Den) (e : En) : List PyData → Mem → Ans Rv
  | [], M => if chk M = true then (match M[l]? with
    | some (.list acc) => if acc.length ≤ sizeLine then .val (.own (.list acc)) (M.take l) else .bad
    | _ => .bad) else .bad
  | x :: xs, M => if chk M = true then (match tg x e with
    | none => .bad
    | some e1 => (match tt e1 M with
      | .val true M1 => (match elt e1 M1 with
        | .val r M2 => (match r.fz, M2[l]? with
          | .d d, some (.list acc) => if acc.length < sizeLine then lcD l chk tg tt elt e xs (M2.set l (.list (acc ++ [d]))) else .bad
          | _, _ => .bad)
        | _ => .bad)
      | .val false M1 => lcD l chk tg tt elt e xs M1
      | _ => .bad)) else .bad
def dLc (it : En → Mem → Ans Items) (vs : List Nat) (tg : PyData → En → Option En) (tt : DenT) (elt : Den) : Den := fun e M => (it e M).bind fun a M1 => lcD M1.length a.2 tg tt elt (wipeE e vs) a.1 (M1 ++ [.list []])
@[simp] def tTrue : DenT := fun _ M => .val true M
theorem lc_use {K : PySem.W.Frag} {W : WX} {fi : En → Mem → Ans Items} {g : TG} {tgd : PyData → En → Option En} {js vs : List Nat} {tt : TT} {te : TE} {tf : DenT} {f : Den} (ht : TgOk K g tgd js) (hj : ∀ j ∈ js, j ∈ vs)
    (htt : ∀ s H Q, tDT K W0 tf s H Q → tt s H Q) (hte : ∀ s H Q, tD K W0 f s H Q → te s H Q) (s : L2.St) (H : Hp) (Q : VK) (q : tD K W (dLc fi vs tgd tf f) s H Q) : tLc (tDI K W fi) g tt te vs s H Q := by
  obtain ⟨G, i, e, M, he, hm, q⟩ := q
  refine tG.go he hm q fun J a M1 G1 H1 s1 m1 src q => ?_
  obtain ⟨items, chk⟩ := a
  intro D hD
  have hDi : D ∉ i := m1.notin hD
  have hp : i <+: i ++ [D] := List.prefix_append i [D]
  have m2 : MemR K G1 (upd H1 D (.lst [])) (i ++ [D]) (M1 ++ [.list []]) := (m1.grow hD).push (m1.gfree hD) hDi upd_same (.lst .nil)
  have hl : M1.length = i.length := m1.len.symm
  have atD : (i ++ [D])[M1.length]? = some D := by rw [hl, List.getElem?_append_right (Nat.le_refl _)]; simp
  refine ⟨fun k m Hk => m = items.length - k ∧ k ≤ items.length ∧ ∃ G2 M2, Sub G1 G2 ∧ MemR K G2 Hk (i ++ [D]) M2 ∧ Ask K W (ResR K) G2 i s Q (lcD M1.length chk tgd tf f (wipeE e vs) (items.drop k) M2),
    ⟨_, rfl, Nat.zero_le _, G1, _, Sub.refl _, m2, q⟩, ?_⟩
  rintro k m Hk ⟨rfl, hk, G2, M2, s2, m2, q⟩
  by_cases hlt : k < items.length
  · rw [List.drop_eq_getElem_cons hlt] at q
    unfold lcD at q
    split at q
    · rename_i hchk
      obtain ⟨h1, h2, h3⟩ := src G2 Hk (i ++ [D]) M2 s2 hp m2 hchk
      refine .inr ⟨h1 k hlt, fun H' => k + 1 ≤ items.length ∧ ∃ G3 M3, Sub G1 G3 ∧ MemR K G3 H' (i ++ [D]) M3 ∧ Ask K W (ResR K) G3 i s Q (lcD M1.length chk tgd tf f (wipeE e vs) (items.drop (k + 1)) M3), fun H' ⟨z, w⟩ => ⟨_, by omega, rfl, z, w⟩, fun x H' y => ?_⟩
      obtain ⟨G3, d, s3, m3, hd, r3⟩ := h3 k x H' hlt y
      have hd2 : items[k] = d := by
        rw [List.getElem?_eq_getElem hlt] at hd
        exact Option.some.inj hd
      rw [hd2] at q
      cases htg : tgd d (wipeE e vs) with
      | none => rw [htg] at q; exact q.elim
      | some e3 =>
        rw [htg] at q
        have hew : EnvR K G3 (i ++ [D]) (wipeE e vs) (wipe s vs) := (he.mono ((s1.trans s2).trans s3) hp).wipe vs
        refine ht G3 H' (i ++ [D]) M2 x d _ e3 (wipe s vs) _ m3 hew r3 htg fun st1 h4 hw => ⟨?_, ?_⟩
        · rw [hw vs hj]
          have : ∀ (us : List Nat) (s : L2.St), (∀ j ∈ us, j ∈ vs) → L2.wipe (L2.wipe s us) vs = L2.wipe s vs := by
            intro us
            induction us with
            | nil => intro s _; rfl
            | cons u us ih =>
              intro s hu
              show L2.wipe ((L2.wipe s us).set u Option.none) vs = _
              rw [wipe_set (hu u List.mem_cons_self), ih s fun j hj => hu j (List.mem_cons_of_mem _ hj)]
          exact this vs s fun _ h => h
        · refine htt _ _ _ ⟨G3, i ++ [D], e3, M2, h4, m3, ?_⟩
          have q := Ask.mono s3 q
          cases htf : tf e3 M2 with
          | bad => simp only [htf] at q; exact q.elim
          | exc _ _ => simp only [htf] at q; exact q.elim
          | val b M3 =>
            intro b' G4 H4 s4 m4 eb
            subst eb
            have q := Ask.mono s4 q
            cases b' with
            | false =>
              simp only [htf] at q
              exact ⟨hlt, G4, M3, (s2.trans s3).trans s4, m4, q⟩
            | true =>
              simp only [htf] at q
              show te st1 H4 _
              refine hte _ _ _ ⟨G4, i ++ [D], e3, M3, h4.mono s4 (List.prefix_refl _), m4, ?_⟩
              cases hf : f e3 M3 with
              | bad => simp only [hf] at q; exact q.elim
              | exc _ _ => simp only [hf] at q; exact q.elim
              | val r M4 =>
                simp only [hf] at q
                intro v G5 H5 s5 m5 r5
                obtain ⟨G6, s6, m6, r6⟩ := r5.fz m5
                have q := Ask.mono (s5.trans s6) q
                cases hr : r.fz with
                | d dd =>
                  rw [hr] at q r6
                  cases hacc : M4[M1.length]? with
                  | none => rw [hacc] at q; exact q.elim
                  | some c =>
                    rw [hacc] at q
                    cases c with
                    | list acc =>
                      simp only at q
                      split at q
                      · rename_i hlen
                        obtain ⟨o, g1, g2⟩ := m6.at_ _ _ _ atD hacc rfl
                        cases g2 with
                        | @lst xs _ g2 =>
                          refine ⟨xs, g1, by rw [g2.length]; exact hlen, hlt, G6, _, ((s2.trans s3).trans s4).trans (s5.trans s6), m6.write atD g1 (.lst (g2.append (.cons r6 .nil))), q⟩
                      · exact q.elim
                    | _ => exact q.elim
                | _ => rw [hr] at q; exact q.elim
    · exact q.elim
  · have ek : k = items.length := by omega
    subst ek
    rw [List.drop_length] at q
    unfold lcD at q
    split at q
    · rename_i hchk
      obtain ⟨h1, h2, h3⟩ := src G2 Hk (i ++ [D]) M2 s2 hp m2 hchk
      refine .inl ⟨h2, ?_⟩
      cases hacc : M2[M1.length]? with
      | none => rw [hacc] at q; exact q.elim
      | some c =>
        rw [hacc] at q
        cases c with
        | list acc =>
          simp only at q
          split at q
          · obtain ⟨o, g1, g2⟩ := m2.at_ _ _ _ atD hacc rfl
            have mc := m2.cut (n := M1.length)
            have ei : (i ++ [D]).take M1.length = i := by rw [hl]; simp
            rw [ei] at mc
            exact q (.ref D) G2 Hk (Sub.refl _) mc ⟨D, o, rfl, m2.fr _ D _ atD hacc rfl, hDi, g1, g2⟩
          · exact q.elim
        | _ => exact q.elim
    · exact q.elim
section
variable {X : Cx} {W : WX} {f g h : Den} {fa : En → Mem → Ans (List Wv)} {a b c : Expr} {pos : Pos} {tg : Expr}
theorem PTs.weak {e : List Expr} {t t' : TT} (h : PTs X e t) (w : ∀ s H Q, t' s H Q → t s H Q) : PTs X e t' := ⟨fun pins s σ H Q I q => h.run pins s σ H Q I (w _ _ _ q)⟩
theorem ts_nil : PTs X [] (tDT X.K W tTrue) := PTs.weak pts_nil fun s H Q q => by
  obtain ⟨G, i, e, M, he, hm, q⟩ := q
  exact q true G H (Sub.refl _) hm rfl
theorem ts_one {tf : DenT} (hc : PT X c (tDT X.K W tf)) : PTs X [c] (tDT X.K W tf) := pts_one hc
theorem d_lc {elt iter : Expr} {ifs : List Expr} {scope : Scope} {own : List (Str × Nat)} {fi : En → Mem → Ans Items} {gt : TG} {tgd : PyData → En → Option En} {js : List Nat} {tf : DenT} (hc : X.calm = true) (hN : X.N.Nodup) (ok : BlkOk X.N X.env.scope scope own) (ht : TgOk X.K gt tgd js) (hj : ∀ j ∈ js, j ∈ own.map (·.2))
    (hi : PI X tg iter (tDI X.K W fi))
    (hg : ∀ (s : Shared) (H : Hp) (C : Addr) (cl : List (Str × Addr)) (fp : List Addr), PG (X.blk s H scope (compEnvC scope cl C X.env) fp) tg gt) (htt : ∀ (s : Shared) (H : Hp) (C : Addr) (cl : List (Str × Addr)) (fp : List Addr), PTs (X.blk s H scope (compEnvC scope cl C X.env) fp) ifs (tDT X.K W0 tf))
    (he : ∀ (s : Shared) (H : Hp) (C : Addr) (cl : List (Str × Addr)) (fp : List Addr), PE (X.blk s H scope (compEnvC scope cl C X.env) fp) elt (tD X.K W0 f)) (hs : ∀ x, foldedSetIterable iter X.env x = pure x := by intro _; rfl) :
    PE X (.ListComp elt [⟨tg, iter, ifs, 0⟩] scope pos) (tD X.K W (dLc fi (own.map (·.2)) tgd tf f)) :=
  PE.weak (pe_lc hc hN hi ok hg htt he hs) (lc_use ht hj (fun _ _ _ h => h) (fun _ _ _ h => h))
theorem s_asgLc {j : Nat} {al : Bool} {y : Str} {py spos : Pos} {elt iter : Expr} {ifs : List Expr} {scope : Scope} {own : List (Str × Nat)} {fi : En → Mem → Ans Items} {gt : TG} {tgd : PyData → En → Option En} {js : List Nat} {tf : DenT} (hc : X.calm = true) (hN : X.N.Nodup) (hy : X.N[j]? = some y) (hyl : X.env.scope.names.lookup y = some .local)
    (hsw : swapsWith (.ListComp elt [⟨tg, iter, ifs, 0⟩] scope pos) (some (.Name y py)) spos.line X.env = pure true) (ok : BlkOk X.N X.env.scope scope own) (ht : TgOk X.K gt tgd js) (hj : ∀ j ∈ js, j ∈ own.map (·.2))
    (hi : PI X tg iter (tDI X.K W fi))
    (hg : ∀ (s : Shared) (H : Hp) (C : Addr) (cl : List (Str × Addr)) (fp : List Addr), PG (X.blk s H scope (compEnvC scope cl C X.env) fp) tg gt) (htt : ∀ (s : Shared) (H : Hp) (C : Addr) (cl : List (Str × Addr)) (fp : List Addr), PTs (X.blk s H scope (compEnvC scope cl C X.env) fp) ifs (tDT X.K W0 tf))
    (he : ∀ (s : Shared) (H : Hp) (C : Addr) (cl : List (Str × Addr)) (fp : List Addr), PE (X.blk s H scope (compEnvC scope cl C X.env) fp) elt (tD X.K W0 f)) (hs : ∀ x, foldedSetIterable iter X.env x = pure x := by intro _; rfl) :
    PS X (.Assign [.Name y py] (.ListComp elt [⟨tg, iter, ifs, 0⟩] scope pos) spos) (tDS X.K W (sAsg j al (dLc fi (own.map (·.2)) tgd tf f))) :=
  PS.weak (ps_setLc hc hN hy hyl hsw hi ok hg htt he hs) fun D s H q => lc_use ht hj (fun _ _ _ h => h) (fun _ _ _ h => h) s H _ (asg_use D s H q)
@[simp] def iRange (f : Den) : En → Mem → Ans Items := fun e M => (f e M).bind fun x M1 => (asI x M1).bind fun n M2 => if n.natAbs < 2 ^ 62 then .val (rgD 0 n, fun _ => true) M2 else .bad
theorem src_range {K : PySem.W.Frag} {G : Hp} {i : List Addr} (a b : Int) : SrcD K G i (Itr a (b - a).toNat) (rgD a b, fun _ => true) := by
  intro G' H' i' M s p m _
  have hl : (rgD a b).length = (b - a).toNat := by simp [rgD]
  refine ⟨fun k hk => by rw [← hl]; exact hk, by show (b - a).toNat ≤ (rgD a b).length; omega, fun k v H2 hk y => ?_⟩
  obtain ⟨rfl, rfl⟩ := y
  refine ⟨G', .int (a + (k : Nat)), Sub.refl _, m, ?_, .int _⟩
  have : k < (b - a).toNat := by rw [← hl]; exact hk
  simp [rgD, this]
theorem i_range {p : Pos} {e : Expr} (hm : X.mg "range" = none) (he : PE X e (tD X.K W f)) (hg : Gl X "range" := by rfl) (na : starEach [e] X.env = (false, eval e X.env) :: starEach [] X.env := by rfl) : PI X tg (.Call (.Name "range" p) [e] [] pos) (tDI X.K W (iRange f)) :=
  PI.weak (pi_range1 hg hm (pa_cons he pa_nil na) (hs := na)) fun s H R q => by
    obtain ⟨G, i, e, M, he, hm, q⟩ := q
    refine tG.go he hm q fun v x M1 G1 H1 s1 m1 r1 q => ?_
    obtain ⟨n, rfl, q⟩ := asI_use q
    simp only [asI, vI, Ans.bind] at q
    split at q
    · rename_i ok
      refine ⟨n, by rw [int_of r1], by omega, by omega, ?_⟩
      have z := src_range (K := X.K) (G := G1) (i := i) 0 n
      rw [Int.sub_zero] at z
      exact q _ G1 H1 (Sub.refl _) m1 z
    · exact q.elim
@[simp] def iRange2 (f g : Den) : En → Mem → Ans Items := fun e M => (f e M).bind fun x M1 => (asI x M1).bind fun a M2 => (g e M2).bind fun y M3 => (asI y M3).bind fun b M4 => if a.natAbs < 2 ^ 62 ∧ b.natAbs < 2 ^ 62 then .val (rgD a b, fun _ => true) M4 else .bad
@[simp] def seqC (x : Wv) (M : Mem) : Option (Bool × Items) := match x with
  | .d (.list ds) => some (false, ds, fun _ => true)
  | .d (.tuple ds) => some (true, ds, fun _ => true)
  | .k ds => some (false, ds, fun _ => true)
  | .r l => (match M[l]? with
    | some (.list ds) => some (false, ds, fun M' => match M'[l]? with
      | some c => beqD c (.list ds)
      | none => false)
    | _ => none)
  | _ => none
theorem seqC_tup {K : PySem.W.Frag} {G : Hp} {i : List Addr} {M : Mem} {v : V} {x : Wv} {ds : List PyData} {chk : Mem → Bool} (r : RpW K G i v x) (e : seqC x M = some (true, ds, chk)) : ∃ a xs, v = .ref a ∧ TupAt K G a xs ds ∧ RpAll K G xs ds := by
  unfold seqC at e
  split at e
  · cases e
  · cases e
    have r : Rp K G v (.tuple ds) := r
    cases r with
    | tup h t => exact ⟨_, _, rfl, h, t⟩
  · cases e
  · split at e <;> cases e
  · cases e
theorem seqC_lst {K : PySem.W.Frag} {G H : Hp} {i : List Addr} {M : Mem} {v : V} {x : Wv} {ds : List PyData} {chk : Mem → Bool} (m : MemR K G H i M) (r : RpW K G i v x) (e : seqC x M = some (false, ds, chk)) :
    ∃ a, v = .ref a ∧ (∃ xs, SqL K H a xs) ∧ ∀ (G' H' : Hp) (i' : List Addr) (M' : Mem), Sub G G' → i <+: i' → MemR K G' H' i' M' → chk M' = true → ∃ xs, SqL K H' a xs ∧ RpAll K G' xs ds := by
  unfold seqC at e
  split at e
  · cases e
    have r : Rp K G v (.list ds) := r
    cases r with
    | lst h1 t => exact ⟨_, rfl, ⟨_, .of (m.sub _ _ h1)⟩, fun G2 H2 i2 M2 a b c _ => ⟨_, .of (c.sub _ _ (a _ _ h1)), t.mono a⟩⟩
  · cases e
  · cases e
    obtain ⟨a, vs, rfl, h1, t⟩ := r
    exact ⟨_, rfl, ⟨_, m.sub.l h1⟩, fun G2 H2 i2 M2 a b c _ => ⟨_, c.sub.l (a.l h1), t.mono a⟩⟩
  · rename_i l
    split at e
    · rename_i ds' hl
      cases e
      obtain ⟨a, h1, rfl⟩ := r
      obtain ⟨o, h2, h3⟩ := m.at_ l a _ h1 hl rfl
      cases h3 with
      | lst h3 =>
        refine ⟨a, rfl, ⟨_, .of h2⟩, fun G2 H2 i2 M2 a2 b c2 hc => ?_⟩
        dsimp only at hc
        cases hl2 : M2[l]? with
        | none => rw [hl2] at hc; cases hc
        | some c3 =>
          rw [hl2] at hc
          have := beqD_eq _ _ hc
          subst this
          obtain ⟨o, h4, h5⟩ := c2.at_ l a _ (get_pre b h1) hl2 rfl
          cases h5 with
          | lst h5 => exact ⟨_, .of h4, h5⟩
    · cases e
  · cases e
def pairD (x y : PyData) : PyData := .tuple [x, y]
@[simp] def zipR (ws : List Wv) (M : Mem) : Ans Items := match ws with
  | [x, y] => (match seqC x M, seqC y M with
    | some (_, ds, c), some (_, es, c2) => .val (List.zipWith pairD ds es, fun M' => c M' && c2 M') M
    | _, _ => .bad)
  | _ => .bad
@[simp] def iZip (f : En → Mem → Ans (List Wv)) : En → Mem → Ans Items := fun e M => (f e M).bind zipR
theorem seqC_any {K : PySem.W.Frag} {G H : Hp} {i : List Addr} {M : Mem} {v : V} {x : Wv} {k : Bool} {ds : List PyData} {chk : Mem → Bool} (m : MemR K G H i M) (r : RpW K G i v x) (e : seqC x M = some (k, ds, chk)) :
    ∃ a, v = .ref a ∧ (∃ xs, Lt.SqV K k H a xs) ∧ ∀ (G' H' : Hp) (i' : List Addr) (M' : Mem), Sub G G' → i <+: i' → MemR K G' H' i' M' → chk M' = true → ∃ xs, Lt.SqV K k H' a xs ∧ RpAll K G' xs ds := by
  cases k with
  | false => exact seqC_lst m r e
  | true =>
    obtain ⟨a, xs, rfl, h, t⟩ := seqC_tup r e
    exact ⟨a, rfl, ⟨xs, m.sub.t h⟩, fun G' H' i' M' s p m' _ => ⟨xs, (s.trans m'.sub).t h, t.mono s⟩⟩
def pairB (ds es : List PyData) (k : Nat) : Bool := match ds[k]?, es[k]? with
  | some d, some d2 => needF [d, d2]
  | _, _ => false
theorem src_zip {K : PySem.W.Frag} {G : Hp} {i : List Addr} {a b : Addr} {k1 k2 : Bool} {ds es : List PyData} {c1 c2 : Mem → Bool} (h : ∀ (G' H' : Hp) (i' : List Addr) (M' : Mem), Sub G G' → i <+: i' → MemR K G' H' i' M' → c1 M' = true → ∃ xs, Lt.SqV K k1 H' a xs ∧ RpAll K G' xs ds)
    (h2 : ∀ (G' H' : Hp) (i' : List Addr) (M' : Mem), Sub G G' → i <+: i' → MemR K G' H' i' M' → c2 M' = true → ∃ xs, Lt.SqV K k2 H' b xs ∧ RpAll K G' xs es) : SrcD K G i (Lt.ItX K k1 k2 a b (pairB ds es)) (List.zipWith pairD ds es, fun M' => c1 M' && c2 M') := by
  intro G' H' i' M s p m hc
  have hc : (c1 M && c2 M) = true := hc
  rw [Bool.and_eq_true] at hc
  obtain ⟨xs, hq, t⟩ := h G' H' i' M s p m hc.1
  obtain ⟨ys, hq2, t2⟩ := h2 G' H' i' M s p m hc.2
  have hl := t.length
  have hl2 := t2.length
  refine ⟨fun k hk => ?_, ⟨xs, ys, hq, hq2, by simp; omega⟩, fun k v H2 hk y => ?_⟩
  · simp at hk
    exact ⟨xs, ys, xs[k]'(by omega), ys[k]'(by omega), hq, hq2, by simp [show k < xs.length by omega], by simp [show k < ys.length by omega]⟩
  · obtain ⟨T, x, y, o, rfl, ho, hT, rfl, f1, f2⟩ := y
    obtain ⟨d, e1, r1⟩ := t.getV (f1 xs hq)
    obtain ⟨d2, e2, r2⟩ := t2.getV (f2 ys hq2)
    have eb : pairB ds es k = needF [d, d2] := by simp only [pairB, e1, e2]
    rw [eb]
    have s0 : Sub G' (upd G' T (Lt.mkT (needF [d, d2]) o [x, y])) := Sub.new (m.gfree hT)
    refine ⟨_, pairD d d2, s0, m.newTup hT, ?_, .tup (.new ho) (.cons (r1.mono s0) (.cons (r2.mono s0) .nil))⟩
    simp [List.getElem?_zipWith, e1, e2]
theorem i_zip {e e2 : Expr} {p tpos : Pos} {elts : List Expr} {kk : Nat} (hm : X.mg "zip" = none) (ha : PA X [e, e2] (tDA X.K W fa)) (hg : Gl X "zip" := by rfl)
    (hs : starEach [e, e2] X.env = (false, eval e X.env) :: starEach [e2] X.env := by rfl) (hpl : (backTo pos (starEach [e2] X.env)).any (·.1) = false := by rfl) :
    PI X (.Tuple elts kk tpos) (.Call (.Name "zip" p) [e, e2] [] pos) (tDI X.K W (iZip fa)) := PI.weak (Lt.pi_zipX hg hm ha hs hpl) fun s H R q => by
  obtain ⟨G, i, e, M, he, hm, q⟩ := q
  refine tG.go he hm q fun vs ws M1 G1 H1 s1 m1 r1 q => ?_
  unfold zipR at q
  split at q
  · rename_i x y
    cases r1 with
    | cons rx t =>
      cases t with
      | cons ry t =>
        cases t
        split at q
        · rename_i k1 ds c1 k2 es c2 e1 e2
          obtain ⟨a, rfl, ⟨xs, hx⟩, h1⟩ := seqC_any m1 rx e1
          obtain ⟨b, rfl, ⟨ys, hy⟩, h2⟩ := seqC_any m1 ry e2
          exact ⟨k1, k2, a, b, xs, ys, _, rfl, hx, hy, q _ G1 H1 (Sub.refl _) m1 (src_zip h1 h2)⟩
        · exact q.elim
  · exact q.elim
end
end Lf
set_option Elab.async false
set_option linter.all false
set_option maxRecDepth 100000
set_option maxHeartbeats 4000000
namespace PySem
open Sem (wp)
open AutoSeq1 (wpAny_loadPart')
section
variable {prog : Program} {w : World} {A : Around} {E : Value → Shared → Prop} {s : Shared}
end
end PySem
namespace Lf
open PySem PySem.Spec PyProof.Rows L2
def enumD (ds : List PyData) : List PyData := ds.zipIdx.map fun p => pairD (.int (p.2 : Nat)) p.1
@[simp] def enR (ws : List Wv) (M : Mem) : Ans Items := match ws with
  | [x] => (match seqC x M with
    | some (_, ds, c) => .val (enumD ds, c) M
    | none => .bad)
  | _ => .bad
@[simp] def iEnum (f : En → Mem → Ans (List Wv)) : En → Mem → Ans Items := fun e M => (f e M).bind enR
section
variable {X : Cx} {W : WX} {fa : En → Mem → Ans (List Wv)} {pos : Pos}
end
end Lf
set_option Elab.async false
set_option linter.all false
set_option maxRecDepth 100000
set_option maxHeartbeats 4000000
namespace Lf
open PySem PySem.Spec PyProof.Rows L2
def MtD (X : Cx) (r : V → List V → Hp → VK → Prop) (F : List PyData → List Wv → Mem → Option (Rv × List PyData)) : Prop :=
  ∀ (G H : Hp) (i : List Addr) (M : Mem) (l : Nat) (a : Addr) (xs : List V) (ds : List PyData) (vs : List V) (ws : List Wv) (res : Rv) (ds' : List PyData) (Q : VK), MemR X.K G H i M → i[l]? = some a → H a = some (.lst xs) → RpAll X.K G xs ds → RpWs X.K G i vs ws →
    F ds ws M = some (res, ds') → (∀ v' G' H', Sub G G' → MemR X.K G' H' i (M.set l (.list ds')) → ResR X.K G' H' i v' res → Q v' H') → r (.ref a) vs H Q
@[simp] def mtR (F : List PyData → List Wv → Mem → Option (Rv × List PyData)) (o : Wv) (ws : List Wv) (M : Mem) : Ans Rv := match o with
  | .r l => (match M[l]? with
    | some (.list ds) => (match F ds ws M with
      | some (r, ds') => .val r (M.set l (.list ds'))
      | none => .bad)
    | _ => .bad)
  | _ => .bad
@[simp] def isL (o : Wv) (M : Mem) : Bool := match o with
  | .r l => (match M[l]? with
    | some (.list _) => true
    | _ => false)
  | _ => false
theorem isL_use {o : Wv} {M : Mem} (h : isL o M = true) : ∃ l ds, o = .r l ∧ M[l]? = some (.list ds) := by
  unfold isL at h
  split at h
  · split at h
    · rename_i l _ ds e; exact ⟨l, ds, rfl, e⟩
    · cases h
  · cases h
@[simp] def dMt (F : List PyData → List Wv → Mem → Option (Rv × List PyData)) (f : Den) (fa : En → Mem → Ans (List Wv)) : Den := fun e M => (f e M).bind fun o M1 => if isL o.fz M1 = true then (fa e M1).bind fun ws M2 => mtR F o.fz ws M2 else .bad
section
variable {X : Cx} {W : WX} {f g h : Den} {fa : En → Mem → Ans (List Wv)} {pos : Pos}
theorem mt_use {r : V → List V → Hp → VK → Prop} {F : List PyData → List Wv → Mem → Option (Rv × List PyData)} (md : MtD X r F) (s : L2.St) (H : Hp) (Q : VK) (q : tD X.K W (dMt F f fa) s H Q) : tBM X.K "list" r (tD X.K W f) (tDA X.K W fa) s H Q := by
  obtain ⟨G, i, e, M, he, hm, q⟩ := q
  refine tD.goW he hm q fun v x M1 G1 H1 s1 m1 r1 q => ?_
  split at q
  · rename_i hl
    obtain ⟨l, ds, hx, hM⟩ := isL_use hl
    rw [hx] at r1 q
    obtain ⟨a, ha, rfl⟩ := r1
    obtain ⟨o, ho, hob⟩ := m1.at_ l a _ ha hM rfl
    cases hob with
    | @lst xs _ t =>
      refine ⟨.inl ⟨rfl, xs, .of ho⟩, ?_⟩
      refine tG.go (he.mono s1 (List.prefix_refl _)) m1 q fun vs ws M2 G2 H2 s2 m2 r2 q => ?_
      unfold mtR at q
      cases hM2 : M2[l]? with
      | none => simp only [hM2] at q; exact q.elim
      | some c =>
        cases c with
        | list ds2 =>
          simp only [hM2] at q
          obtain ⟨o2, ho2, hob2⟩ := m2.at_ l a _ ha hM2 rfl
          cases hob2 with
          | @lst xs2 _ t2 =>
            cases z : F ds2 ws M2 with
            | none => rw [z] at q; exact q.elim
            | some p =>
              obtain ⟨res, ds'⟩ := p
              rw [z] at q
              exact md G2 H2 i M2 l a xs2 ds2 vs ws res ds' Q m2 ha ho2 t2 r2 z q
        | _ => simp only [hM2] at q; exact q.elim
  · exact q.elim
@[simp] def appF : List PyData → List Wv → Mem → Option (Rv × List PyData) := fun ds ws _ => match ws with
  | [.d x] => if ds.length < sizeLine then some (.w (.d .none), ds ++ [x]) else none
  | _ => none
theorem md_app : MtD X rAppend appF := by
  intro G H i M l a xs ds vs ws res ds' Q m ha ho t r e q
  unfold appF at e
  split at e
  · rename_i x
    obtain ⟨hl, e⟩ := if_some e
    cases e
    cases r with
    | cons rx rt =>
      cases rt
      exact ⟨a, xs, _, rfl, rfl, ho, by rw [t.length]; exact hl, q _ G _ (Sub.refl _) (m.write ha ho (.lst (t.append (.cons rx .nil)))) .non⟩
  · cases e
theorem d_append {o e : Expr} {apos cpos : Pos} (ho : PE X o (tD X.K W f)) (ha : PA X [e] (tDA X.K W fa)) (hbase : attributeBase o "append" X.env (eval o X.env) = eval o X.env := by rfl)
    (hfew : ((backTo cpos (starEach [e] X.env)).all (fun x => !x.1) && (backToKw cpos (keywordEach [] X.env)).all (fun x => x.1.isSome) && decide (([e] : List Expr).length + ([] : List Keyword).length + (if ([] : List Keyword).isEmpty then 0 else 1) < 30)) = true := by rfl)
    (hline : (apos.endLine == cpos.line) = true := by rfl) (hs : starEach [e] X.env = (false, eval e X.env) :: starEach [] X.env := by rfl) :
    PE X (.Call (.Attribute o "append" apos) [e] [] cpos) (tD X.K W (dMt appF f fa)) :=
  PE.weak (pe_bm PySem.F.plainAttrs_list PySem.F.slot_list_append PySem.F.type_list_append mt_append ho ha hbase hfew hline hs rfl) (mt_use md_app)
@[simp] def extF : List PyData → List Wv → Mem → Option (Rv × List PyData) := fun ds ws M => match ws with
  | [w] => (match w.rd M with
    | some (.list es) => if ds.length + es.length ≤ sizeLine then some (.w (.d .none), ds ++ es) else none
    | _ => none)
  | _ => none
@[simp] def popF : List PyData → List Wv → Mem → Option (Rv × List PyData) := fun ds ws _ => match ws with
  | [.d (.int n)] => if n.natAbs < 2 ^ 63 then (match seqIndex? n ds.length with
    | some k => (match ds[k]? with
      | some x => some (.w (.d x), ds.eraseIdx k)
      | none => none)
    | none => none) else none
  | _ => none
theorem RpAll.erase {K : PySem.W.Frag} {G : Hp} : ∀ {v : List V} {d : List PyData} (n : Nat), RpAll K G v d → RpAll K G (v.eraseIdx n) (d.eraseIdx n)
  | _, _, _, .nil => .nil
  | _, _, 0, .cons _ t => t
  | _, _, n + 1, .cons r t => .cons r (RpAll.erase n t)
theorem md_pop : MtD X rPopAt popF := by
  intro G H i M l a xs ds vs ws res ds' Q m ha ho t r e q
  unfold popF at e
  split at e
  · rename_i n
    split at e
    · rename_i hn
      cases hk : seqIndex? n ds.length with
      | none => rw [hk] at e; cases e
      | some k =>
        rw [hk] at e
        simp only at e
        cases hx : ds[k]? with
        | none => rw [hx] at e; cases e
        | some x =>
          rw [hx] at e
          cases e
          obtain ⟨y, hy, ry⟩ := t.get hx
          cases r with
          | cons rx rt =>
            cases rt
            cases rx
            exact ⟨a, xs, n, k, y, rfl, rfl, ho, by omega, by omega, by rw [t.length]; exact hk, hy, q _ G _ (Sub.refl _) (m.write ha ho (.lst (t.erase k))) ry⟩
    · cases e
  · cases e
theorem d_popAt {o e : Expr} {apos cpos : Pos} (ho : PE X o (tD X.K W f)) (ha : PA X [e] (tDA X.K W fa)) (hbase : attributeBase o "pop" X.env (eval o X.env) = eval o X.env := by rfl)
    (hfew : ((backTo cpos (starEach [e] X.env)).all (fun x => !x.1) && (backToKw cpos (keywordEach [] X.env)).all (fun x => x.1.isSome) && decide (([e] : List Expr).length + ([] : List Keyword).length + (if ([] : List Keyword).isEmpty then 0 else 1) < 30)) = true := by rfl)
    (hline : (apos.endLine == cpos.line) = true := by rfl) (hs : starEach [e] X.env = (false, eval e X.env) :: starEach [] X.env := by rfl) :
    PE X (.Call (.Attribute o "pop" apos) [e] [] cpos) (tD X.K W (dMt popF f fa)) :=
  PE.weak (pe_bm PySem.F.plainAttrs_list PySem.F.slot_list_pop PySem.F.type_list_pop mt_popAt ho ha hbase hfew hline hs rfl) (mt_use md_pop)
@[simp] def remF : List PyData → List Wv → Mem → Option (Rv × List PyData) := fun ds ws _ => match ws with
  | [.d (.int n)] => (match intsD ds with
    | some ns => if n ∈ ns then some (.w (.d .none), (ns.eraseIdx (ns.idxOf n)).map .int) else none
    | none => none)
  | _ => none
theorem RpAll.ofInts {K : PySem.W.Frag} {G : Hp} : ∀ ns : List Int, RpAll K G (ns.map V.int) (ns.map .int)
  | [] => .nil
  | n :: r => .cons (.int n) (RpAll.ofInts r)
def key1 : PyData → Option Key
  | .int i => some (.inl i)
  | .str x => some (.inr x)
  | _ => none
def keyT : List PyData → Option (List Key)
  | [] => some []
  | d :: r => (match key1 d, keyT r with
    | some k, some ks => some (k :: ks)
    | _, _ => none)
theorem key1_kD : ∀ k : Key, key1 (kD k) = some k
  | .inl _ => rfl
  | .inr _ => rfl
theorem keyT_map : ∀ k : List Key, keyT (k.map kD) = some k
  | [] => rfl
  | k :: r => by rw [List.map_cons]; unfold keyT; rw [key1_kD, keyT_map r]
theorem kD_inj {k k' : Key} (h : kD k = kD k') : k = k' := by
  have := key1_kD k
  rw [h, key1_kD] at this
  exact (Option.some.inj this).symm
theorem kDs_inj {k k' : List Key} (h : k.map kD = k'.map kD) : k = k' := by
  have := keyT_map k
  rw [h, keyT_map] at this
  exact (Option.some.inj this).symm
theorem Rp.key1 {K : PySem.W.Frag} {G : Hp} {v : V} {k : Key} (h : Rp K G v (kD k)) : v = kV k := by
  cases k with
  | inl i => cases h; rfl
  | inr x => cases h; rfl
def putD (k v : PyData) (ds : List (PyData × PyData)) : List (PyData × PyData) := if (ds.any fun p => beqD p.1 k) = true then ds.map (fun p => if beqD p.1 k = true then (p.1, v) else p) else ds ++ [(k, v)]
def getD (k : PyData) : List (PyData × PyData) → Option PyData
  | [] => none
  | (k', v') :: r => if beqD k' k = true then some v' else getD k r
theorem beqD_iff {a b : PyData} : beqD a b = true ↔ a = b := ⟨beqD_eq a b, fun h => h ▸ beqD_refl a⟩
theorem beqD_tup {k k' : List Key} : beqD (.tuple (k'.map kD)) (.tuple (k.map kD)) = decide (k' = k) := by
  by_cases e : k' = k
  · rw [decide_eq_true e]; exact beqD_iff.mpr (by rw [e])
  · rw [decide_eq_false e, Bool.eq_false_iff]; exact fun z => e (kDs_inj (by have := beqD_iff.mp z; injection this))
theorem beqD_key {k k' : Key} : beqD (kD k') (kD k) = decide (k' = k) := by
  by_cases e : k' = k
  · rw [decide_eq_true e]; exact beqD_iff.mpr (by rw [e])
  · rw [decide_eq_false e, Bool.eq_false_iff]; exact fun z => e (kD_inj (beqD_iff.mp z))
theorem RpT.anyK {K : PySem.W.Frag} {G : Hp} {k : List Key} : ∀ {kvs : List (List Key × V)} {ds : List (PyData × PyData)}, RpT K G kvs ds → (kvs.any fun kv => decide (kv.1 = k)) = ds.any fun p => beqD p.1 (.tuple (k.map kD))
  | _, _, .nil => rfl
  | _, _, .cons r t => by rw [List.any_cons, List.any_cons, RpT.anyK t, beqD_tup]
theorem RpK.anyK {K : PySem.W.Frag} {G : Hp} {k : Key} : ∀ {kvs : List (Key × V)} {ds : List (PyData × PyData)}, RpK K G kvs ds → (kvs.any fun kv => decide (kv.1 = k)) = ds.any fun p => beqD p.1 (kD k)
  | _, _, .nil => rfl
  | _, _, .cons r t => by rw [List.any_cons, List.any_cons, RpK.anyK t, beqD_key]
theorem RpT.mapK {K : PySem.W.Frag} {G : Hp} {k : List Key} {v : V} {d : PyData} (r : Rp K G v d) : ∀ {kvs : List (List Key × V)} {ds : List (PyData × PyData)}, RpT K G kvs ds → RpT K G (kvs.map fun kv => if kv.1 = k then (kv.1, v) else kv) (ds.map fun p => if beqD p.1 (.tuple (k.map kD)) = true then (p.1, d) else p)
  | _, _, .nil => .nil
  | _, _, @RpT.cons _ _ k' v' vs d' ds r' t => by
    rw [List.map_cons, List.map_cons, beqD_tup]
    by_cases e : k' = k
    · rw [if_pos e, if_pos (decide_eq_true e)]; exact .cons r (RpT.mapK r t)
    · rw [if_neg e, if_neg (by simpa using e)]; exact .cons r' (RpT.mapK r t)
theorem RpK.mapK {K : PySem.W.Frag} {G : Hp} {k : Key} {v : V} {d : PyData} (r : Rp K G v d) : ∀ {kvs : List (Key × V)} {ds : List (PyData × PyData)}, RpK K G kvs ds → RpK K G (kvs.map fun kv => if kv.1 = k then (kv.1, v) else kv) (ds.map fun p => if beqD p.1 (kD k) = true then (p.1, d) else p)
  | _, _, .nil => .nil
  | _, _, @RpK.cons _ _ k' v' vs d' ds r' t => by
    rw [List.map_cons, List.map_cons, beqD_key]
    by_cases e : k' = k
    · rw [if_pos e, if_pos (decide_eq_true e)]; exact .cons r (RpK.mapK r t)
    · rw [if_neg e, if_neg (by simpa using e)]; exact .cons r' (RpK.mapK r t)
theorem RpT.end_ {K : PySem.W.Frag} {G : Hp} {k : List Key} {v : V} {d : PyData} (r : Rp K G v d) : ∀ {kvs : List (List Key × V)} {ds : List (PyData × PyData)}, RpT K G kvs ds → RpT K G (kvs ++ [(k, v)]) (ds ++ [(.tuple (k.map kD), d)])
  | _, _, .nil => .cons r .nil
  | _, _, .cons r' t => .cons r' (RpT.end_ r t)
theorem RpK.end_ {K : PySem.W.Frag} {G : Hp} {k : Key} {v : V} {d : PyData} (r : Rp K G v d) : ∀ {kvs : List (Key × V)} {ds : List (PyData × PyData)}, RpK K G kvs ds → RpK K G (kvs ++ [(k, v)]) (ds ++ [(kD k, d)])
  | _, _, .nil => .cons r .nil
  | _, _, .cons r' t => .cons r' (RpK.end_ r t)
theorem RpT.put {K : PySem.W.Frag} {G : Hp} {k : List Key} {v : V} {d : PyData} (r : Rp K G v d) {kvs : List (List Key × V)} {ds : List (PyData × PyData)} (t : RpT K G kvs ds) : RpT K G (putK kvs k v) (putD (.tuple (k.map kD)) d ds) := by
  unfold putK putD
  rw [t.anyK]
  split
  · exact t.mapK r
  · exact t.end_ r
theorem RpK.put {K : PySem.W.Frag} {G : Hp} {k : Key} {v : V} {d : PyData} (r : Rp K G v d) {kvs : List (Key × V)} {ds : List (PyData × PyData)} (t : RpK K G kvs ds) : RpK K G (putK kvs k v) (putD (kD k) d ds) := by
  unfold putK putD
  rw [t.anyK]
  split
  · exact t.mapK r
  · exact t.end_ r
theorem RpT.val {K : PySem.W.Frag} {G : Hp} {k : List Key} : ∀ {kvs : List (List Key × V)} {ds : List (PyData × PyData)}, RpT K G kvs ds → (valV kvs k = none ∧ getD (.tuple (k.map kD)) ds = none) ∨ ∃ v d, valV kvs k = some v ∧ getD (.tuple (k.map kD)) ds = some d ∧ Rp K G v d
  | _, _, .nil => .inl ⟨rfl, rfl⟩
  | _, _, @RpT.cons _ _ k' v' vs d' ds r' t => by
    unfold getD
    by_cases e : k' = k
    · rw [if_pos (beqD_iff.mpr (by rw [e]))]
      exact .inr ⟨v', d', valV_pos e, rfl, r'⟩
    · rw [if_neg (fun z => e (kDs_inj (by have := beqD_iff.mp z; injection this))), valV_neg e]
      exact RpT.val t
theorem RpK.val {K : PySem.W.Frag} {G : Hp} {k : Key} : ∀ {kvs : List (Key × V)} {ds : List (PyData × PyData)}, RpK K G kvs ds → (valV kvs k = none ∧ getD (kD k) ds = none) ∨ ∃ v d, valV kvs k = some v ∧ getD (kD k) ds = some d ∧ Rp K G v d
  | _, _, .nil => .inl ⟨rfl, rfl⟩
  | _, _, @RpK.cons _ _ k' v' vs d' ds r' t => by
    unfold getD
    by_cases e : k' = k
    · rw [if_pos (beqD_iff.mpr (by rw [e]))]
      exact .inr ⟨v', d', valV_pos e, rfl, r'⟩
    · rw [if_neg (fun z => e (kD_inj (beqD_iff.mp z))), valV_neg e]
      exact RpK.val t
theorem ObjOk.toT {P : Program} {w : World} {H H' : Hp} {h : Heap} {a : Addr} (x : ObjOk P w H h a (.dK [])) : ObjOk P w H' h a (.dT []) := by
  obtain ⟨z, y, vs, r, ob, es, ep, e, c, d, k, p, n⟩ := x
  cases r
  cases hes : es.toList with
  | nil => exact ⟨Nat.zero_le _, y, [], .nil, ob, es, ep, e, c, d, hes, List.nodup_nil⟩
  | cons a b => rw [hes] at p; cases p
theorem ObjOk.toK {P : Program} {w : World} {H H' : Hp} {h : Heap} {a : Addr} (x : ObjOk P w H h a (.dT [])) : ObjOk P w H' h a (.dK []) := by
  obtain ⟨z, y, vs, r, ob, es, ep, e, c, d, he, n⟩ := x
  cases r
  have he0 : es = #[] := by
    apply Array.ext'
    simpa using he
  subst he0
  exact ⟨Nat.zero_le _, y, [], .nil, ob, #[], ep, e, c, d, (by intro en hen; simp at hen), (by exact .nil), List.nodup_nil⟩
end
end Lf
set_option Elab.async false
set_option linter.all false
set_option maxRecDepth 100000
set_option maxHeartbeats 4000000
namespace Lf
open PySem PySem.Spec PyProof.Rows L2
section
variable {X : Cx} {pins : List (Addr × Obj)} {σ : L2.St} {H : Hp} {s : Shared} {a : Addr}
theorem Inv.toT (I : Inv X pins σ H s) (h : H a = some (.dK [])) : Inv X pins σ (upd H a (.dT [])) s := by
  have o := I.hok a _ h
  obtain ⟨z, y, vs, r, ob, es, ep, e, _⟩ := id o
  exact I.write (x := a) (e := a) (o := .dT []) (h' := s.heap) (t' := s.toks) (by rw [h]; trivial) (.inl rfl) (fun b u _ e => e) ⟨_, e⟩ (ObjOk.toT o)
theorem Inv.toK (I : Inv X pins σ H s) (h : H a = some (.dT [])) : Inv X pins σ (upd H a (.dK [])) s := by
  have o := I.hok a _ h
  obtain ⟨z, y, vs, r, ob, es, ep, e, _⟩ := id o
  exact I.write (x := a) (e := a) (o := .dK []) (h' := s.heap) (t' := s.toks) (by rw [h]; trivial) (.inl rfl) (fun b u _ e => e) ⟨_, e⟩ (ObjOk.toK o)
def DPutX (H : Hp) (a : Addr) (y v : V) (H' : Hp) : Prop := DPut H a y v H' ∨ (H a = some (.dK []) ∧ DPut (upd H a (.dT [])) a y v H') ∨ (H a = some (.dT []) ∧ DPut (upd H a (.dK [])) a y v H')
def rSetDX : TSet := fun o i v H Q => ∃ a H', o = .ref a ∧ DPutX H a i v H' ∧ Q H'
theorem set_dictX (hu : X.A.units + 1 < cLine) : PSet X rSetDX := by
  intro pins s σ H o i v ov iv u Q I ro ri rv h
  obtain ⟨a, H', rfl, g, q⟩ := h
  rcases g with g | ⟨h0, g⟩ | ⟨h0, g⟩
  · exact set_dict hu pins s σ H _ i v ov iv u Q I ro ri rv ⟨a, H', rfl, g, q⟩
  · exact set_dict hu pins s σ _ _ i v ov iv u Q (Inv.toT I h0) ro ri rv ⟨a, H', rfl, g, q⟩
  · exact set_dict hu pins s σ _ _ i v ov iv u Q (Inv.toK I h0) ro ri rv ⟨a, H', rfl, g, q⟩
theorem PSet.or {t t' : TSet} (h : PSet X t) (h' : PSet X t') : PSet X (fun o i v H Q => t o i v H Q ∨ t' o i v H Q) := by
  intro pins s σ H o i v ov iv u Q I ro ri rv q
  rcases q with q | q
  · exact h pins s σ H o i v ov iv u Q I ro ri rv q
  · exact h' pins s σ H o i v ov iv u Q I ro ri rv q
end
@[simp] def flatKeys : List (PyData × PyData) → Bool
  | [] => true
  | (.tuple _, _) :: _ => false
  | _ :: r => flatKeys r
@[simp] def keyOk (k : PyData) (ds : List (PyData × PyData)) : Bool := match k with
  | .tuple _ => false
  | k => (key1 k).isSome && flatKeys ds
@[simp] def setR (o k x : Wv) (e : En) (M : Mem) : SAns := match o, x with
  | .r l, .d v => (match M[l]?, k with
    | some (.list ds), .d (.int n) => (match ixN ds.length n with
      | some j => .next e (M.set l (.list (ds.set j v)))
      | none => .bad)
    | some (.dict ds), .d k => if keyOk k ds = true ∧ ds.length < sizeLine then .next e (M.set l (.dict (putD k v ds))) else .bad
    | _, _ => .bad)
  | _, _ => .bad
@[simp] def sSet (fv fo fi : Den) : DenS := fun e M => (fv e M).go e fun x M1 => (fo e M1).go e fun o M2 => (fi e M2).go e fun k M3 => setR o.fz k.fz x.fz e M3
section
variable {K : PySem.W.Frag} {W : WX} {G G' H H' : Hp} {i : List Addr} {M M' : Mem} {e : En} {s : L2.St} {D : Ends}
theorem tD.goSW {f : Den} {k : Rv → Mem → SAns} {P : V → Hp → Prop}
    (he : EnvR K G i e s) (hm : MemR K G H i M) (h : AskS K W G i D ((f e M).go e k))
    (c : ∀ v r M1 G1 H1, Sub G G1 → MemR K G1 H1 i M1 → RpW K G1 i v r.fz → AskS K W G1 i D (k r M1) → P v H1) : tD K W f s H P :=
  tG.goS he hm h fun v r M1 G1 H1 h1 h2 h3 h4 => by
    obtain ⟨G2, a, b, c2⟩ := h3.fz h2
    exact c v r M1 G2 H1 (h1.trans a) b c2 (AskS.mono a (List.prefix_refl _) h4)
theorem flatKeys_dT {kvs : List (List Key × V)} {ds : List (PyData × PyData)} (h : RpT K G kvs ds) (t : flatKeys ds = true) : kvs = [] := by
  cases h with
  | nil => rfl
  | cons _ _ => simp at t
theorem putX {l : Nat} {a : Addr} {o : HO} {ds : List (PyData × PyData)} {key x : PyData} {kv v : V} (m : MemR K G H i M) (ha : i[l]? = some a) (ho : H a = some o) (hc : ObR K G o (.dict ds)) (hk : keyOk key ds = true) (hl : ds.length < sizeLine) (rk : Rp K G kv key) (rv : Rp K G v x) :
    ∃ H', DPutX H a kv v H' ∧ MemR K G H' i (M.set l (.dict (putD key x ds))) := by
  have upd2 : ∀ {o1 o2 : HO}, upd (upd H a o1) a o2 = upd H a o2 := fun {o1 o2} => by
    funext b
    by_cases hb : b = a
    · subst hb; rw [upd_same, upd_same]
    · rw [upd_ne hb, upd_ne hb, upd_ne hb]
  have flat : ∀ k : Key, kv = kV k → key = kD k → flatKeys ds = true → ∃ H', DPutX H a kv v H' ∧ MemR K G H' i (M.set l (.dict (putD key x ds))) := by
    intro k e1 e2 hf
    subst e1 e2
    cases hc with
    | @dT kvs _ t =>
      have := flatKeys_dT t hf
      subst this
      cases t
      have w := m.write ha ho (.dK ((RpK.nil (K := K) (G := G)).put (k := k) rv))
      exact ⟨_, .inr (.inr ⟨ho, .inl ⟨[], k, upd_same, rfl, Nat.lt_of_le_of_lt (Nat.zero_le _) hl, rfl⟩⟩), by rw [upd2]; exact w⟩
    | @dK kvs _ t => exact ⟨_, .inl (.inl ⟨kvs, k, ho, rfl, by rw [t.length]; exact hl, rfl⟩), m.write ha ho (.dK (t.put rv))⟩
  cases key with
  | int n => cases rk; simp only [keyOk, Bool.and_eq_true] at hk; exact flat (.inl n) rfl rfl hk.2
  | str z => cases rk; simp only [keyOk, Bool.and_eq_true] at hk; exact flat (.inr z) rfl rfl hk.2
  | tuple ks => simp [keyOk] at hk
  | _ => simp [keyOk, key1] at hk
end
section
variable {X : Cx} {W : WX} {f g h : Den} {fa : En → Mem → Ans (List Wv)} {pos : Pos}
theorem s_set {o i e : Expr} {tpos : Pos} {k : Nat} (hr : Room k X.A) (he : PE X e (tD X.K W f)) (ho : PE X o (tD X.K W g)) (hi : PE X i (tD X.K W h))
    (ha : ∀ v, assign (.Subscript o i tpos) X.env v = (do
      let ov ← holding [v] (eval o X.env)
      let iv ← holding [v, ov] (eval i X.env)
      standAt tpos
      holding [v, ov, iv] (setItem ov iv v)
      release [v, ov, iv] []) := by intro _; rfl)
    (hs : swapsWithSole [.Subscript o i tpos] e pos.line X.env = pure false := by rfl) (hw : swappedStores [.Subscript o i tpos] e X.env = pure none := by rfl)
    (h1 : (assignEach [.Subscript o i tpos] X.env).map (·.2) = [assign (.Subscript o i tpos) X.env] := by rfl) : PS X (.Assign [.Subscript o i tpos] e pos) (tDS X.K W (sSet f g h)) :=
  PS.weak (ps_asg he (pg_sub ho hi (PSet.or set_list (set_dictX (by have := units65 hr; omega))) ha) hs hw h1) fun D s H q => by
    obtain ⟨G, i, e, M, he, hm, q⟩ := q
    refine tD.goSW he hm q fun v x M1 G1 H1 s1 m1 r1 q => ?_
    show tD X.K W g s H1 _
    refine tD.goSW (he.mono s1 (List.prefix_refl _)) m1 q fun ov o M2 G2 H2 s2 m2 r2 q => ?_
    refine tD.goSW (he.mono (s1.trans s2) (List.prefix_refl _)) m2 q fun iv k M3 G3 H3 s3 m3 r3 q => ?_
    have he3 := he.mono ((s1.trans s2).trans s3) (List.prefix_refl i)
    have r1 := r1.mono (s2.trans s3) (List.prefix_refl i)
    have r2 := r2.mono s3 (List.prefix_refl i)
    unfold setR at q
    split at q
    · rename_i l v' eo ex
      rw [eo] at r2
      rw [ex] at r1
      obtain ⟨a, ha, rfl⟩ := r2
      split at q
      · rename_i ds n hM ek
        rw [ek] at r3
        cases r3
        obtain ⟨ob, ho, hc⟩ := m3.at_ l a _ ha hM rfl
        cases hc with
        | @lst xs _ t =>
          cases hj : ixN ds.length n with
          | none => rw [hj] at q; exact q.elim
          | some j =>
            rw [hj] at q
            exact .inl ⟨a, xs, n, j, rfl, rfl, ho, by rw [t.length]; exact hj, q s G3 i _ (Sub.refl _) (List.prefix_refl _) he3 (m3.write ha ho (.lst (t.set r1 j)))⟩
      · rename_i ds key hM ek
        rw [ek] at r3
        split at q
        · rename_i hk
          obtain ⟨ob, ho, hc⟩ := m3.at_ l a _ ha hM rfl
          obtain ⟨H', hp, m4⟩ := putX m3 ha ho hc hk.1 hk.2 r3 r1
          exact .inr ⟨a, H', rfl, hp, q s G3 i _ (Sub.refl _) (List.prefix_refl _) he3 m4⟩
        · exact q.elim
      · exact q.elim
    · exact q.elim
@[simp] def dDict : Den := fun _ M => .val (.own (.dict [])) M
theorem d_dict : PE X (.Dict [] [] pos) (tD X.K W dDict) := PE.weak pe_dnewK fun s H Q q => by
  obtain ⟨G, i, e, M, he, hm, q⟩ := q
  exact fun p hp => q (.ref p) G _ (Sub.refl _) (hm.grow hp) ⟨p, _, rfl, hm.gfree hp, hm.notin hp, upd_same, .dK .nil⟩
end
end Lf
set_option Elab.async false
set_option linter.all false
set_option maxRecDepth 100000
set_option maxHeartbeats 4000000
namespace Lf
open PySem PySem.Spec PyProof.Rows L2
open PySem.W (EachIs dataLe AllAlike Sortable alike alikeAll)
def tI (ns : List Int) : PyData := .tuple (ns.map .int)
def tupsD : List PyData → Option (List (List Int))
  | [] => some []
  | .tuple ds :: r => (match intsD ds, tupsD r with
    | some ns, some l => some (ns :: l)
    | _, _ => none)
  | _ :: _ => none
def leT (a b : List Int) : Bool := decide (a ≤ b)
def sortT (l : List (List Int)) : List (List Int) := l.mergeSort leT
theorem dataLe_tups : dataLe false tI = leT := by
  funext p q
  show (!PySem.W.dataLt (tI q) (tI p)) = _
  unfold tI
  rw [PySem.W.dataLt_tuple]
  show (!PySem.W.rowLt (q.map .int) (p.map .int)) = _
  rw [PySem.W.dataLt_ints]
  unfold leT
  by_cases h : q < p
  · have h' : ¬ p ≤ q := fun r => List.not_lt.mpr r h
    simp [h, h']
  · have h' : p ≤ q := List.not_lt.mp h
    simp [h, h']
theorem sortD_tups (l : List (List Int)) : sortD (l.map tI) = (sortT l).map tI := by
  unfold sortD sortT
  have := PySem.W.sort_maps (r := leT) (s := dataLe false id) (l := l) tI (fun a _ b _ => by
    rw [← dataLe_tups]
    rfl)
  exact this.symm
theorem leT_trans (a b c : List Int) (h : leT a b = true) (k : leT b c = true) : leT a c = true := by
  unfold leT at *
  simp only [decide_eq_true_eq] at *
  exact List.le_trans h k
theorem leT_total (a b : List Int) : (leT a b || leT b a) = true := by
  unfold leT
  simp only [Bool.or_eq_true, decide_eq_true_eq]
  exact List.le_total a b
theorem leT_anti {a b : List Int} (h : leT a b = true) (k : leT b a = true) : a = b := by
  unfold leT at *
  simp only [decide_eq_true_eq] at *
  exact List.le_antisymm h k
theorem sortT_sorted (l : List (List Int)) : (sortT l).Pairwise fun a b => leT a b = true := List.pairwise_mergeSort leT_trans leT_total l
theorem sortT_perm (l : List (List Int)) : (sortT l).Perm l := List.mergeSort_perm l leT
theorem sorted_eq : ∀ {a b : List (List Int)}, a.Perm b → a.Pairwise (fun x y => leT x y = true) → b.Pairwise (fun x y => leT x y = true) → a = b := by
  intro a b p h k
  exact p.eq_of_pairwise (le := fun x y => leT x y = true) (fun x y _ _ h1 h2 => leT_anti h1 h2) h k
def dd : List (List Int) → List (List Int)
  | [] => []
  | x :: r => if x ∈ r then dd r else x :: dd r
theorem mem_dd {x : List Int} : ∀ {l : List (List Int)}, x ∈ dd l ↔ x ∈ l
  | [] => Iff.rfl
  | y :: r => by
    unfold dd
    split
    · rename_i h
      rw [mem_dd (l := r)]
      constructor
      · exact List.mem_cons_of_mem _
      · intro z
        rcases List.mem_cons.mp z with rfl | z
        · exact h
        · exact z
    · rw [List.mem_cons, List.mem_cons, mem_dd (l := r)]
theorem nodup_dd : ∀ l : List (List Int), (dd l).Nodup
  | [] => List.nodup_nil
  | y :: r => by
    unfold dd
    split
    · exact nodup_dd r
    · rename_i h
      exact List.nodup_cons.mpr ⟨fun z => h (mem_dd.mp z), nodup_dd r⟩
theorem length_dd : ∀ l : List (List Int), (dd l).length ≤ l.length
  | [] => Nat.le_refl _
  | y :: r => by
    unfold dd
    have := length_dd r
    split
    · rw [List.length_cons]; omega
    · rw [List.length_cons, List.length_cons]; omega
theorem alike_ints : ∀ a b : List Int, alikeAll (a.map .int) (b.map .int) = true
  | [], _ => by simp [alikeAll]
  | _ :: _, [] => by simp [alikeAll]
  | x :: a, y :: b => by
    rw [List.map_cons, List.map_cons, alikeAll, alike_ints a b, Bool.and_true]
    simp [alike]
theorem depthAll_ints : ∀ a : List Int, PyData.depthAll (a.map .int) ≤ 1
  | [] => by simp [PyData.depthAll]
  | x :: a => by
    have := depthAll_ints a
    rw [List.map_cons]
    simp only [PyData.depthAll, PyData.depth]
    omega
theorem canLay_ints : ∀ a : List Int, PyData.canLayAll0 (a.map .int) = true
  | [] => rfl
  | x :: a => by
    rw [List.map_cons]
    simp [PyData.canLayAll0, PyData.canLay0, canLay_ints a]
theorem canLay_tups : ∀ a : List (List Int), PyData.canLayAll0 (a.map tI) = true
  | [] => rfl
  | x :: a => by
    rw [List.map_cons]
    simp [PyData.canLayAll0, PyData.canLay0, canLay_ints x, canLay_tups a, tI]
section
variable {X : Cx} {W : WX} {f g h : Den} {fa : En → Mem → Ans (List Wv)} {pos : Pos}
end
def insI (x : Int) : List Int → List Int
  | [] => [x]
  | y :: l => if x < y then x :: y :: l else if x = y then y :: l else y :: insI x l
def setI (l : List Int) : List Int := l.foldr insI []
section
variable {X : Cx}
theorem CallR.or {f : Value} {r1 r2 : List V → Hp → VK → Prop} (h1 : CallR X f r1) (h2 : CallR X f r2) : CallR X f (fun xs H Q => r1 xs H Q ∨ r2 xs H Q) := by
  intro pins s σ H xs us Q I r h
  rcases h with h | h
  · exact h1 pins s σ H xs us Q I r h
  · exact h2 pins s σ H xs us Q I r h
end
section
variable {X : Cx} {W : WX} {f g h : Den} {fa : En → Mem → Ans (List Wv)} {pos : Pos}
@[simp] def setF : PyData → Option Rv
  | .list ds => (match tupsD ds with
    | some l => if l.length < 64 ∧ ((dd l).length ≤ 1 ∨ (l.all fun x => !x.isEmpty) = true) then some (.own (.list ((sortT (dd l)).map tI))) else none
    | none => none)
  | .tuple ds => (match intsD ds with
    | some l => if l.length < 64 then some (.own (.list ((setI l).map .int))) else none
    | none => none)
  | _ => none
end
end Lf
set_option Elab.async false
set_option linter.all false
set_option maxRecDepth 100000
set_option maxHeartbeats 4000000
namespace Lf
open PySem PySem.Spec PyProof.Rows L2
abbrev DenF := List Wv → Mem → Ans Rv
def spD (K : PySem.W.Frag) (F : DenF) : Sp := fun vs H Q _ => ∃ (G : Hp) (i : List Addr) (ws : List Wv) (M : Mem), RpWs K G i vs ws ∧ MemR K G H i M ∧ Ask K W0 (ResR K) G i [] Q (F ws M)
def retR (n : Nat) (r : Rv) (M : Mem) : Ans Rv := match r with
  | .w (.r l) => if l < n then .val (.w (.r l)) (M.take n) else (match unlO M[l]? with
    | some c => .val (.own c) (M.take n)
    | none => .bad)
  | r => .val r (M.take n)
def endR (n : Nat) : SAns → Ans Rv
  | .next _ M => .val (.w (.d .none)) (M.take n)
  | .ret r M => retR n r M
  | .exc x _ M => .exc x (M.take n)
  | _ => .bad
def fnD (nl np : Nat) (body : DenS) : DenF := fun ws M => if ws.length = np then endR M.length (body (ws.map some ++ List.replicate (nl - np) none) M) else .bad
section
variable {K : PySem.W.Frag} {G G' H H' : Hp} {i i' : List Addr} {M M' : Mem}
theorem take_pre (p : i <+: i') (n : Nat) (h : i.length = n) : i'.take n = i := by
  obtain ⟨t, rfl⟩ := p
  rw [← h]
  simp
theorem RpWs.env {vs : List V} {ws : List Wv} (r : RpWs K G i vs ws) (n : Nat) : EnvR K G i (ws.map some ++ List.replicate n none) (vs.map some ++ List.replicate n none) := by
  have hl := r.length
  refine ⟨by simp [hl], fun j w q => ?_⟩
  by_cases hj : j < ws.length
  · rw [List.getElem?_append_left (by simpa using hj)] at q
    rw [List.getElem?_append_left (by simpa [hl] using hj)]
    clear hl hj
    induction r generalizing j with
    | nil => simp at q
    | cons h t ih =>
      cases j with
      | zero => simp at q; subst q; exact ⟨_, by simp, h⟩
      | succ j => exact ih j (by simpa using q)
  · rw [List.getElem?_append_right (by simpa using hj)] at q
    have := List.getElem?_eq_some_iff.mp q
    obtain ⟨_, e⟩ := this
    simp at e
theorem ResR.cut {v : V} {r : Rv} {W : WX} {s : L2.St} {Q : VK} (p : i <+: i') (hlen : i.length = M.length) (e : Sub G G') (m : MemR K G' H' i' M') (h : ResR K G' H' i' v r) (q : Ask K W (ResR K) G i s Q (retR M.length r M')) : Q v H' := by
  have mc := m.cut (n := M.length)
  rw [take_pre p _ hlen] at mc
  have low : ∀ {l : Nat} {a : Addr}, l < M.length → i'[l]? = some a → i[l]? = some a := fun {l a} hl ha => by
    obtain ⟨t, rfl⟩ := p
    rw [List.getElem?_append_left (by omega)] at ha
    exact ha
  cases r with
  | own c =>
    obtain ⟨a, o, rfl, h1, h2, h3, h4⟩ := h
    exact q _ G' H' e mc ⟨a, o, rfl, h1, fun z => h2 (p.subset z), h3, h4⟩
  | w x =>
    cases x with
    | d x => exact q _ G' H' e mc h
    | f a => exact q _ G' H' e mc h
    | er a d fs => exact q _ G' H' e mc h
    | k xs => exact q _ G' H' e mc h
    | r l =>
      obtain ⟨a, h1, rfl⟩ := h
      have q : Ask K W (ResR K) G i s Q (if l < M.length then .val (.w (.r l)) (M'.take M.length) else (match unlO M'[l]? with
        | some c => .val (.own c) (M'.take M.length)
        | none => .bad)) := q
      split at q
      · rename_i hl
        exact q _ G' H' e mc ⟨a, low hl h1, rfl⟩
      · rename_i hl
        cases hc0 : unlO M'[l]? with
        | none => rw [hc0] at q; exact q.elim
        | some c =>
          rw [hc0] at q
          obtain ⟨hc, hk⟩ := unlkO_some hc0
          obtain ⟨o, h3, h4⟩ := m.at_ l a c h1 hc hk
          refine q _ G' H' e mc ⟨a, o, rfl, m.fr l a c h1 hc hk, fun z => ?_, h3, h4⟩
          obtain ⟨j, hj, ej⟩ := List.getElem_of_mem z
          have e2 : i'[j]? = some a := get_pre p (by rw [List.getElem?_eq_getElem hj, ej])
          obtain ⟨q1, e3⟩ := List.getElem?_eq_some_iff.mp h1
          obtain ⟨q2, e4⟩ := List.getElem?_eq_some_iff.mp e2
          have := (List.getElem_inj m.nd).mp (e3.trans e4.symm)
          omega
end
section
variable {P : Program} {w : World} {K : PySem.W.Frag} {mg : Str → Option Value} {base : Heap} {x qual : Str} {params : Arguments} {body : List Stmt} {scope : Scope} {f : Addr} {fd : FuncData}
theorem fn_ok {N ps : List Str} {k : Nat} {fs : DenS} (F : FunD K x qual params body scope [] [] f fd) (S : FnScope N ps scope)
    (hb : ∀ (cdv : Value) (A : Around) (outer : List Env) (s : Shared) (H : Hp) (E : XK), Room k (A.deeper (envOfC qual scope s.heap.objs.size f cdv)) → PSs (cxOf CX0 P w K mg base N qual scope f cdv A outer s H E).nox body (tDS K W0 fs)) :
    FnOk P w K mg base CX0 (k + 1) f fd ps (spD K (fnD N.length ps.length fs)) := by
  refine F.ok S (fun vs H Q E h => ?_) (fun cdv A outer s H vs Q E hr h => ⟨_, PSs.nox (hb cdv A outer s H E hr), ?_⟩)
  · obtain ⟨G, i, ws, M, r, m, q⟩ := h
    unfold fnD at q
    split at q
    · rename_i hl
      rw [r.length]
      exact hl
    · exact q.elim
  · obtain ⟨G, i, ws, M, r, m, q⟩ := h
    unfold fnD at q
    split at q
    · rename_i hl
      refine ⟨G, i, ws.map some ++ List.replicate (N.length - ps.length) none, M, ?_, m, ?_⟩
      · unfold L2.start
        rw [show N.length - vs.length = N.length - ps.length by rw [r.length, hl]]
        exact r.env _
      · unfold endR at q
        cases hb2 : fs (ws.map some ++ List.replicate (N.length - ps.length) none) M with
        | next e M' =>
          rw [hb2] at q
          intro s' G' i' H' h1 h2 h3 h4
          have mc := h4.cut (n := M.length)
          rw [take_pre h2 _ m.len] at mc
          exact q _ G' H' h1 mc .non
        | ret r' M' =>
          rw [hb2] at q
          intro v G' i' H' h1 h2 h3 h4
          exact ResR.cut h2 m.len h1 h3 h4 q
        | exc x' e M' =>
          rw [hb2] at q
          intro cls d s' G' i' H' h1 h2 h3 h4 h5
          have mc := h4.cut (n := M.length)
          rw [take_pre h2 _ m.len] at mc
          exact q cls d G' H' h1 mc h5
        | brk e M' => rw [hb2] at q; exact q.elim
        | cont e M' => rw [hb2] at q; exact q.elim
        | bad => rw [hb2] at q; exact q.elim
    · exact q.elim
end
structure Cl (P : Program) (w : World) (K : PySem.W.Frag) (mg : Str → Option Value) (base : Heap) (k : Nat) (x : Str) (F : DenF) : Prop where
  ex : ∃ (f : Addr) (fd : FuncData) (ps : List Str), mg x = some (.ref f) ∧ PySem.W.keepIn K (.ref f) = true ∧ Binds K fd ps [] ∧ FnOk P w K mg base CX0 k f fd ps (spD K F)
theorem Cl.mono {P : Program} {w : World} {K : PySem.W.Frag} {mg : Str → Option Value} {base : Heap} {j k : Nat} {x : Str} {F : DenF} (c : Cl P w K mg base j x F) (h : j ≤ k) : Cl P w K mg base k x F := by
  obtain ⟨f, fd, ps, h1, h2, h3, h4⟩ := c.ex
  exact ⟨f, fd, ps, h1, h2, h3, h4.mono h⟩
theorem Cl.of {P : Program} {w : World} {K : PySem.W.Frag} {mg : Str → Option Value} {base : Heap} {x qual : Str} {params : Arguments} {body : List Stmt} {scope : Scope} {f : Addr} {fd : FuncData} {N ps : List Str} {k : Nat} {fs : DenS}
    (F : FunD K x qual params body scope [] [] f fd) (S : FnScope N ps scope) (hm : mg x = some (.ref f))
    (hbd : ∀ (kV doc pm : Value) (an : Option Addr) (cdv ct : Value) (us : List Value), us.length = ps.length → bindArgs (PySem.W.fnOf x qual params body scope .none kV doc pm an cdv ct) ⟨us, []⟩ = pure (ps.zip us))
    (hb : ∀ (cdv : Value) (A : Around) (outer : List Env) (s : Shared) (H : Hp) (E : XK), Room k (A.deeper (envOfC qual scope s.heap.objs.size f cdv)) → PSs (cxOf CX0 P w K mg base N qual scope f cdv A outer s H E).nox body (tDS K W0 fs)) :
    Cl P w K mg base (k + 1) x (fnD N.length ps.length fs) := ⟨f, fd, ps, hm, F.kp, F.bindsN hbd, fn_ok F S hb⟩
@[simp] def dCall (F : DenF) (fa : En → Mem → Ans (List Wv)) : Den := fun e M => (fa e M).bind F
section
variable {X : Cx} {fa : En → Mem → Ans (List Wv)} {pos p : Pos} {x : Str} {F : DenF}
end
def noTab (H : Hp) : Hp := fun b => match H b with
  | some (.tbl _) => none
  | o => o
theorem noTab_sub (H : Hp) : Sub (noTab H) H := fun b o e => by
  unfold noTab at e
  split at e
  · cases e
  · exact e
theorem noTab_at {H : Hp} {b : Addr} {o : HO} (e : H b = some o) (n : ∀ ps, o ≠ .tbl ps) : noTab H b = some o := by
  unfold noTab
  split
  · rename_i ps q
    rw [e] at q
    cases q
    exact absurd rfl (n ps)
  · exact e
theorem noTab_no {H : Hp} {b : Addr} {ps : Array Value} (e : noTab H b = some (.tbl ps)) : False := by
  unfold noTab at e
  split at e
  · cases e
  · rename_i h
    exact h ps e
theorem law_sp {K : PySem.W.Frag} {F : DenF} {H : Hp} {a : Addr} {ns : List Int} {E : XK} (hF : ∃ M, F [.k (ns.map .int)] [] = .val (.w (.d (.bool true))) M) (hT : LamX.Tabs (tabsOf K) H) (h : SqL K H a (ns.map V.int)) : spD K F [.ref a] H (fun v _ => v = .bl true) E := by
  obtain ⟨M, hF⟩ := hF
  have h' : SqL K (noTab H) a (ns.map V.int) := by
    rcases h with (h | ⟨o, h⟩) | h
    · exact .inl (.inl (noTab_at h fun ps z => by cases z))
    · exact .inl (.inr ⟨o, noTab_at h fun ps z => by cases z⟩)
    · exact .inr h
  refine ⟨noTab H, [], [.k (ns.map .int)], [], .cons ⟨a, _, rfl, h', RpAll.ofInts ns⟩ .nil, ⟨noTab_sub H, List.nodup_nil, rfl, (fun l b c e _ => by simp at e), (fun l b c e _ => by simp at e), (fun l b ds e _ => by simp at e), hT, fun b ps e => noTab_no e⟩, ?_⟩
  · rw [hF]
    intro v G' H' h1 h2 h3
    exact bl_of h3
end Lf
set_option Elab.async false
set_option linter.all false
set_option maxRecDepth 100000
set_option maxHeartbeats 4000000
namespace Lf
open PySem PySem.Spec PyProof.Rows L2
section
variable {X : Cx} {W : WX}
theorem dv (j : Nat) {x : Str} {pos : Pos} (hN : X.N[j]? = some x := by rfl) (hv : Vis X.env.scope x := by first | exact Or.inl rfl | exact Or.inr (Or.inl rfl) | exact Or.inr (Or.inr rfl)) (hd : (x == ("__debug__" : Str)) = false := by decide) (hcd : (x == ("__classdict__" : Str)) = false := by decide) :
    PE X (.Name x pos) (tD X.K W (dVar j)) := d_var hN hv hd hcd
theorem gn (j : Nat) {x : Str} {pos : Pos} (hN : X.N.Nodup) (hi : X.N[j]? = some x := by rfl) (hx : Loc X.env.scope x := by first | exact Or.inl rfl | exact Or.inr rfl) (hf : X.fn x = true ∨ X.env.scope.names.lookup x = some .local := by first | exact .inl rfl | exact .inr rfl) : PG X (.Name x pos) (gName j) := pg_name hN hi hx hf
end
end Lf
set_option Elab.async false
set_option linter.all false
set_option maxRecDepth 100000
set_option maxHeartbeats 4000000
namespace Lf
open PySem PySem.Spec PyProof.Rows L2
theorem fn_eval {nl np : Nat} {body : DenS} {ws : List Wv} {M : Mem} {a : Ans Rv} (hl : ws.length = np) (h : endR M.length (body (ws.map some ++ List.replicate (nl - np) none) M) = a) : fnD nl np body ws M = a := by
  unfold fnD
  rw [if_pos hl, h]
@[simp] theorem sh_int (n : Int) : SeqAt.shaped (.int n) = true := by simp [SeqAt.shaped, PyData.canLay0, PyData.depth]
@[simp] theorem sh_bool (n : Bool) : SeqAt.shaped (.bool n) = true := by simp [SeqAt.shaped, PyData.canLay0, PyData.depth]
@[simp] theorem sh_none : SeqAt.shaped .none = true := by simp [SeqAt.shaped, PyData.canLay0, PyData.depth]
@[simp] theorem eqv_int (a b : Int) : PyData.eqv (.int a) (.int b) = decide (a = b) := by simp [PyData.eqv, Bool.beq_eq_decide_eq]
@[simp] theorem eqv_bool (a b : Bool) : PyData.eqv (.bool a) (.bool b) = decide (a = b) := by cases a <;> cases b <;> simp [PyData.eqv]
theorem atI_ok {A : Type} {xs : List A} {n : Int} {x : A} (h0 : 0 ≤ n) (h : xs[n.toNat]? = some x) : atI xs n = some x := by
  have hl := (List.getElem?_eq_some_iff.mp h).1
  unfold atI ixN
  rw [if_pos h0, if_pos (by omega)]
  exact h
@[simp] theorem atI_0 {A : Type} (x : A) (xs : List A) : atI (x :: xs) 0 = some x := atI_ok (by omega) rfl
@[simp] theorem atI_1 {A : Type} (x y : A) (xs : List A) : atI (x :: y :: xs) 1 = some y := atI_ok (by omega) rfl
@[simp] theorem atI_2 {A : Type} (x y z : A) (xs : List A) : atI (x :: y :: z :: xs) 2 = some z := atI_ok (by omega) rfl
@[simp] theorem ixN_0 (n : Nat) : ixN (n + 1) 0 = some 0 := by
  unfold ixN
  rw [if_pos (by omega), if_pos (by omega)]; rfl
theorem boolsD_fun {A : Type} (q : A → Bool) : ∀ l : List A, boolsD (l.map fun x => .bool (q x)) = some (l.map q)
  | [] => rfl
  | x :: l => by
    rw [List.map_cons]
    show (match boolsD (l.map fun x => .bool (q x)) with
      | some ns => some (q x :: ns)
      | none => none) = _
    rw [boolsD_fun q l]; rfl
theorem intsD_fun {A : Type} (q : A → Int) : ∀ l : List A, intsD (l.map fun x => .int (q x)) = some (l.map q)
  | [] => rfl
  | x :: l => by
    rw [List.map_cons]
    show (match intsD (l.map fun x => .int (q x)) with
      | some ns => some (q x :: ns)
      | none => none) = _
    rw [intsD_fun q l]; rfl
end Lf
set_option Elab.async false
set_option linter.all false
set_option maxRecDepth 100000
set_option maxHeartbeats 4000000
namespace Lf
open PySem PySem.Spec PyProof.Rows L2
@[simp] def takeR (al : Bool) (r : Rv) (M : Mem) : Wv × Mem := match r, al with
  | .w x, _ => (x, M)
  | .own c, true => (.r M.length, M ++ [c])
  | .own c, false => (.d c, M)
theorem ResR.take {K : PySem.W.Frag} {G H : Hp} {i : List Addr} {M : Mem} {v : V} {r : Rv} (al : Bool) (m : MemR K G H i M) (h : ResR K G H i v r) : ∃ G' i', Sub G G' ∧ i <+: i' ∧ MemR K G' H i' (takeR al r M).2 ∧ RpW K G' i' v (takeR al r M).1 := by
  cases r with
  | w x => exact ⟨G, i, Sub.refl _, List.prefix_refl _, m, h⟩
  | own c =>
    cases al with
    | false =>
      obtain ⟨G2, s2, m2, r2⟩ := h.fz m
      exact ⟨G2, i, s2, List.prefix_refl _, m2, r2⟩
    | true =>
      obtain ⟨a, o, rfl, h1, h2, h3, h4⟩ := h
      refine ⟨G, i ++ [a], Sub.refl _, List.prefix_append i [a], m.push h1 h2 h3 h4, a, ?_, rfl⟩
      rw [← m.len, List.getElem?_append_right (Nat.le_refl _)]
      simp
@[simp] def sPar (i j : Nat) (al bl : Bool) (f g : Den) : DenS := fun e M => (f e M).go e fun r M1 => (g e (takeR al r M1).2).go e fun q M2 => .next ((e.set i (some (takeR al r M1).1)).set j (some (takeR bl q M2).1)) (takeR bl q M2).2
section
variable {X : Cx} {W : WX} {f g : Den} {pos : Pos}
theorem s_par {i j : Nat} {al bl : Bool} {x y : Str} {a b : Expr} {px py pt : Pos} {kt k2 pt2} (hc : X.calm = true) (hN : X.N.Nodup) (hij : i ≠ j) (ha : PE X a (tD X.K W f)) (hb : PE X b (tD X.K W g)) (hi : X.N[i]? = some x := by rfl) (hj : X.N[j]? = some y := by rfl)
    (hx : X.env.scope.names.lookup x = some .local := by rfl) (hy : X.env.scope.names.lookup y = some .local := by rfl)
    (n1 : starEach [a, b] X.env = (false, eval a X.env) :: starEach [b] X.env := by rfl) (n2 : starEach [b] X.env = (false, eval b X.env) :: starEach [] X.env := by rfl)
    (hw : swappedStores [.Tuple [.Name x px, .Name y py] kt pt] (.Tuple [a, b] k2 pt2) X.env = pure (some [x, y]) := by rfl)
    (hs : swapsWithSole [.Tuple [.Name x px, .Name y py] kt pt] (.Tuple [a, b] k2 pt2) pos.line X.env = pure false := by rfl) :
    PS X (.Assign [.Tuple [.Name x px, .Name y py] kt pt] (.Tuple [a, b] k2 pt2) pos) (tDS X.K W (sPar i j al bl f g)) :=
  PS.weak (ps_par hc hN hi hj hij hx hy (pa_cons ha (pa_cons hb pa_nil n2) n1) hw hs) fun D s H q => by
    obtain ⟨G, ii, e, M, he, hm, q⟩ := q
    refine tG.goS he hm q fun v r M1 G1 H1 s1 m1 r1 q => ?_
    obtain ⟨G2, i2, s2, p2, m2, r2⟩ := r1.take al m1
    have he2 := he.mono (s1.trans s2) p2
    refine tG.goS he2 m2 (AskS.mono s2 p2 q) fun u t M2 G3 H3 s3 m3 r3 q => ?_
    obtain ⟨G4, i4, s4, p4, m4, r4⟩ := r3.take bl m3
    refine ⟨v, u, rfl, ?_⟩
    exact q _ G4 i4 H3 s4 p4 (((he2.mono (s3.trans s4) p4).set i (r2.mono (s3.trans s4) p4)).set j r4) m4
end
end Lf
set_option Elab.async false
set_option linter.all false
set_option maxRecDepth 100000
set_option maxHeartbeats 4000000
namespace Lf
open PySem PySem.Spec PyProof.Rows L2
@[simp] def sBrk : DenS := fun e M => .brk e M
@[simp] def sCont : DenS := fun e M => .cont e M
section
variable {X : Cx} {W : WX} {tf : DenT} {fs : DenS} {pos : Pos}
end
end Lf
set_option Elab.async false
set_option linter.all false
set_option maxRecDepth 100000
set_option maxHeartbeats 4000000
namespace Lf
open PySem PySem.Spec PyProof.Rows L2
section
variable {X : Cx} {W : WX} {f g h : Den} {fa : En → Mem → Ans (List Wv)} {a b : Expr} {pos : Pos}
def DGetX (H : Hp) (a : Addr) (y : V) (r : Option V) : Prop := DGet H a y r ∨ (H a = some (.dK []) ∧ DGet (upd H a (.dT [])) a y r) ∨ (H a = some (.dT []) ∧ DGet (upd H a (.dK [])) a y r)
def rInDX (neg : Bool) : R2 := fun x y H Q => ∃ a o, y = .ref a ∧ DGetX H a x o ∧ Q (.bl (if neg then !o.isSome else o.isSome)) H
theorem upd_back {H : Hp} {a : Addr} {o u : HO} (h : H a = some u) : upd (upd H a o) a u = H := by
  funext b
  by_cases hb : b = a
  · subst hb; rw [upd_same, h]
  · rw [upd_ne hb, upd_ne hb]
theorem op_inDX (hu : X.A.units + 1 < cLine) : OpR X (compareOp .In) (rInDX false) := by
  intro pins s σ H x y v u Q I rx ry q
  obtain ⟨p, o, rfl, g, q⟩ := q
  cases (show u = Value.ref p from ry)
  rcases g with g | ⟨h0, g⟩ | ⟨h0, g⟩
  · exact L2.d_in hu I g rx fun s' I' => ⟨.bl _, H, I', rfl, q⟩
  · refine L2.d_in hu (Inv.toT I h0) g rx fun s' I' => ⟨.bl _, H, ?_, rfl, q⟩
    have := Inv.toK (a := p) I' upd_same
    rwa [upd_back h0] at this
  · refine L2.d_in hu (Inv.toK I h0) g rx fun s' I' => ⟨.bl _, H, ?_, rfl, q⟩
    have := Inv.toT (a := p) I' upd_same
    rwa [upd_back h0] at this
theorem get_data {K : PySem.W.Frag} {G H : Hp} {i : List Addr} {M : Mem} {p : Addr} {y : V} {k : PyData} {ds : List (PyData × PyData)} (m : MemR K G H i M) (c : Cn K G H (.ref p) (.dict ds)) (ck : Cn K G H y k) (hk : keyOk k ds = true) :
    ∃ o, DGetX H p y o ∧ ((o = none ∧ getD k ds = none) ∨ ∃ v d, o = some v ∧ getD k ds = some d ∧ Rp K G v d) := by
  have flat : ∀ n : Key, y = kV n → k = kD n → flatKeys ds = true → ∃ o, DGetX H p y o ∧ ((o = none ∧ getD k ds = none) ∨ ∃ v d, o = some v ∧ getD k ds = some d ∧ Rp K G v d) := by
    intro n e1 e2 hf
    subst e1 e2
    cases c with
    | @dT _ kvs _ ho t =>
      have := flatKeys_dT t hf
      subst this
      cases t
      exact ⟨none, .inr (.inr ⟨ho, .inl ⟨[], n, .inl upd_same, rfl, rfl⟩⟩), .inl ⟨rfl, rfl⟩⟩
    | @dK _ kvs _ ho t => exact ⟨valV kvs n, .inl (.inl ⟨kvs, n, .inl ho, rfl, rfl⟩), t.val⟩
  cases k with
  | int n => cases ck; simp only [keyOk, Bool.and_eq_true] at hk; exact flat (.inl n) rfl rfl hk.2
  | str z => cases ck; simp only [keyOk, Bool.and_eq_true] at hk; exact flat (.inr z) rfl rfl hk.2
  | tuple ks => simp [keyOk] at hk
  | _ => simp [keyOk, key1] at hk
def inDF (neg : Bool) (x y : PyData) : Option Rv := match y with
  | .dict ds => if keyOk x ds = true then some (vB (if neg then !(getD x ds).isSome else (getD x ds).isSome)) else none
  | _ => none
theorem od_inD {neg : Bool} : OpD X (rInDX neg) (inDF neg) := by
  intro G H i M v u d1 d2 res Q m c1 c2 e q
  have key : ∀ (p : Addr) (ds : List (PyData × PyData)), u = .ref p → d2 = .dict ds → Cn X.K G H (.ref p) (.dict ds) → rInDX neg v u H Q := fun p ds e1 e2 c => by
    subst e1 e2
    obtain ⟨hk, h4⟩ := if_some e
    subst h4
    obtain ⟨o, g, ho⟩ := get_data m c c1 hk
    refine ⟨p, o, rfl, g, ?_⟩
    have : o.isSome = (getD d1 ds).isSome := by
      rcases ho with ⟨a, b⟩ | ⟨v, d, a, b, _⟩ <;> rw [a, b] <;> rfl
    rw [this]
    exact q _ G H (Sub.refl G) m (.bl _)
  cases c2 with
  | dT h t => exact key _ _ rfl rfl (.dT h t)
  | dK h t => exact key _ _ rfl rfl (.dK h t)
  | _ => simp [inDF] at e
def inXF (neg : Bool) (x y : PyData) : Option Rv := (inF neg x y).or (inDF neg x y)
theorem units1 {k : Nat} {A : Around} (hr : Room k A) : A.units + 1 < cLine := by have := hr.un; omega
theorem t_inX {k : Nat} (hr : Room k X.A) (ha : PE X a (tD X.K W f)) (hb : PE X b (tD X.K W g)) (hm : behindInMarks .In b = false := by rfl) : PT X (.Compare a [.In] [b] pos) (tDT X.K W (tst (dBin (inXF false) f g))) := t_cmpR (OpR.or (op_inAll (units65 hr)) (op_inDX (units1 hr))) (OpD.or od_in od_inD) ha hb hm
end
section
variable {prog : Program} {w : World} {A : Around} {E : Value → Shared → Prop} {s : Shared} {l : Addr} {xs : Array (Int × Tok)} {ns : List Int} {its : List Value} {Q : Value → Shared → Prop}
end
section
variable {X : Cx} {W : WX} {f g h : Den} {fa : En → Mem → Ans (List Wv)} {a b : Expr} {pos : Pos}
def sumTF : PyData → Option Rv
  | .tuple ds => (intsD ds).map fun ns => vI ns.sum
  | _ => none
theorem CallD.or {r r' : List V → Hp → VK → Prop} {F F' : List Wv → Mem → Option Rv} (h : CallD X r F) (h' : CallD X r' F') : CallD X (fun xs H Q => r xs H Q ∨ r' xs H Q) (fun ws M => (F ws M).or (F' ws M)) := by
  intro G H i M vs ws res Q m rr e q
  replace e : (F ws M).or (F' ws M) = some res := e
  cases z : F ws M with
  | some y => rw [z] at e; cases e; exact .inl (h G H i M vs ws _ Q m rr z q)
  | none => rw [z] at e; exact .inr (h' G H i M vs ws _ Q m rr e q)
theorem CallD.conv {r : List V → Hp → VK → Prop} {F F' : List Wv → Mem → Option Rv} (h : CallD X r F) (e : ∀ ws M r, F' ws M = some r → F ws M = some r) : CallD X r F' := fun G H i M vs ws res Q m rr he q => h G H i M vs ws res Q m rr (e _ _ _ he) q
def sumXF (d : PyData) : Option Rv := (sumF d).or (sumTF d)
end
end Lf
set_option Elab.async false
set_option linter.all false
set_option maxRecDepth 100000
set_option maxHeartbeats 4000000
namespace Lf
open PySem PySem.Spec PyProof.Rows L2
def spX (K : PySem.W.Frag) (F : DenF) : Sp := fun vs H Q E => ∃ (G : Hp) (i : List Addr) (ws : List Wv) (M : Mem), RpWs K G i vs ws ∧ MemR K G H i M ∧ Ask K (fun cls d _ H => E cls d H) (ResR K) G i [] Q (F ws M)
structure FnG (P : Program) (w : World) (K : PySem.W.Frag) (mg : Str → Option Value) (base : Heap) (C : CXT) (k : Nat) (f : Addr) (fd : FuncData) (ps : List Str) (sp : Sp) : Prop where
  len : ∀ vs H Q E, sp vs H Q E → vs.length = ps.length
  run : ∀ (A : Around) (outer : List Env) (s : Shared) (H : Hp) (args : Args) (us : List Value) (vs : List V) (Q : VK) (E : XK), Room k A → A.guards = some [] → Env0 P w K mg base A outer s H → BindsTo s fd args (ps.zip us) → Vals vs us → sp vs H Q E →
    codeAny (model P w) A (.call (.ref f) args) (CR C outer P w H s Q E) s
def CodeV (K : PySem.W.Frag) (x : Str) (cdv : Value) : Prop := ∀ c P, PySem.W.tabIn K x = some (c, P) → cdv = .ref c
theorem deeper_guards {A : Around} {env : Env} (h : A.guards = some []) : (A.deeper env).guards = some [] := h
section
variable {P : Program} {w : World} {K : PySem.W.Frag} {mg : Str → Option Value} {base : Heap} {x qual : Str} {params : Arguments} {body : List Stmt} {scope : Scope} {f : Addr} {fd : FuncData}
theorem fnG_of {C : CXT} {N ps : List Str} {k : Nat} {sp : Sp} (F : FunD K x qual params body scope [] [] f fd) (hm : mg x = some (.ref f)) (S : FnScope N ps scope) (len : ∀ vs H Q E, sp vs H Q E → vs.length = ps.length)
    (hbody : ∀ (cdv : Value) (_ : CodeV K x cdv) (A : Around) (outer : List Env) (s : Shared) (H : Hp) (vs : List V) (Q : VK) (E : XK), Room k (A.deeper (envOfC qual scope s.heap.objs.size f cdv)) → (A.deeper (envOfC qual scope s.heap.objs.size f cdv)).guards = some [] → sp vs H Q E →
      ∃ t, PSs (cxOf C P w K mg base N qual scope f cdv A outer s H E) body t ∧ t { nx := fun _ H' => Q .non H', rt := Q } (L2.start N vs) H) : FnG P w K mg base C (k + 1) f fd ps sp := by
  obtain ⟨oc, od, dV, kV, doc, pm, an, cdv, ct, osl, rfl, lk, hcd, _, _⟩ := F.ex
  refine ⟨len, fun A outer s H args us vs Q E hr hgd e0 hb r hsp => ?_⟩
  have old : ∀ b o, base.get? b = some o → s.heap.get? b = some o := fun b o e => (e0.bs b o e).1
  have KX : K.In s.heap := e0.mod.kin.keeps old
  refine codeAny_call_function hr.depth (KX _ _ lk) rfl S.co S.gen rfl (PySem.W.codeRec_of KX hcd) (hb _ _ _ _ ?_)
  refine wpAny_newFunctionEnv_cells S.kind (fun y hy => (S.par y.1 (List.of_mem_zip hy).1).imp id fun q => ⟨q, PySem.W.cellsFrom_some _ _ _ (.inl q)⟩) fun env he s1 z => ?_
  subst he
  refine ⟨(e0.mod.nolimit.keeps old).keeps z.toInCall.keep, codeAny_func ?_⟩
  obtain ⟨t, ht, hq⟩ := hbody cdv (fun c P ht => PySem.W.law_code e0.mod.kin e0.mod.glob ht hm (e0.mod.kin _ _ lk) rfl) A outer s H vs Q E (hr.deeper _) (deeper_guards hgd) hsp
  refine wpAny_mono (ht.run [] s1 (L2.start N vs) H _ (inv_start S hr.hd e0 (len _ _ _ _ hsp) r z) hq) (fun fl s' hs => ?_) fun _ _ hs => hs
  cases fl with
  | ret u => obtain ⟨v, _, H', J, rv, q⟩ := hs; exact ⟨v, H', J.os, J.bare, J.base, J.hok, rv, q⟩
  | next => obtain ⟨_, H', J, q⟩ := hs; exact ⟨V.non, H', J.os, J.bare, J.base, J.hok, rfl, q⟩
  | brk => obtain ⟨_, _, _, q⟩ := hs; exact q.elim
  | cont => obtain ⟨_, _, _, q⟩ := hs; exact q.elim
theorem fn_okX {N ps : List Str} {k : Nat} {fs : DenS} (F : FunD K x qual params body scope [] [] f fd) (hm : mg x = some (.ref f)) (S : FnScope N ps scope)
    (hb : ∀ (cdv : Value) (_ : CodeV K x cdv) (A : Around) (outer : List Env) (s : Shared) (H : Hp) (E : XK), Room k (A.deeper (envOfC qual scope s.heap.objs.size f cdv)) → (A.deeper (envOfC qual scope s.heap.objs.size f cdv)).guards = some [] → PSs (cxOf (L2.CX P w) P w K mg base N qual scope f cdv A outer s H E) body (tDS K (fun cls d _ H => E cls d H) fs)) :
    FnG P w K mg base (L2.CX P w) (k + 1) f fd ps (spX K (fnD N.length ps.length fs)) := by
  refine fnG_of F hm S (fun vs H Q E h => ?_) (fun cdv hcv A outer s H vs Q E hr hgd h => ⟨_, hb cdv hcv A outer s H E hr hgd, ?_⟩)
  · obtain ⟨G, i, ws, M, r, m, q⟩ := h
    unfold fnD at q
    split at q
    · rename_i hl
      rw [r.length]
      exact hl
    · exact q.elim
  · obtain ⟨G, i, ws, M, r, m, q⟩ := h
    unfold fnD at q
    split at q
    · rename_i hl
      refine ⟨G, i, ws.map some ++ List.replicate (N.length - ps.length) none, M, ?_, m, ?_⟩
      · unfold L2.start
        rw [show N.length - vs.length = N.length - ps.length by rw [r.length, hl]]
        exact r.env _
      · unfold endR at q
        cases hb2 : fs (ws.map some ++ List.replicate (N.length - ps.length) none) M with
        | next e M' =>
          rw [hb2] at q
          intro s' G' i' H' h1 h2 h3 h4
          have mc := h4.cut (n := M.length)
          rw [take_pre h2 _ m.len] at mc
          exact q _ G' H' h1 mc .non
        | ret r' M' =>
          rw [hb2] at q
          intro v G' i' H' h1 h2 h3 h4
          exact ResR.cut h2 m.len h1 h3 h4 q
        | exc x' e M' =>
          rw [hb2] at q
          intro cls d s' G' i' H' h1 h2 h3 h4 h5
          have mc := h4.cut (n := M.length)
          rw [take_pre h2 _ m.len] at mc
          exact q cls d G' H' h1 mc h5
        | brk e M' => rw [hb2] at q; exact q.elim
        | cont e M' => rw [hb2] at q; exact q.elim
        | bad => rw [hb2] at q; exact q.elim
    · exact q.elim
end
structure ClX (P : Program) (w : World) (K : PySem.W.Frag) (mg : Str → Option Value) (base : Heap) (k : Nat) (x : Str) (F : DenF) : Prop where
  ex : ∃ (f : Addr) (fd : FuncData) (ps : List Str), mg x = some (.ref f) ∧ PySem.W.keepIn K (.ref f) = true ∧ Binds K fd ps [] ∧ FnG P w K mg base (L2.CX P w) k f fd ps (spX K F)
theorem Ask.stW {A B : Type} {K : PySem.W.Frag} {W : WX} {Rel : Hp → Hp → List Addr → B → A → Prop} {G : Hp} {i : List Addr} {s s' : L2.St} {Q : B → Hp → Prop} {a : Ans A} (h : Ask K W Rel G i s Q a) : Ask K (fun cls d _ H => W cls d s H) Rel G i s' Q a := by
  cases a with
  | val _ _ => exact h
  | exc _ _ => exact h
  | bad => exact h
section
variable {X : Cx} {W : WX} {fa : En → Mem → Ans (List Wv)} {pos p : Pos} {x : Str} {F : DenF}
theorem run_fnG {k : Nat} {f : Addr} {fd : FuncData} {ps : List Str} {sp : Sp} {E : L2.St → XK} {pins : List (Addr × Obj)} {σ : L2.St} {H : Hp} {s : Shared} {Q : VK} {us : List Value} {vs : List V} {C : CXT} (F : FnG X.prog X.w X.K X.mg X.base C k f fd ps sp) (hr : Room k X.A) (hgd : X.A.guards = some [])
    (hb : Binds X.K fd ps []) (hx : PassesAt C X σ (E σ)) (I : Inv X pins σ H s) (r : Vals vs us) (h : sp vs H Q (E σ)) : wpAny (model X.prog X.w) X.A (call (.ref f) us) (EP X pins σ Q) X.xe s := by
  have b := hb s us I.kIn (by rw [List.append_nil, ← r.length]; exact F.len _ _ _ _ h)
  rw [List.append_nil] at b
  refine wpAny_call (codeAny_mono (F.run X.A X.stack s H ⟨us, []⟩ us vs Q (E σ) hr hgd I.env0 b r h) fun o s' q => ?_)
  cases o with
  | error e => exact hx pins H s e s' I q
  | ok fl => cases fl <;> first | exact I.after q | exact q.elim
theorem run_clX {j k : Nat} {f : Addr} {fd : FuncData} {ps : List Str} (tk : Takes X W) (h4 : FnG X.prog X.w X.K X.mg X.base (L2.CX X.prog X.w) j f fd ps (spX X.K F)) (h3 : Binds X.K fd ps []) (hr : Room k X.A) (hgd : X.A.guards = some []) (hjk : j ≤ k)
    {pins : List (Addr × Obj)} {σ : L2.St} {H : Hp} {s : Shared} {Q : VK} {us : List Value} {vs : List V} (I : Inv X pins σ H s) (r : Vals vs us) (h : spX X.K F vs H Q (WE W σ)) : wpAny (model X.prog X.w) X.A (call (.ref f) us) (EP X pins σ Q) X.xe s :=
  run_fnG h4 (hr.mono hjk) hgd h3 (passAt tk σ) I r h
theorem d_callT {j k : Nat} {e : Expr} {es : List Expr} (tk : Takes X W) (hgd : X.A.guards = some []) (c : ClX X.prog X.w X.K X.mg X.base j x F) (hr : Room k X.A) (hjk : j ≤ k) (ha : PA X (e :: es) (tDA X.K W fa)) (hg : Gl X x := by rfl) (hdb : (x == ("__debug__" : Str)) = false := by decide)
    (he : starEach (e :: es) X.env = (false, eval e X.env) :: starEach es X.env := by rfl) (hpl : (backTo pos (starEach es X.env)).any (·.1) = false := by rfl) :
    PE X (.Call (.Name x p) (e :: es) [] pos) (tD X.K W (dCall F fa)) := by
  obtain ⟨f, fd, ps, h1, h2, h3, h4⟩ := c.ex
  refine ⟨fun pins s σ H Q I q => wpAny_Call_Name_kw (ld_glob I hg h1 ?_ hdb)⟩
  have q' : tCallS (spX X.K F) (WE W) (tDA X.K W fa) σ H Q := by
    obtain ⟨G, i, e, M, he, hm, q⟩ := q
    refine tG.go he hm q fun vs ws M1 G1 H1 s1 m1 r1 q => ?_
    exact ⟨G1, i, ws, M1, r1, m1, q.stW⟩
  refine PySem.W.callWith_K (h₀ := X.base) I.ok.mod.kin h2 (thn (ha.run pos pins s σ H _ I q') fun us s1 ⟨vs, H1, I1, r, z⟩ => ⟨I1.kIn, ?_⟩) he hpl
  exact run_clX tk h4 h3 hr hgd hjk I1 r z
theorem d_callN {j k : Nat} {e : Expr} {es : List Expr} (hgd : X.A.guards = some []) (c : ClX X.prog X.w X.K X.mg X.base j x F) (hr : Room k X.A) (hjk : j ≤ k) (ha : PA X (e :: es) (tDA X.K W0 fa)) (hg : Gl X x := by rfl) (hdb : (x == ("__debug__" : Str)) = false := by decide)
    (he : starEach (e :: es) X.env = (false, eval e X.env) :: starEach es X.env := by rfl) (hpl : (backTo pos (starEach es X.env)).any (·.1) = false := by rfl) :
    PE X (.Call (.Name x p) (e :: es) [] pos) (tD X.K W0 (dCall F fa)) := d_callT takes0 hgd c hr hjk ha hg hdb he hpl
@[simp] def sRaise (x : Str) : DenS := fun e M => .exc ⟨x, []⟩ e M
structure ExK (K : PySem.W.Frag) (mg : Str → Option Value) (x : Str) : Prop where
  gC : mg x = some (.ref (He.ga K x))
  ok : (He.Fa.exc x).ok K = true
theorem pmk_own0 (E : ExK X.K X.mg x) (hg : Gl X x) (hdb : (x == ("__debug__" : Str)) = false := by decide) : PMk X (.Call (.Name x p) [] [] pos) (fun _ H Q => Q (.ref (He.ga X.K x)) none H) := by
  obtain ⟨q, h2⟩ := He.ba E.ok
  obtain ⟨kC, h3⟩ := He.ba h2
  obtain ⟨h4, h5⟩ := He.ba h3
  have r : Raises X (.ref (He.ga X.K x)) := raises_own (of_decide_eq_true h4) (of_decide_eq_true h5)
  intro pins s σ H Q I h
  refine wpAny_Call_Name_kw (ld_glob I hg E.gC ?_ hdb)
  refine PySem.W.callWith_K0 I.kIn kC ?_
  show wpAny _ _ (call (.ref (He.ga X.K x)) []) _ _ _
  obtain ⟨bm, N, nm, qn, bs, hdct, sn, sub, ab, col, dd, k0, k1, k2, k3, k5, mN, hC, hN, hni, T⟩ := exc_obj I.kIn q
  refine wpAny_call_exc_subT PySem.F.excBase_ValueError T hC hN hni (fun h' e hm => ?_) (Nat.zero_le _)
  exact mk_of I hm r h (I.hok.gone hm.new)
theorem s_raise0 (hc : X.calm = true) (tk : Takes X W) (E : ExK X.K X.mg x) {pos' : Pos} (hg : Gl X x := by rfl) (hdb : (x == ("__debug__" : Str)) = false := by decide) : PS X (.Raise (some (.Call (.Name x p) [] [] pos)) none pos') (tDS X.K W (sRaise x)) :=
  PS.weak (ps_raise hc tk (pmk_own0 E hg hdb)) fun D s H q => by
    obtain ⟨G, i, e, M, he, hm, q⟩ := q
    exact q _ none s G i H (Sub.refl _) (List.prefix_refl _) he hm ⟨rfl, .inl ⟨rfl, rfl⟩⟩
end
end Lf
set_option Elab.async false
set_option linter.all false
set_option maxRecDepth 100000
set_option maxHeartbeats 4000000
namespace Lf
open PySem PySem.Spec PyProof.Rows L2
section
variable {X : Cx} {W : WX} {f g h : Den} {fa : En → Mem → Ans (List Wv)} {pos : Pos}
def rCountD (K : PySem.W.Frag) : V → List V → Hp → VK → Prop := fun x xs H Q => ∃ (a : Addr) (y : V) (d : PyData) (ds : List PyData), x = V.ref a ∧ xs = [y] ∧ Dp K H (V.ref a) (.list ds) ∧ Dp K H y d ∧ PyData.canLayAll0 ds = true ∧ SeqAt.shaped d = true ∧ Q (.int ((ds.countP fun z => PyData.eqv z d : Nat) : Int)) H
theorem mt_countD (hu : X.A.units + 65 < cLine) : MtR X "list.count" (rCountD X.K) := by
  intro pins s σ H x xs v us Q I rx rxs h
  obtain ⟨a, y, d, ds, rfl, rfl, hl, hy, hxs, sd, q⟩ := h
  cases rx
  obtain ⟨uy, rfl, ry⟩ := rxs.one
  obtain ⟨bs, r1⟩ := Dp.reads I d y uy hy ry
  cases hl with
  | lst hs ha =>
    obtain ⟨its, rv, ⟨⟨cls, dd, data, sls⟩, n, ho, hc, hdn, hdt⟩, hlen⟩ := I.list hs
    simp only at hc hdt
    subst hc hdt
    obtain ⟨as, h4⟩ := Dp.readsAll I ds _ its ha rv
    have hmap : its.map (SeqAt.readOf s.heap) = ds := SeqAt.readsAll_map ds its as hxs h4
    have ec : its.countP (fun u => PyData.eqv (SeqAt.readOf s.heap u) d) = ds.countP fun z => PyData.eqv z d := by
      rw [← hmap, List.countP_map]
      rfl
    refine call_meets PySem.F.slot_list_count ⟨_, ho, rfl⟩ PySem.F.entry_list_count (PySem.F.args_list_count_2 _ _)
      (SeqAt.list_countAt a its.toArray n dd sls uy fun u => PyData.eqv (SeqAt.readOf s.heap u) d) ⟨ho, SeqAt.items_eqAt (vs := its.toArray) (show ReadsAll s.heap its.toArray.toList ds as from h4) r1 hxs (SeqAt.canLay_of_shaped sd) (room_in_shaped sd hu), ?_⟩
    refine ⟨.int _, H, I.tok _, ⟨s.toks, rfl⟩, ?_⟩
    rw [show its.toArray.toList = its from rfl, ec]
    exact q
@[simp] def isRL (o : Wv) (M : Mem) : Bool := match o.rdK M with
  | some (.list _) => true
  | _ => false
@[simp] def mrR (F : PyData → PyData → Option Rv) (o : Wv) (ws : List Wv) (M : Mem) : Ans Rv := match o.rdK M, ws with
  | some c, [w] => (match w.rd M with
    | some d => (match F c d with
      | some r => .val r M
      | none => .bad)
    | none => .bad)
  | _, _ => .bad
@[simp] def dMr (F : PyData → PyData → Option Rv) (f : Den) (fa : En → Mem → Ans (List Wv)) : Den := fun e M => (f e M).bind fun o M1 => if isRL o.fz M1 = true then (fa e M1).bind fun ws M2 => mrR F o.fz ws M2 else .bad
def MrD (X : Cx) (r : V → List V → Hp → VK → Prop) (F : PyData → PyData → Option Rv) : Prop :=
  ∀ (G H : Hp) (i : List Addr) (M : Mem) (v u : V) (c d : PyData) (res : Rv) (Q : VK), MemR X.K G H i M → CnK X.K G H v c → Cn X.K G H u d → F c d = some res →
    (∀ v' G' H', Sub G G' → MemR X.K G' H' i M → ResR X.K G' H' i v' res → Q v' H') → r v [u] H Q
theorem mr_use {r : V → List V → Hp → VK → Prop} {F : PyData → PyData → Option Rv} (md : MrD X r F) (s : L2.St) (H : Hp) (Q : VK) (q : tD X.K W (dMr F f fa) s H Q) : tBM X.K "list" r (tD X.K W f) (tDA X.K W fa) s H Q := by
  obtain ⟨G, i, e, M, he, hm, q⟩ := q
  refine tD.goW he hm q fun v x M1 G1 H1 s1 m1 r1 q => ?_
  split at q
  · rename_i hl
    unfold isRL at hl
    cases z : x.fz.rdK M1 with
    | none => rw [z] at hl; cases hl
    | some c =>
      rw [z] at hl
      have c1 := r1.cnK m1 z
      cases c with
      | list ds =>
        obtain ⟨p, xs, rfl, h1, h2⟩ := c1.list
        refine ⟨.inl ⟨rfl, xs, h1⟩, ?_⟩
        refine tG.go (he.mono s1 (List.prefix_refl _)) m1 q fun vs ws M2 G2 H2 s2 m2 r2 q => ?_
        unfold mrR at q
        cases z2 : x.fz.rdK M2 with
        | none => rw [z2] at q; exact q.elim
        | some c2 =>
          rw [z2] at q
          cases r2 with
          | nil => exact q.elim
          | cons rw_ rt =>
            cases rt with
            | cons _ _ => exact q.elim
            | nil =>
              rename_i w
              simp only [] at q
              cases z3 : w.rd M2 with
              | none => rw [z3] at q; exact q.elim
              | some d =>
                rw [z3] at q
                simp only [] at q
                cases z4 : F c2 d with
                | none => rw [z4] at q; exact q.elim
                | some res =>
                  rw [z4] at q
                  exact md G2 H2 i M2 _ _ c2 d res Q m2 ((r1.mono s2 (List.prefix_refl _)).cnK m2 z2) (rw_.cn m2 z3) z4 q
      | _ => cases hl
  · exact q.elim
@[simp] def cntF : PyData → PyData → Option Rv
  | .list ds, d => if PyData.canLayAll0 ds = true ∧ SeqAt.shaped d = true then some (vI ((ds.countP fun z => PyData.eqv z d : Nat) : Int)) else none
  | _, _ => none
@[simp] def idxF : PyData → PyData → Option Rv
  | .list ds, d => if SeqAt.shaped (.list ds) = true ∧ SeqAt.shaped d = true then (match ds.findIdx? fun z => PyData.eqv z d with
    | some j => some (vI (j : Nat))
    | none => none) else none
  | _, _ => none
theorem CnK.dpL {K : PySem.W.Frag} {G H : Hp} {v : V} {ds : List PyData} (c : CnK K G H v (.list ds)) (e : Sub G H) (q : PyData.canLayAll0 ds = true) : ∃ a, v = .ref a ∧ Dp K H (.ref a) (.list ds) := by
  obtain ⟨p, xs, rfl, h1, h2⟩ := c.list
  exact ⟨p, rfl, .lst h1 (h2.dp e q)⟩
theorem md_cnt : MrD X (rCountD X.K) cntF := by
  intro G H i M v u c d res Q m c1 c2 e q
  cases c with
  | list ds =>
    obtain ⟨⟨h1, h2⟩, h4⟩ := if_some e
    subst h4
    obtain ⟨a, rfl, hd⟩ := c1.dpL m.sub h1
    exact ⟨a, u, d, ds, rfl, rfl, hd, c2.dp m.sub h2, h1, h2, q _ G H (Sub.refl _) m (.int _)⟩
  | _ => cases e
theorem md_idx : MrD X (rIndexD X.K) idxF := by
  intro G H i M v u c d res Q m c1 c2 e q
  cases c with
  | list ds =>
    unfold idxF at e
    simp only [] at e
    split at e
    · rename_i hs
      cases z : ds.findIdx? (fun z => PyData.eqv z d) with
      | none => rw [z] at e; cases e
      | some j =>
        rw [z] at e
        cases e
        obtain ⟨a, rfl, hd⟩ := c1.dpL m.sub (SeqAt.canLay_of_shaped hs.1)
        obtain ⟨hj, h1, h2⟩ := List.findIdx?_eq_some_iff_getElem.mp z
        exact ⟨a, u, d, ds, j, ds[j], rfl, rfl, hd, c2.dp m.sub hs.2, hs.1, hs.2, List.getElem?_eq_getElem hj, h1, fun k z' hk hz => by
          obtain ⟨hk2, rfl⟩ := List.getElem?_eq_some_iff.mp hz
          simpa using h2 k hk, q _ G H (Sub.refl _) m (.int _)⟩
    · cases e
  | _ => cases e
theorem d_count {o e : Expr} {apos cpos : Pos} (hu : X.A.units + 65 < cLine) (ho : PE X o (tD X.K W f)) (ha : PA X [e] (tDA X.K W fa)) (hbase : attributeBase o "count" X.env (eval o X.env) = eval o X.env := by rfl)
    (hfew : ((backTo cpos (starEach [e] X.env)).all (fun x => !x.1) && (backToKw cpos (keywordEach [] X.env)).all (fun x => x.1.isSome) && decide (([e] : List Expr).length + ([] : List Keyword).length + (if ([] : List Keyword).isEmpty then 0 else 1) < 30)) = true := by rfl)
    (hline : (apos.endLine == cpos.line) = true := by rfl) (hs : starEach [e] X.env = (false, eval e X.env) :: starEach [] X.env := by rfl) :
    PE X (.Call (.Attribute o "count" apos) [e] [] cpos) (tD X.K W (dMr cntF f fa)) :=
  PE.weak (pe_bm PySem.F.plainAttrs_list PySem.F.slot_list_count PySem.F.type_list_count (mt_countD hu) ho ha hbase hfew hline hs rfl) (mr_use md_cnt)
theorem d_index {o e : Expr} {apos cpos : Pos} (hu : X.A.units + 65 < cLine) (ho : PE X o (tD X.K W f)) (ha : PA X [e] (tDA X.K W fa)) (hbase : attributeBase o "index" X.env (eval o X.env) = eval o X.env := by rfl)
    (hfew : ((backTo cpos (starEach [e] X.env)).all (fun x => !x.1) && (backToKw cpos (keywordEach [] X.env)).all (fun x => x.1.isSome) && decide (([e] : List Expr).length + ([] : List Keyword).length + (if ([] : List Keyword).isEmpty then 0 else 1) < 30)) = true := by rfl)
    (hline : (apos.endLine == cpos.line) = true := by rfl) (hs : starEach [e] X.env = (false, eval e X.env) :: starEach [] X.env := by rfl) :
    PE X (.Call (.Attribute o "index" apos) [e] [] cpos) (tD X.K W (dMr idxF f fa)) :=
  PE.weak (pe_bm PySem.F.plainAttrs_list PySem.F.slot_list_index PySem.F.type_list_index (mt_indexD hu) ho ha hbase hfew hline hs rfl) (mr_use md_idx)
end
end Lf
set_option Elab.async false
set_option linter.all false
set_option maxRecDepth 100000
set_option maxHeartbeats 4000000
namespace Lf
open PySem PySem.Spec PyProof.Rows L2
section
variable {X : Cx} {W : WX}
@[simp] def dBad : Den := fun _ _ => .bad
end
section
open PySem.W PySem.Calls
variable {prog : Program} {w : World} {A : Around} {E : Value → Shared → Prop} {s : Shared} {K : Frag} {x D : Addr} {ox : Obj} {od : Option Obj}
theorem findObj_dataD {C : Addr} {name : Str} {a g : Value} (hc : (clsIn K C).isSome = true) (ha : findIn K (.ref C) name = some (some a)) (hg : specialIn K a "__get__" = some (some g)) (ht : takesIn K a = some true) : findObj K C od name = some (.bind g a) := by
  obtain ⟨cd, hc⟩ := Option.isSome_iff_exists.mp hc
  unfold findObj
  rw [hc, Option.bind_some, ha, Option.bind_some]
  simp [hg, ht]
theorem kin_classD {Q : Option Value → Shared → Prop} (C : ExcC K D) (X : K.In s.heap) (I : InstAt s.heap x ox D od) (h : Q (some (.ref D)) { s with toks := s.toks + 1 }) : wpAny (model prog w) A (getAttr? (.ref x) "__class__") Q E s := by
  have hf : findObj K D od "__class__" = some (.bind (.builtin "getset_descriptor.__get__") (.builtin "object.__class__")) := findObj_dataD (by obtain ⟨cd, hc, _⟩ := any_some C.hd; rw [hc]; rfl) C.ha C.hn C.ht
  obtain ⟨hp, g, d, t, os⟩ := s
  have L0 := I.type (M := model prog w)
  have L1 := looks_findIn (M := model prog w) X C.hg
  have L2 := looks_findIn (M := model prog w) X C.hk
  have L3 := looks_find (M := model prog w) X I hf
  have sub : Looks (model prog w) hp (isInstance (.ref x) (.type "BaseException")) true := L0.andThen (looks_subIn X C.hs)
  have hx0 : (false && onTheHeap (Value.builtin "BaseException.__getattribute__")) = false := rfl
  have hx2 : (Value.builtin "BaseException.__getattribute__" == Value.builtin "object.__getattribute__") = false := by decide +kernel
  have hx1 : (onTheHeap (Value.ref D) && Value.builtin "BaseException.__getattribute__" == Value.builtin "object.__getattribute__") = false := by rw [hx2]; rfl
  unfold getAttr? getAttrBy? getAttrBy
  refine wpAny_bind (wpAny_mkText (wpAny_bind (wpAny_attempt (wpAny_holding (wpAny_bind (L0.at (wpAny_bind (L1.at ?_))))))))
  show wpAny _ _ (if (onTheHeap (Value.ref D) && Value.builtin "BaseException.__getattribute__" == Value.builtin "object.__getattribute__") = true then _ else _) _ _ _
  rw [hx1, if_neg Bool.false_ne_true]
  unfold getAttrByItsOwn hookBefore
  refine wpAny_bind ?_
  rw [if_pos (show onTheHeap (Value.ref D) = true from rfl)]
  refine L2.at ?_
  refine wpAny_bind (wpAny_attempt (wpAny_holding ?_))
  unfold callGetattribute
  rw [hx0, if_neg Bool.false_ne_true]
  unfold boundAndCalled
  rw [PySem.F.excAttr_ValueError.ga.bind (.ref x)]
  refine wpAny_bind (wpAny_pure ?_)
  show wpAny _ _ (call (.builtin "BaseException.__getattribute__") [.ref x, .str "__class__" t]) _ _ _
  refine wpAny_call (codeAny_call_builtin PySem.F.excAttr_ValueError.ga.plain PySem.F.entry_bexc_ga ?_)
  refine @check_slot (model prog w) _ _ ⟨hp, g, d, t + 1, os⟩ "BaseException.__getattribute__" "BaseException" "__getattribute__" (.ref x) [.str "__class__" t] [] _ (by decide +kernel) (by decide +kernel) sub (PySem.F.args_bexc_ga (.ref x) (.str "__class__" t)) ?_
  unfold Builtin.«object.__getattribute__»
  refine wpAny_bind (wpAny_of_eq (a := ((Value.ref x : Value), [Value.str "__class__" t])) (by first | rfl | (simp only [slotArgs]; rfl)) ?_)
  refine wpAny_bind (wpAny_pure (wpAny_bind (L0.at (wpAny_bind (L3.at ?_)))))
  show wpAny _ _ (holding [Value.builtin "object.__class__"] (call (.builtin "getset_descriptor.__get__") [.builtin "object.__class__", .ref x, .ref D]) >>= ret) _ _ _
  refine wpAny_bind (wpAny_holding (wpAny_call (class_get (s := ⟨hp, g, d, t + 1, os⟩) (ox := ox) (od := od) X I C.hm ?_)))
  refine wpAny_pure ?_
  show wpAny _ _ (handedOut (.ref D)) _ _ _
  rw [handedOut_of (v := .ref D) rfl]
  first
    | exact wpAny_pure (wpAny_pure h)
    | exact wpAny_pure h
    | exact wpAny_pure (wpAny_bind (wpAny_pure (wpAny_pure h)))
theorem kitx_excD (C : ExcC K D) : KitX K (.ref x) (.ref D) (fun h => InstAt h x ox D od) where
  ty := fun _ _ _ I => I.type
  it := fun _ _ X _ => by
    obtain ⟨cdD, hcD, _⟩ := any_some C.hd
    unfold clsIn at hcD
    split at hcD
    · rename_i c' d' cd' sl' ho
      intro A' Q' E' s' k q
      unfold isType loadHead
      exact wpAny_bind (wpAny_loadPart (k _ _ (X _ _ ho)) (wpAny_pure q))
    · cases hcD
  ne := fun h tp dd its n sl X htp => by
    obtain ⟨cdD, hcD, _⟩ := any_some C.hd
    refine Bool.eq_false_iff.mpr fun q => ?_
    have e : D = tp := Value.ref.inj (beq_iff_eq.mp q)
    subst e
    unfold clsIn at hcD
    split at hcD
    · rename_i c' d' cd' sl' ho
      have z := (X _ _ ho).symm.trans htp
      cases z
    · cases hcD
  ca := fun X I k => kin_classD C X I k
end
def errOk (x : Xn) (d : Option Addr) : Prop := (x.fs = [] ∧ d = none) ∨ (x.fs ≠ [] ∧ ∃ a, d = some a)
theorem ErrR.ok {K : PySem.W.Frag} {G : Hp} {x : Xn} {d : Option Addr} (h : ErrR K G x d) : errOk x d := by
  rcases h with h | ⟨a, vs, h1, h2, _⟩
  · exact .inl h
  · exact .inr ⟨h2, a, h1⟩
def errW (a : Addr) (d : Option Addr) (x : Xn) : Wv := match d with
  | none => .f a
  | some dd => .er a dd x.fs
theorem ErrR.w {K : PySem.W.Frag} {G : Hp} {i : List Addr} {x : Xn} {d : Option Addr} {a : Addr} (h : ErrR K G x d) : RpW K G i (.ref a) (errW a d x) := by
  rcases h with ⟨_, rfl⟩ | ⟨b, vs, rfl, _, h3, h4, h5⟩
  · exact rfl
  · exact ⟨rfl, vs, h3, h4, h5⟩
def errAt (a0 : Addr) (d0 : Option Addr) : Option (Option Wv) → Option (List (Str × PyData))
  | some (some (.f a)) => if a = a0 ∧ d0 = none then some [] else none
  | some (some (.er a d fs)) => if a = a0 ∧ d0 = some d then some fs else none
  | _ => none
@[simp] theorem errAt_w (a : Addr) (d : Option Addr) (x : Xn) : errAt a d (some (some (errW a d x))) = some (match d with | none => [] | some _ => x.fs) := by cases d <;> simp [errW, errAt]
@[simp] def dIsE (a0 : Addr) (d0 : Option Addr) (b : Bool) (j : Nat) : Den := fun e M => match errAt a0 d0 e[j]? with
  | some _ => .val (vB b) M
  | none => .bad
@[simp] def dXf (a0 : Addr) (d0 : Option Addr) (f : Str) (j : Nat) : Den := fun e M => match errAt a0 d0 e[j]? with
  | some fs => (match fs.lookup f with
    | some d => .val (.w (.d d)) M
    | none => .bad)
  | none => .bad
def dictAt (K : PySem.W.Frag) (d0 : Option Addr) (fs : List (Str × PyData)) (G : Hp) : Prop := (d0 = none ∧ fs = []) ∨ ∃ (dd : Addr) (vs : List (Str × V)), d0 = some dd ∧ G dd = some (.xd vs) ∧ vs.map (·.1) = fs.map (·.1) ∧ RpAll K G (vs.map (·.2)) (fs.map (·.2))
theorem errAt_use {K : PySem.W.Frag} {G : Hp} {i : List Addr} {e : En} {s : L2.St} {a0 : Addr} {d0 : Option Addr} {j : Nat} {fs : List (Str × PyData)} (he : EnvR K G i e s) (h : errAt a0 d0 e[j]? = some fs) : s[j]? = some (some (.ref a0)) ∧ dictAt K d0 fs G := by
  unfold errAt at h
  split at h
  · rename_i a h1
    split at h
    · rename_i h2
      obtain ⟨rfl, rfl⟩ := h2
      cases h
      obtain ⟨v, h3, h4⟩ := he.2 j _ h1
      cases h4
      exact ⟨h3, .inl ⟨rfl, rfl⟩⟩
    · cases h
  · rename_i a d fs' h1
    split at h
    · rename_i h2
      obtain ⟨rfl, rfl⟩ := h2
      cases h
      obtain ⟨v, h3, rfl, vs, h5, h6, h7⟩ := he.2 j _ h1
      exact ⟨h3, .inr ⟨d, vs, rfl, h5, h6, h7⟩⟩
    · cases h
  · cases h
section
variable {X : Cx} {W : WX} {a D : Addr} {oe : Obj} {d0 : Option Addr}
def rIsD (K : PySem.W.Frag) (D a : Addr) (d0 : Option Addr) : List V → Hp → VK → Prop := fun xs H Q => ∃ (c : V) (cv : Value) (b : Bool), xs = [.ref a, c] ∧ (∀ u, RelV c u → u = cv) ∧ PySem.W.kitOne K (.ref D) cv = some b ∧ (d0 = none ∨ ∃ dd vs, d0 = some dd ∧ H dd = some (.xd vs)) ∧ Q (.bl b) H
theorem inst_at {pins : List (Addr × Obj)} {σ : L2.St} {H : Hp} {s : Shared} (I : Inv X pins σ H s) (hp : (a, oe) ∈ X.pn) (hz : Zc (.ref D) d0 oe) (hf : ∃ vs, oe.data = .fields vs) (hd : d0 = none ∨ ∃ dd vs, d0 = some dd ∧ H dd = some (.xd vs)) :
    ∃ od, PySem.W.InstAt s.heap a oe D od := by
  have hget := (I.pin (a, oe) (List.mem_append_left _ hp)).1
  obtain ⟨vs, hv⟩ := hf
  rcases hd with rfl | ⟨dd, ws, rfl, hd⟩
  · refine ⟨none, ?_⟩
    obtain ⟨oc, od, oda, osl⟩ := oe
    obtain ⟨z1, z2⟩ := hz
    dsimp only at z1 z2 hv
    subst z1 z2 hv
    exact ⟨hget, rfl, rfl, trivial⟩
  · obtain ⟨mA, hns, _⟩ := (show ObjOk X.prog X.w H s.heap dd (.xd ws) from I.hok dd _ hd)
    obtain ⟨od, ho, _⟩ := lookIn_ns hns
    exact ⟨some od, hget, hz.1, by unfold PySem.W.notCls; rw [hv] <;> rfl, by rw [hz.2]; exact ho⟩
theorem call_isEp (hp : (a, oe) ∈ X.pn) (C : ExcC X.K D) (hz : Zc (.ref D) d0 oe) (hf : ∃ vs, oe.data = .fields vs) : CallR X (.builtin "isinstance") (rIsD X.K D a d0) := by
  intro pins s σ H xs us Q I r h
  obtain ⟨c, cv, b, rfl, hcv, e, hdd, q⟩ := h
  cases r with
  | cons rx rr =>
    cases rr with
    | cons rt rr =>
      cases rr
      cases rx
      have ec := hcv _ rt
      subst ec
      obtain ⟨od, J⟩ := inst_at I hp hz hf hdd
      refine PySem.W.kia_one (kitx_excD C) I.kIn J e (fun z => nomatch z) fun tk => ?_
      exact ⟨.bl b, H, I.kept (t' := tk) fun _ _ z => z, rfl, q⟩
theorem isE_use {j : Nat} {b : Bool} {s : L2.St} {H : Hp} {Q : VK} (q : tD X.K W (dIsE a d0 b j) s H Q) : s[j]? = some (some (.ref a)) ∧ (d0 = none ∨ ∃ dd vs, d0 = some dd ∧ H dd = some (.xd vs)) ∧ Q (.bl b) H := by
  obtain ⟨G, i, e, M, he, hm, q⟩ := q
  unfold dIsE at q
  split at q
  · rename_i fs h1
    obtain ⟨h2, h3⟩ := errAt_use he h1
    refine ⟨h2, ?_, q _ G H (Sub.refl _) hm (.bl b)⟩
    rcases h3 with ⟨h, _⟩ | ⟨dd, vs, h4, h5, _⟩
    · exact .inl h
    · exact .inr ⟨dd, vs, h4, hm.sub _ _ h5⟩
  · exact q.elim
theorem d_isE {n c : Str} {p p1 p2 pos : Pos} {b : Bool} {C : Addr} (j : Nat) (hp : (a, oe) ∈ X.pn) (EC : ExcC X.K D) (hz : Zc (.ref D) d0 oe) (hf : ∃ vs, oe.data = .fields vs) (hm : X.mg "isinstance" = none) (hmc : X.mg c = some (.ref C)) (hk : PySem.W.kitOne X.K (.ref D) (.ref C) = some b)
    (hg : Gl X "isinstance" := by rfl) (hgc : Gl X c := by rfl) (hN : X.N[j]? = some n := by rfl) (hv : Vis X.env.scope n := by first | exact Or.inl rfl | exact Or.inr (Or.inl rfl) | exact Or.inr (Or.inr rfl)) (hd : (n == ("__debug__" : Str)) = false := by decide) (hcd : (n == ("__classdict__" : Str)) = false := by decide) (hdc : (c == ("__debug__" : Str)) = false := by decide)
    (h1 : starEach [.Name n p1, .Name c p2] X.env = (false, eval (.Name n p1) X.env) :: starEach [.Name c p2] X.env := by rfl) (h2 : starEach [.Name c p2] X.env = (false, eval (.Name c p2) X.env) :: starEach [] X.env := by rfl) (hpl : (backTo pos (starEach [.Name c p2] X.env)).any (·.1) = false := by rfl) :
    PE X (.Call (.Name "isinstance" p) [.Name n p1, .Name c p2] [] pos) (tD X.K W (dIsE a d0 b j)) :=
  PE.weak (pe_callB (call_isEp hp EC hz hf) hg hm boot_isinstance (pa_cons (pe_var hN hv hd hcd) (pa_cons (pe_glob (v := .ref C) hgc hmc rfl hdc) pa_nil h2) h1) (by decide) (by decide) h1 hpl) fun s H Q q => by
    obtain ⟨h3, h5, h4⟩ := isE_use q
    exact ⟨_, h3, .ref C, .ref C, b, rfl, (fun u hu => hu), hk, h5, h4⟩
theorem d_isEB {n : Str} {T : String} {c : Str} {p p1 p2 pos : Pos} {b : Bool} (j : Nat) (hp : (a, oe) ∈ X.pn) (EC : ExcC X.K D) (hz : Zc (.ref D) d0 oe) (hf : ∃ vs, oe.data = .fields vs) (hm : X.mg "isinstance" = none) (hmc : X.mg c = none) (hvc : bootBuiltins c = some (.type T)) (hk : PySem.W.kitOne X.K (.ref D) (.type T) = some b)
    (hg : Gl X "isinstance" := by rfl) (hgc : Gl X c := by rfl) (hN : X.N[j]? = some n := by rfl) (hv : Vis X.env.scope n := by first | exact Or.inl rfl | exact Or.inr (Or.inl rfl) | exact Or.inr (Or.inr rfl)) (hd : (n == ("__debug__" : Str)) = false := by decide) (hcd : (n == ("__classdict__" : Str)) = false := by decide) (hnc : c ≠ "__name__" := by decide) (hdc : (c == ("__debug__" : Str)) = false := by decide)
    (h1 : starEach [.Name n p1, .Name c p2] X.env = (false, eval (.Name n p1) X.env) :: starEach [.Name c p2] X.env := by rfl) (h2 : starEach [.Name c p2] X.env = (false, eval (.Name c p2) X.env) :: starEach [] X.env := by rfl) (hpl : (backTo pos (starEach [.Name c p2] X.env)).any (·.1) = false := by rfl) :
    PE X (.Call (.Name "isinstance" p) [.Name n p1, .Name c p2] [] pos) (tD X.K W (dIsE a d0 b j)) :=
  PE.weak (pe_callB (call_isEp hp EC hz hf) hg hm boot_isinstance (pa_cons (pe_var hN hv hd hcd) (pa_cons (pe_bltn (v := .ty T) hgc hmc hvc rfl hnc hdc) pa_nil h2) h1) (by decide) (by decide) h1 hpl) fun s H Q q => by
    obtain ⟨h3, h5, h4⟩ := isE_use q
    exact ⟨_, h3, .ty T, .type T, b, rfl, (fun u hu => hu), hk, h5, h4⟩
end
section
variable {X : Cx} {W : WX} {a D : Addr} {oe : Obj} {d0 : Option Addr}
theorem lookup_rp {K : PySem.W.Frag} {G : Hp} {f : Str} : ∀ {vs : List (Str × V)} {fs : List (Str × PyData)} {d : PyData}, vs.map (·.1) = fs.map (·.1) → RpAll K G (vs.map (·.2)) (fs.map (·.2)) → fs.lookup f = some d → ∃ v, vs.lookup f = some v ∧ Rp K G v d
  | [], [], _, _, _, h => by cases h
  | [], _ :: _, _, h, _, _ => by cases h
  | _ :: _, [], _, h, _, _ => by cases h
  | (g, v) :: vs, (g', d') :: fs, d, h1, h2, h => by
    simp only [List.map_cons, List.cons.injEq] at h1
    obtain ⟨rfl, h1⟩ := h1
    cases h2 with
    | cons h2 h3 =>
      rw [List.lookup_cons] at h ⊢
      cases hg : f == g with
      | true => rw [hg] at h; cases h; exact ⟨v, rfl, h2⟩
      | false => rw [hg] at h; exact lookup_rp h1 h3 h
theorem d_xf {n f : Str} {p1 pos : Pos} (j : Nat) (hp : (a, oe) ∈ X.pn) (T : XfC X.K D) (hno : PySem.W.findIn X.K (.ref D) f = some none) (hz : Zc (.ref D) d0 oe) (hf : ∃ vs, oe.data = .fields vs)
    (hN : X.N[j]? = some n := by rfl) (hv : Vis X.env.scope n := by first | exact Or.inl rfl | exact Or.inr (Or.inl rfl) | exact Or.inr (Or.inr rfl)) (hd : (n == ("__debug__" : Str)) = false := by decide) (hcd : (n == ("__classdict__" : Str)) = false := by decide)
    (hb : attributeBase (.Name n p1) f X.env (eval (.Name n p1) X.env) = eval (.Name n p1) X.env := by rfl) :
    PE X (.Attribute (.Name n p1) f pos) (tD X.K W (dXf a d0 f j)) := by
  refine ⟨fun pins s σ H Q I h => ?_⟩
  obtain ⟨G, i, e, M, he, hm, q⟩ := h
  unfold dXf at q
  cases h1 : errAt a d0 e[j]? with
  | none => rw [h1] at q; exact q.elim
  | some fs =>
    rw [h1] at q
    simp only [] at q
    cases h2 : fs.lookup f with
    | none => rw [h2] at q; exact q.elim
    | some d =>
      rw [h2] at q
      obtain ⟨h3, h4⟩ := errAt_use he h1
      rcases h4 with ⟨_, rfl⟩ | ⟨dd, vs, rfl, h5, h6, h7⟩
      · cases h2
      · obtain ⟨v, h8, h9⟩ := lookup_rp h6 h7 h2
        refine attr_of hb (thn ((pe_var hN hv hd hcd).run pins s σ H (fun x H1 => x = .ref a ∧ H1 = H) I ⟨_, h3, rfl, rfl⟩) fun u s1 hh => ?_)
        obtain ⟨x, H1, I1, rx, ex, eH⟩ := hh
        subst ex eH
        obtain rfl : u = Value.ref a := rx
        have ha := (I1.pin (a, oe) (List.mem_append_left _ hp)).1
        obtain ⟨ws, hdt⟩ := hf
        obtain ⟨mA, hns, hr⟩ := (show ObjOk X.prog X.w H1 s1.heap dd (.xd vs) from I1.hok dd _ (hm.sub _ _ h5))
        obtain ⟨od, ho, hl⟩ := lookIn_ns hns
        obtain ⟨u, hu, ru⟩ := RelO.some_of (v := v) (o := mA f) (by rw [← h8]; exact hr f)
        have J : PySem.W.InstAt s1.heap a oe D (some od) := ⟨ha, hz.1, by unfold PySem.W.notCls; rw [hdt] <;> rfl, by rw [hz.2]; exact ho⟩
        exact HandSPX.exc_get I1.kIn J T.ga T.gg T.exC (PySem.W.findObj_own T.hdC hno rfl (by rw [hl, hu])) (handed_of ru) ⟨v, H1, I1.tok _, ru, q v G H1 (Sub.refl _) hm h9⟩
end
structure FnE (P : Program) (w : World) (K : PySem.W.Frag) (mg : Str → Option Value) (base : Heap) (k : Nat) (f : Addr) (fd : FuncData) (ps : List Str) (cs : List Str) (F : Addr → Option Addr → Xn → DenF) : Prop where
  run : ∀ (A : Around) (outer : List Env) (s : Shared) (H : Hp) (p : Addr × Obj) (d : Option Addr) (x : Xn) (G : Hp) (i : List Addr) (M : Mem) (Q : VK), L2H.RoomH k A → L2H.PinOk outer H s p → Env0 P w K mg base A outer s H → BindsTo s fd ⟨[.ref p.1], []⟩ (ps.zip [.ref p.1]) →
    Zc (.ref (He.ga K x.cls)) d p.2 → (∃ vs, p.2.data = .fields vs) → x.cls ∈ cs → ErrR K G x d → MemR K G H i M → Ask K W0 (ResR K) G i [] Q (F p.1 d x [errW p.1 d x] M) →
    codeAny (model P w) A (.call (.ref f) ⟨[.ref p.1], []⟩) (CR CX0 outer P w H s Q E0) s
theorem fnE_of {P : Program} {w : World} {K : PySem.W.Frag} {mg : Str → Option Value} {base : Heap} {k : Nat} {f : Addr} {x0 qual : Str} {params : Arguments} {body : List Stmt} {scope : Scope} {fd : FuncData} {N : List Str} {n0 : Str} {cs : List Str} {B : Addr → Option Addr → Xn → DenS}
    (Fd : FunD K x0 qual params body scope [] [] f fd) (S : FnScope N [n0] scope)
    (hbody : ∀ (cdv : Value) (A : Around) (outer : List Env) (s : Shared) (H : Hp) (p : Addr × Obj) (d : Option Addr) (x : Xn), L2H.RoomH k (A.deeper (envOfC qual scope s.heap.objs.size f cdv)) → Zc (.ref (He.ga K x.cls)) d p.2 → (∃ vs, p.2.data = .fields vs) → x.cls ∈ cs → errOk x d →
      PSs (L2H.cxH CX0 P w K mg base N qual scope f cdv A outer s H E0 p) body (tDS K W0 (B p.1 d x))) :
    FnE P w K mg base (k + 1) f fd [n0] cs (fun a d x => fnD N.length 1 (B a d x)) := by
  obtain ⟨oc, od, dV, kV, doc, pm, an, cdv, ct, osl, rfl, lk, hcd, _, _⟩ := Fd.ex
  refine ⟨fun A outer s H p d x G i M Q hr hpin e0 hb hz hf hx hx2 hm hq => ?_⟩
  have KX : K.In s.heap := e0.mod.kin.keeps fun b o e => (e0.bs b o e).1
  have lim : s.heap.NoLimit := e0.mod.nolimit.keeps fun b o e => (e0.bs b o e).1
  have hkind : ∀ y ∈ [n0].zip [Value.ref p.1], scope.names.lookup y.1 = some .local ∨ (scope.names.lookup y.1 = some .cell ∧ ((cellsFrom (s.heap.objs.size + 1) scope.names []).lookup y.1).isSome = true) := fun ⟨n, v⟩ hy => by
    rcases S.par n (List.of_mem_zip hy).1 with z | z
    · exact .inl z
    · exact .inr ⟨z, PySem.W.cellsFrom_some _ _ _ (.inl z)⟩
  refine codeAny_call_function hr.depth (KX _ _ lk) rfl S.co S.gen rfl (PySem.W.codeRec_of KX hcd) (hb _ _ _ _ ?_)
  refine wpAny_newFunctionEnv_cells S.kind hkind fun env he s1 xx => ?_
  subst he
  refine ⟨lim.keeps xx.toInCall.keep, codeAny_func ?_⟩
  have ht := hbody cdv A outer s H p d x (hr.deeper _) hz hf hx hx2.ok
  have I : Inv (L2H.cxH CX0 P w K mg base N qual scope f cdv A outer s H E0 p) [] (L2.start N [.ref p.1]) H s1 := L2H.inv_startH (vs := [.ref p.1]) S hpin e0 rfl (.cons rfl .nil) xx
  have hrd : tDS K W0 (B p.1 d x) { nx := fun _ H' => Q .non H', rt := Q } (L2.start N [.ref p.1]) H := by
    unfold fnD at hq
    rw [if_pos (show [errW p.1 d x].length = 1 from rfl)] at hq
    have rws : RpWs K G i [V.ref p.1] [errW p.1 d x] := .cons hx2.w .nil
    refine ⟨G, i, [errW p.1 d x].map some ++ List.replicate (N.length - 1) none, M, ?_, hm, ?_⟩
    · exact rws.env _
    · unfold endR at hq
      cases hb2 : B p.1 d x ([errW p.1 d x].map some ++ List.replicate (N.length - 1) none) M with
      | next e M' =>
        rw [hb2] at hq
        intro s' G' i' H' h1 h2 h3 h4
        have mc := h4.cut (n := M.length)
        rw [take_pre h2 _ hm.len] at mc
        exact hq _ G' H' h1 mc .non
      | ret r' M' =>
        rw [hb2] at hq
        intro v G' i' H' h1 h2 h3 h4
        exact ResR.cut h2 hm.len h1 h3 h4 hq
      | exc x' e M' =>
        rw [hb2] at hq
        intro cls d' s' G' i' H' h1 h2 h3 h4 h5
        have mc := h4.cut (n := M.length)
        rw [take_pre h2 _ hm.len] at mc
        exact hq cls d' G' H' h1 mc h5
      | brk e M' => rw [hb2] at hq; exact hq.elim
      | cont e M' => rw [hb2] at hq; exact hq.elim
      | bad => rw [hb2] at hq; exact hq.elim
  refine wpAny_mono (ht.run [] s1 (L2.start N [.ref p.1]) H _ I hrd) (fun fl s' hs => ?_) fun e s' hs => hs
  have fin : ∀ {σ' : L2.St} {H' : Hp} {v : V} {u : Value}, Inv (L2H.cxH CX0 P w K mg base N qual scope f cdv A outer s H E0 p) [] σ' H' s' → RelV v u → Q v H' → CE outer P w H s Q u s' :=
    fun {σ' H' v u} J rv qq => ⟨v, H', J.os, J.bare, J.base, J.hok, rv, qq⟩
  cases fl with
  | ret u => obtain ⟨v, σ', H', J, rv, qq⟩ := hs; exact fin J rv qq
  | next => obtain ⟨σ', H', J, qq⟩ := hs; exact fin (v := V.non) (u := Value.none) J rfl qq
  | brk => obtain ⟨_, _, _, qq⟩ := hs; exact qq.elim
  | cont => obtain ⟨_, _, _, qq⟩ := hs; exact qq.elim
structure ClE (P : Program) (w : World) (K : PySem.W.Frag) (mg : Str → Option Value) (base : Heap) (k : Nat) (x : Str) (cs : List Str) (F : Addr → Option Addr → Xn → DenF) : Prop where
  ex : ∃ (f : Addr) (fd : FuncData) (ps : List Str), mg x = some (.ref f) ∧ PySem.W.keepIn K (.ref f) = true ∧ Binds K fd ps [] ∧ ps.length = 1 ∧ FnE P w K mg base k f fd ps cs F
def tKind (K : PySem.W.Frag) (cs : List Str) (F : Addr → Option Addr → Xn → DenF) (j : Nat) (a : Addr) (cls : Value) (d : Option Addr) : TE := fun σ H Q => σ[j]? = some (some (.ref a)) ∧ ∃ (x : Xn) (G : Hp) (i : List Addr) (M : Mem), cls = .ref (He.ga K x.cls) ∧ x.cls ∈ cs ∧ ErrR K G x d ∧ MemR K G H i M ∧ Ask K W0 (ResR K) G i [] Q (F a d x [errW a d x] M)
section
variable {X : Cx} {W : WX} {cs : List Str} {F : Addr → Option Addr → Xn → DenF}
theorem pe_kind {x n : Str} {p p1 pos : Pos} {j k k2 : Nat} {a : Addr} {oe : Obj} {cls : Value} {d : Option Addr} (c : ClE X.prog X.w X.K X.mg X.base k x cs F) (hr : L2H.RoomH k X.A) (hp : (a, oe) ∈ X.pn) (hz : Zc cls d oe) (hf : ∃ vs, oe.data = .fields vs)
    (hg : Gl X x) (hN : X.N[j]? = some n) (hv : Vis X.env.scope n) (hd : (n == ("__debug__" : Str)) = false) (hcd : (n == ("__classdict__" : Str)) = false) (hdb : (x == ("__debug__" : Str)) = false)
    (he : starEach [.Name n p1] X.env = (false, eval (.Name n p1) X.env) :: starEach [] X.env) (hpl : (backTo pos (starEach [] X.env)).any (·.1) = false) :
    PE X (.Call (.Name x p) [.Name n p1] [] pos) (tKind X.K cs F j a cls d) := by
  obtain ⟨f, fd, ps, hm, hk, hb, hps, FE⟩ := c.ex
  refine ⟨fun pins s σ H Q I h => ?_⟩
  obtain ⟨hσ, xn, G, i, M, h1, h3, h4, hM, hq⟩ := h
  subst h1
  refine wpAny_Call_Name_kw (ld_glob I hg hm ?_ hdb)
  have ha : PA X [.Name n p1] (tCons (tVar j) tNil) := pa_cons (pe_var hN hv hd hcd) pa_nil he
  refine PySem.W.callWith_K (h₀ := X.base) I.ok.mod.kin hk (thn (ha.run pos pins s σ H (fun vs H1 => vs = [V.ref a] ∧ H = H1) I ⟨_, hσ, rfl, rfl⟩) fun us s1 hh => ?_) he hpl
  obtain ⟨vs, H1, I1, r1, ev, eH⟩ := hh
  subst ev
  rw [← eH] at I1
  refine ⟨I1.kIn, ?_⟩
  rw [Vals.ref1 r1]
  have P1 := I1.pin (a, oe) (List.mem_append_left _ hp)
  have hpin : L2H.PinOk X.stack H s1 (a, oe) := ⟨P1.1, P1.2.1, fun hm => (List.mem_cons.mp (I1.stkSub a hm)).elim P1.2.2.1 P1.2.2.2.1, P1.2.2.2.2⟩
  have b := hb s1 [.ref a] I1.kIn (by rw [List.append_nil, hps]; rfl)
  rw [List.append_nil] at b
  refine wpAny_call (codeAny_mono (FE.run X.A X.stack s1 H (a, oe) d xn G i M Q hr hpin I1.env0 b hz hf h3 h4 hM hq) fun r s' hq => ?_)
  cases r with
  | error e => exact hq.elim
  | ok fl =>
    cases fl with
    | ret u => exact I1.after hq
    | next => exact False.elim hq
    | brk => exact False.elim hq
    | cont => exact False.elim hq
@[simp] def sTryK (j : Nat) (kindR : Xn → Option Rv) (fb : DenS) : DenS := fun e M => match fb e M with
  | .exc x e1 M1 => (match kindR x with
    | some r => if j < e1.length then .ret r M1 else .bad
    | none => .bad)
  | r => r
theorem s_tryK {C : Addr} {c n kd : Str} {body : List Stmt} {np kp p1 cp rp pos pos' : Pos} {j k k2 : Nat} {fb : DenS} {kindR : Xn → Option Rv} (hs : X.stack = X.env :: X.outer) (hfr : X.env.frame = some X.env.locals) (hNd : X.N.Nodup) (tk : Takes X W) (hr : Room k2 X.A) (hk2 : k ≤ k2)
    (ce : ClE X.prog X.w X.K X.mg X.base k kd cs F) (hC : X.mg c = some (.ref C)) (hex : ∀ x ∈ cs, PySem.W.exmOne X.K (.ref (He.ga X.K x)) (.ref C) = some true)
    (hkd : ∀ x r, kindR x = some r → x.cls ∈ cs ∧ ∀ a d M, errOk x d → F a d x [errW a d x] M = .val r M)
    (hb : ∀ (W' : WX) (pn : List (Addr × Obj)) (xe : Value → Shared → Prop), Takes (X.tr pn xe) W' → PassesOwn (model X.prog X.w) X.A X.env xe → PSs (X.tr pn xe) body (tDS X.K W' fb))
    (hN : X.N[j]? = some n := by rfl) (hln : X.env.kindOf n = some .local := by rfl) (hgc : Gl X c := by rfl) (hdc : (c == ("__debug__" : Str)) = false := by decide) (hg : Gl X kd := by rfl) (hdk : (kd == ("__debug__" : Str)) = false := by decide)
    (hd : (n == ("__debug__" : Str)) = false := by decide) (hcd : (n == ("__classdict__" : Str)) = false := by decide)
    (he : starEach [.Name n p1] X.env = (false, eval (.Name n p1) X.env) :: starEach [] X.env := by rfl) (hpl : (backTo cp (starEach [] X.env)).any (·.1) = false := by rfl) :
    PS X (.Try body [.ExceptHandler (some (.Name c np)) (some n) [.Return (some (.Call (.Name kd kp) [.Name n p1] [] cp)) rp] pos'] [] [] pos) (tDS X.K W (sTryK j kindR fb)) := by
  have hrH : ∀ a, L2H.RoomH k (X.A.mark (some (.ref a))) := fun a => ⟨by have := (hr.mono hk2).dp; exact this, by have := (hr.mono hk2).un; exact this⟩
  refine PS.weak (ps_try_as (tb := fun W' => tDS X.K W' fb) (ts := fun a cls d => tRet (tKind X.K cs F j a cls d)) hs hfr hNd hN hln ⟨hgc, hdc, .inl hC⟩ tk (fun W' pn xe t1 po => hb W' pn xe t1 po)
    (fun a oe cls d pn hz hf => pss_one (ps_ret (pe_kind (k2 := k) ce (hrH a) List.mem_cons_self hz hf hg hN (.inl hln) hd hcd hdk he hpl)))) fun D s H q => ?_
  obtain ⟨G, i, e, M, hE, hM, q⟩ := q
  refine ⟨G, i, e, M, hE, hM, ?_⟩
  unfold sTryK at q
  cases hfb : fb e M with
  | next e' M' => rw [hfb] at q; exact q
  | ret r M' => rw [hfb] at q; exact q
  | brk e' M' => rw [hfb] at q; exact q
  | cont e' M' => rw [hfb] at q; exact q
  | bad => rw [hfb] at q; exact q.elim
  | exc x e' M' =>
    rw [hfb] at q
    simp only [] at q
    cases hkr : kindR x with
    | none => rw [hkr] at q; exact q.elim
    | some r =>
      rw [hkr] at q
      simp only [] at q
      by_cases hj : j < e'.length
      rotate_left
      · rw [if_neg hj] at q; exact q.elim
      rw [if_pos hj] at q
      obtain ⟨k1, k4⟩ := hkd x r hkr
      intro cls d s' G' i' H' g1 g2 g3 g4 g5
      obtain ⟨hcls, hdd⟩ := g5
      subst hcls
      refine ⟨true, hex _ k1, fun _ a ha => ?_, fun z => by cases z⟩
      have hjl : j < s'.length := by rw [← g3.1]; exact hj
      refine ⟨by rw [List.getElem?_set_self hjl], x, G', i', M', rfl, k1, hdd, g4, ?_⟩
      rw [k4 a d M' hdd.ok]
      intro v G2 H2 z1 z2 z3
      exact q v G2 i' H2 (g1.trans z1) g2 z2 z3
end
end Lf
set_option Elab.async false
set_option linter.all false
set_option maxRecDepth 100000
set_option maxHeartbeats 4000000
namespace Lf
open PySem PySem.Spec PyProof.Rows L2
def excB (K : PySem.W.Frag) (c : Str) : Bool :=
  He.eqO (PySem.W.findIn K (.ref (He.ga K c)) "__getattribute__") (some (some (.builtin "BaseException.__getattribute__"))) && (He.eqO (PySem.W.findIn K (.ref (He.ga K c)) "__getattr__") (some none) &&
  (decide (PySem.W.subIn K (.ref (He.ga K c)) (.type "BaseException") = some true) && (PySem.W.hasDictIn K (He.ga K c) && (He.eqO (PySem.W.findIn K (.ref (He.ga K c)) "__class__") (some (some (.builtin "object.__class__"))) &&
  (He.eqO (PySem.W.specialIn K (.builtin "object.__class__") "__get__") (some (some (.builtin "getset_descriptor.__get__"))) && (decide (PySem.W.takesIn K (.builtin "object.__class__") = some true) && decide (PySem.W.mroIn K (He.ga K c) (.type "object") = some true)))))))
theorem excB_ok {K : PySem.W.Frag} {c : Str} (h : excB K c = true) : ExcC K (He.ga K c) := by
  obtain ⟨h1, h⟩ := He.ba h
  obtain ⟨h2, h⟩ := He.ba h
  obtain ⟨h3, h⟩ := He.ba h
  obtain ⟨h4, h⟩ := He.ba h
  obtain ⟨h5, h⟩ := He.ba h
  obtain ⟨h6, h⟩ := He.ba h
  obtain ⟨h7, h8⟩ := He.ba h
  exact ⟨He.eqO_ok h1, He.eqO_ok h2, of_decide_eq_true h3, h4, He.eqO_ok h5, He.eqO_ok h6, of_decide_eq_true h7, of_decide_eq_true h8⟩
def kindB (cs more : List Str) (top : Str) (K : PySem.W.Frag) : Bool := cs.all fun c => excB K c && ((cs ++ more).all (fun c' => decide (PySem.W.kitOne K (.ref (He.ga K c)) (.ref (He.ga K c')) = some (decide (c = c')))) &&
  (decide (PySem.W.kitOne K (.ref (He.ga K c)) (.type "ValueError") = some true) && decide (PySem.W.exmOne K (.ref (He.ga K c)) (.ref (He.ga K top)) = some true)))
structure KiF (cs more : List Str) (top : Str) (K : PySem.W.Frag) : Prop where
  ec : ∀ c ∈ cs, ExcC K (He.ga K c)
  kit : ∀ c ∈ cs, ∀ c' ∈ cs ++ more, PySem.W.kitOne K (.ref (He.ga K c)) (.ref (He.ga K c')) = some (decide (c = c'))
  kv : ∀ c ∈ cs, PySem.W.kitOne K (.ref (He.ga K c)) (.type "ValueError") = some true
  exm : ∀ c ∈ cs, PySem.W.exmOne K (.ref (He.ga K c)) (.ref (He.ga K top)) = some true
theorem kindB_ok {cs more : List Str} {top : Str} {K : PySem.W.Frag} (h : kindB cs more top K = true) : KiF cs more top K := by
  have key := fun c hc => He.ba (List.all_eq_true.mp h c hc)
  exact ⟨fun c hc => excB_ok (key c hc).1, fun c hc c' hc' => of_decide_eq_true (List.all_eq_true.mp (He.ba (key c hc).2).1 c' hc'), fun c hc => of_decide_eq_true (He.ba (He.ba (key c hc).2).2).1, fun c hc => of_decide_eq_true (He.ba (He.ba (key c hc).2).2).2⟩
section
variable {P : Program} {w : World} {K : PySem.W.Frag} {mg : Str → Option Value} {base : Heap} {x qual : Str} {params : Arguments} {body : List Stmt} {scope : Scope} {f : Addr} {fd : FuncData}
theorem ClX.mk' {N ps : List Str} {k : Nat} {fs : DenS} (F : FunD K x qual params body scope [] [] f fd) (S : FnScope N ps scope) (hm : mg x = some (.ref f))
    (hbd : ∀ (kV doc pm : Value) (an : Option Addr) (cdv ct : Value) (us : List Value), us.length = ps.length → bindArgs (PySem.W.fnOf x qual params body scope .none kV doc pm an cdv ct) ⟨us, []⟩ = pure (ps.zip us))
    (hb : ∀ (cdv : Value) (_ : CodeV K x cdv) (A : Around) (outer : List Env) (s : Shared) (H : Hp) (E : XK), Room k (A.deeper (envOfC qual scope s.heap.objs.size f cdv)) → (A.deeper (envOfC qual scope s.heap.objs.size f cdv)).guards = some [] → Takes (cxOf (L2.CX P w) P w K mg base N qual scope f cdv A outer s H E) (fun cls d _ H => E cls d H) →
      PassesOwn (model P w) (cxOf (L2.CX P w) P w K mg base N qual scope f cdv A outer s H E).A (cxOf (L2.CX P w) P w K mg base N qual scope f cdv A outer s H E).env (cxOf (L2.CX P w) P w K mg base N qual scope f cdv A outer s H E).xe →
      PSs (cxOf (L2.CX P w) P w K mg base N qual scope f cdv A outer s H E) body (tDS K (fun cls d _ H => E cls d H) fs)) :
    ClX P w K mg base (k + 1) x (fnD N.length ps.length fs) :=
  ⟨f, fd, ps, hm, F.kp, F.bindsN hbd, fn_okX F hm S fun cdv hcv A outer s H E hr hgd => hb cdv hcv A outer s H E hr hgd (takes_of rfl rfl rfl rfl) (passes_of rfl)⟩
theorem clX_bad {k : Nat} {ps : List Str} (F : FunD K x qual params body scope [] [] f fd) (hm : mg x = some (.ref f))
    (hbd : ∀ (kV doc pm : Value) (an : Option Addr) (cdv ct : Value) (us : List Value), us.length = ps.length → bindArgs (PySem.W.fnOf x qual params body scope .none kV doc pm an cdv ct) ⟨us, []⟩ = pure (ps.zip us)) : ClX P w K mg base k x (fun _ _ => .bad) :=
  ⟨f, fd, ps, hm, F.kp, F.bindsN hbd, fun vs H Q E h => by obtain ⟨_, _, _, _, _, _, q⟩ := h; exact q.elim, fun A outer s H args us vs Q E _ _ _ _ _ h => by obtain ⟨_, _, _, _, _, _, q⟩ := h; exact q.elim⟩
theorem fn_okL {N ps : List Str} {k : Nat} {fs : DenS} (F : FunD K x qual params body scope [] [] f fd) (hm : mg x = some (.ref f)) (S : FnScope N ps scope)
    (hb : ∀ (cdv : Value) (_ : CodeV K x cdv) (A : Around) (outer : List Env) (s : Shared) (H : Hp) (E : XK), Room k (A.deeper (envOfC qual scope s.heap.objs.size f cdv)) → (A.deeper (envOfC qual scope s.heap.objs.size f cdv)).guards = some [] → Takes (cxOf CX0 P w K mg base N qual scope f cdv A outer s H E).nox W0 →
      PassesOwn (model P w) (cxOf CX0 P w K mg base N qual scope f cdv A outer s H E).nox.A (cxOf CX0 P w K mg base N qual scope f cdv A outer s H E).nox.env (cxOf CX0 P w K mg base N qual scope f cdv A outer s H E).nox.xe →
      PSs (cxOf CX0 P w K mg base N qual scope f cdv A outer s H E).nox body (tDS K W0 fs)) :
    FnG P w K mg base CX0 (k + 1) f fd ps (spD K (fnD N.length ps.length fs)) := by
  refine fnG_of F hm S (fun vs H Q E h => ?_) (fun cdv hcv A outer s H vs Q E hr hgd h => ⟨_, PSs.nox (hb cdv hcv A outer s H E hr hgd takes0 PassesOwn.never), ?_⟩)
  · obtain ⟨G, i, ws, M, r, m, q⟩ := h
    unfold fnD at q
    split at q
    · rename_i hl
      rw [r.length]
      exact hl
    · exact q.elim
  · obtain ⟨G, i, ws, M, r, m, q⟩ := h
    unfold fnD at q
    split at q
    · rename_i hl
      refine ⟨G, i, ws.map some ++ List.replicate (N.length - ps.length) none, M, ?_, m, ?_⟩
      · unfold L2.start
        rw [show N.length - vs.length = N.length - ps.length by rw [r.length, hl]]
        exact r.env _
      · unfold endR at q
        cases hb2 : fs (ws.map some ++ List.replicate (N.length - ps.length) none) M with
        | next e M' =>
          rw [hb2] at q
          intro s' G' i' H' h1 h2 h3 h4
          have mc := h4.cut (n := M.length)
          rw [take_pre h2 _ m.len] at mc
          exact q _ G' H' h1 mc .non
        | ret r' M' =>
          rw [hb2] at q
          intro v G' i' H' h1 h2 h3 h4
          exact ResR.cut h2 m.len h1 h3 h4 q
        | exc x' e M' =>
          rw [hb2] at q
          intro cls d s' G' i' H' h1 h2 h3 h4 h5
          have mc := h4.cut (n := M.length)
          rw [take_pre h2 _ m.len] at mc
          exact q cls d G' H' h1 mc h5
        | brk e M' => rw [hb2] at q; exact q.elim
        | cont e M' => rw [hb2] at q; exact q.elim
        | bad => rw [hb2] at q; exact q.elim
    · exact q.elim
theorem ClE.mk' {N : List Str} {n0 : Str} {k : Nat} {cs : List Str} {B : Addr → Option Addr → Xn → DenS} (F : FunD K x qual params body scope [] [] f fd) (S : FnScope N [n0] scope) (hm : mg x = some (.ref f))
    (hbd : ∀ (kV doc pm : Value) (an : Option Addr) (cdv ct : Value) (us : List Value), us.length = [n0].length → bindArgs (PySem.W.fnOf x qual params body scope .none kV doc pm an cdv ct) ⟨us, []⟩ = pure ([n0].zip us))
    (hb : ∀ (cdv : Value) (A : Around) (outer : List Env) (s : Shared) (H : Hp) (p : Addr × Obj) (d : Option Addr) (x : Xn), L2H.RoomH k (A.deeper (envOfC qual scope s.heap.objs.size f cdv)) → (p.1, p.2) ∈ (L2H.cxH CX0 P w K mg base N qual scope f cdv A outer s H E0 p).pn → Zc (.ref (He.ga K x.cls)) d p.2 → (∃ vs, p.2.data = .fields vs) → x.cls ∈ cs → errOk x d →
      PSs (L2H.cxH CX0 P w K mg base N qual scope f cdv A outer s H E0 p) body (tDS K W0 (B p.1 d x))) :
    ClE P w K mg base (k + 1) x cs (fun a d x => fnD N.length 1 (B a d x)) :=
  ⟨f, fd, [n0], hm, F.kp, F.bindsN hbd, rfl, fnE_of F S fun cdv A outer s H p d x hr hz hf h1 h2 => hb cdv A outer s H p d x hr (List.mem_cons_self) hz hf h1 h2⟩
end
def wordOf (t : List (Str × Str)) (x : Xn) : Option Str := if x.fs.isEmpty = true then t.lookup x.cls else none
def kindW (t : List (Str × Str)) (x : Xn) : Option Rv := (wordOf t x).map fun z => .w (.d (.str z))
def greatOf (x : Xn) : Option (PyData × PyData) := match x.fs with
  | [(f, b), (g, a)] => if x.cls = "TooGreat" ∧ f = "most" ∧ g = "many" then some (a, b) else none
  | _ => none
def kindL (t : List (Str × Str)) (x : Xn) : Option Rv := match greatOf x with
  | some (a, b) => some (.own (.list [.str "great", a, b]))
  | none => kindW t x
section
variable {X : Cx} {W : WX} {f g : Den} {a b : Expr} {pos : Pos}
theorem t_neU (hu : X.A.units + 64 < cLine) (ha : PE X a (tD X.K W f)) (hb : PE X b (tD X.K W g)) : PT X (.Compare a [.NotEq] [b] pos) (tDT X.K W (tst (dBin neF f g))) := t_cmpR (op_neD hu) od_ne ha hb (nobehind _ (by decide) (by decide))
end
section
variable {P : Program} {w : World} {K : PySem.W.Frag} {mg mb : Str → Option Value} {C : CXT} {k : Nat} {fa a : Addr} {fd : FuncData} {x : Str} {sp : Sp} {s₁ : Shared} {vs : List Value} {ns : List Int}
end
end Lf
set_option Elab.async false
set_option linter.all false
set_option maxRecDepth 100000
set_option maxHeartbeats 4000000
namespace Lf
open PySem PySem.Spec PyProof.Rows L2
mutual
def edB : PyData → Bool
  | .dict kvs => kvs.isEmpty
  | .list xs => edAll xs
  | .tuple xs => edAll xs
  | _ => true
def edAll : List PyData → Bool
  | [] => true
  | x :: xs => edB x && edAll xs
end
def repOk (d : PyData) : Bool := edB d && (d.showable && (decide (d.depth ≤ 64) && (d.leavesShort 40 && decide (d.weight ≤ 300000))))
def smB (K : PySem.W.Frag) : Bool := match K.lookup sysModules with
  | some o => (match o.data with
    | .dict _ _ => true
    | _ => false)
  | none => false
mutual
inductive DpE (K : PySem.W.Frag) (H : Hp) : V → PyData → Prop
  | non : DpE K H .non .none
  | bl (b : Bool) : DpE K H (.bl b) (.bool b)
  | int (i : Int) : DpE K H (.int i) (.int i)
  | str (x : Str) : DpE K H (.str x) (.str x)
  | lst {a : Addr} {xs : List V} {ds : List PyData} : SqL K H a xs → DpEs K H xs ds → DpE K H (.ref a) (.list ds)
  | tup {a : Addr} {xs : List V} {ds : List PyData} : SqT K H a xs → DpEs K H xs ds → DpE K H (.ref a) (.tuple ds)
  | dct {a : Addr} : H a = some (.dK []) ∨ H a = some (.dT []) → DpE K H (.ref a) (.dict [])
inductive DpEs (K : PySem.W.Frag) (H : Hp) : List V → List PyData → Prop
  | nil : DpEs K H [] []
  | cons {v : V} {vs : List V} {d : PyData} {ds : List PyData} : DpE K H v d → DpEs K H vs ds → DpEs K H (v :: vs) (d :: ds)
end
section
variable {X : Cx} {pins : List (Addr × Obj)} {σ : L2.St} {H : Hp} {s : Shared}
theorem sm_list (I : Inv X pins σ H s) (hm : smB X.K = true) {a : Addr} {o : Obj} {vs : Array Value} {n : Nat} (e : s.heap.get? a = some o) (d : o.data = .seq vs n) : sysModules ≠ a := by
  rintro rfl
  unfold smB at hm
  split at hm
  · rename_i o' e'
    have := I.kIn _ _ e'
    rw [e] at this
    cases this
    rw [d] at hm
    cases hm
  · cases hm
mutual
theorem DpE.reads (I : Inv X pins σ H s) (hm : smB X.K = true) : ∀ (d : PyData) (v : V) (u : Value), DpE X.K H v d → RelV v u → ∃ as, Reads s.heap u d as ∧ sysModules ∉ as
  | .none, _, _, h, r => by
    cases h
    cases r
    exact ⟨_, Reads.none, List.not_mem_nil⟩
  | .bool b, _, _, h, r => by
    cases h
    cases r
    exact ⟨_, Reads.bool b, List.not_mem_nil⟩
  | .int i, _, _, h, r => by
    cases h
    obtain ⟨t, rfl⟩ := r
    exact ⟨_, Reads.int i t, List.not_mem_nil⟩
  | .str x, _, _, h, r => by
    cases h
    obtain ⟨t, rfl⟩ := r
    exact ⟨_, Reads.str x t, List.not_mem_nil⟩
  | .list ds, _, _, h, r => by
    cases h with
    | lst hs ha =>
      cases r
      obtain ⟨its, rv, ⟨o, n, ho, hc, _, hd⟩, _⟩ := I.list hs
      obtain ⟨as, hr, hn⟩ := DpE.readsAll I hm ds _ its ha rv
      refine ⟨_, Reads.list ho hc hd hr, fun z => ?_⟩
      rcases List.mem_cons.mp z with z | z
      · exact sm_list I hm ho hd z
      · exact hn z
  | .tuple ds, _, _, h, r => by
    cases h with
    | tup hs ha =>
      cases r
      obtain ⟨its, rv, ⟨o, ho, hc, n, hd⟩, _⟩ := I.tuple hs
      obtain ⟨as, hr, hn⟩ := DpE.readsAll I hm ds _ its ha rv
      exact ⟨_, Reads.tuple ho hc hd hr, hn⟩
  | .dict _, _, _, h, r => by
    cases h with
    | @dct a hs =>
      cases r
      have key : ∃ o, s.heap.get? a = some o ∧ (a == sysModules) = false ∧ o.cls = .type "dict" ∧ ∃ es ep, o.data = .dict es ep ∧ es.toList = [] := by
        rcases hs with hs | hs
        · obtain ⟨_, ne, vs, kv, o, es, ep, e, ex, ed, _, el, _⟩ := I.hok _ _ hs
          cases kv
          refine ⟨o, e, ne, ex.1, es, ep, ed, ?_⟩
          generalize es.toList = l at el
          cases el
          rfl
        · obtain ⟨_, ne, xs, kv, o, es, ep, e, ex, ed, el, _⟩ := I.hok _ _ hs
          cases kv
          exact ⟨o, e, ne, ex.1, es, ep, ed, by simpa using el⟩
      obtain ⟨o, e, ne, ec, es, ep, ed, el⟩ := key
      refine ⟨_, Reads.dict (as := []) (bs := []) e ec ed (by rw [el]; exact .nil) (by rw [el]; exact .nil), fun z => ?_⟩
      simp only [List.append_nil, List.mem_singleton] at z
      rw [z] at ne
      simp at ne
theorem DpE.readsAll (I : Inv X pins σ H s) (hm : smB X.K = true) : ∀ (ds : List PyData) (vs : List V) (us : List Value), DpEs X.K H vs ds → Vals vs us → ∃ as, ReadsAll s.heap us ds as ∧ sysModules ∉ as
  | [], _, _, h, r => by
    cases h
    cases r
    exact ⟨_, ReadsAll.nil, List.not_mem_nil⟩
  | d :: ds, _, _, h, r => by
    cases h with
    | cons h1 h2 =>
      cases r with
      | cons r1 r2 =>
        obtain ⟨as, q1, n1⟩ := DpE.reads I hm d _ _ h1 r1
        obtain ⟨bs, q2, n2⟩ := DpE.readsAll I hm ds _ _ h2 r2
        exact ⟨_, ReadsAll.cons q1 q2, fun z => (List.mem_append.mp z).elim n1 n2⟩
end
end
section
variable {K : PySem.W.Frag} {G H : Hp}
mutual
theorem Rp.dpe : ∀ {v : V} {d : PyData}, Rp K G v d → Sub G H → edB d = true → DpE K H v d
  | _, _, .non, _, _ => .non
  | _, _, .bl b, _, _ => .bl b
  | _, _, .int i, _, _ => .int i
  | _, _, .str x, _, _ => .str x
  | _, _, .lst h t, e, q => .lst (.of (e _ _ h)) (RpAll.dpe t e (by simpa only [edB] using q))
  | _, _, .tup h t, e, q => .tup (e.t h) (RpAll.dpe t e (by simpa only [edB] using q))
  | _, _, .dT h t, e, q => by
    cases t with
    | nil => exact .dct (.inr (e _ _ h))
    | cons _ _ => cases q
  | _, _, .dK h t, e, q => by
    cases t with
    | nil => exact .dct (.inl (e _ _ h))
    | cons _ _ => cases q
theorem RpAll.dpe : ∀ {v : List V} {d : List PyData}, RpAll K G v d → Sub G H → edAll d = true → DpEs K H v d
  | _, _, .nil, _, _ => .nil
  | _, _, .cons h t, e, q => by
    simp only [edAll, Bool.and_eq_true] at q
    exact .cons (Rp.dpe h e q.1) (RpAll.dpe t e q.2)
end
theorem Cn.dpe {v : V} {d : PyData} (h : Cn K G H v d) (e : Sub G H) (q : edB d = true) : DpE K H v d := by
  cases h with
  | non => exact .non
  | bl b => exact .bl b
  | int i => exact .int i
  | str x => exact .str x
  | lst h t => exact .lst (.of h) (t.dpe e (by simpa only [edB] using q))
  | tup h t => exact .tup (e.t h) (t.dpe e (by simpa only [edB] using q))
  | dT h t =>
    cases t with
    | nil => exact .dct (.inr h)
    | cons _ _ => cases q
  | dK h t =>
    cases t with
    | nil => exact .dct (.inl h)
    | cons _ _ => cases q
theorem CnK.dpe {v : V} {d : PyData} (c : CnK K G H v d) (e : Sub G H) (q : edB d = true) : DpE K H v d := by
  cases c with
  | of c => exact c.dpe e q
  | lst h t => exact .lst h (t.dpe e (by simpa only [edB] using q))
end
section
variable {X : Cx} {W : WX} {fa : En → Mem → Ans (List Wv)} {pos : Pos}
def rRep (X : Cx) : List V → Hp → VK → Prop := fun xs H Q => ∃ v d, xs = [v] ∧ DpE X.K H v d ∧ repOk d = true ∧ Q (.str d.shown) H
theorem cr_repr (hg : X.A.guards = some []) (hu : X.A.units + 65 < cLine) (hm : smB X.K = true) : CallR X (.builtin "repr") (rRep X) := by
  intro pins s σ H xs us Q I r h
  obtain ⟨v, d, rfl, hd, hk, q⟩ := h
  obtain ⟨u, rfl, ru⟩ := vals1 r
  obtain ⟨as, rd, ns⟩ := DpE.reads I hm d _ _ hd ru
  obtain ⟨_, hk⟩ := He.ba hk
  obtain ⟨h3, hk⟩ := He.ba hk
  obtain ⟨h4, hk⟩ := He.ba hk
  obtain ⟨h5, h6⟩ := He.ba hk
  have h4 := of_decide_eq_true h4
  have h6 := of_decide_eq_true h6
  have hz : d.shown.length ≤ sizeLine := by
    have := PyData.shown_le 40 (by decide) d h5
    have e : sizeLine = 16777216 := rfl
    omega
  have fin : ∀ (h' : Heap) (t tk : Nat), (∀ b o, s.heap.get? b = some o → h'.get? b = some o) → ∃ v H', Inv X pins σ H' { s with heap := h', toks := tk } ∧ RelV v (.str d.shown t) ∧ Q v H' := fun h' t tk k => ⟨.str d.shown, H, I.kept k, ⟨_, rfl⟩, q⟩
  cases hd with
  | non => cases ru; exact PySem.P.repr_of_none (fin _ _ _ fun _ _ e => e)
  | bl b => cases ru; exact PySem.P.repr_of_bool (fin _ _ _ fun _ _ e => e)
  | int i => obtain ⟨t, rfl⟩ := ru; exact PySem.P.repr_of_int (of_decide_eq_true h3) (fin _ _ _ fun _ _ e => e)
  | str x => obtain ⟨t, rfl⟩ := ru; exact PySem.P.repr_of_str (fin _ _ _ fun _ _ e => e) hz
  | lst => cases ru; exact PySem.repr_of_reads' rd h3 (fun _ => ns) hg (by omega) (fun _ _ e => e) (fun h' t tk k => fin h' t tk k) hz
  | tup => cases ru; exact PySem.repr_of_reads' rd h3 (fun _ => ns) hg (by omega) (fun _ _ e => e) (fun h' t tk k => fin h' t tk k) hz
  | dct => cases ru; exact PySem.repr_of_reads' rd h3 (fun _ => ns) hg (by omega) (fun _ _ e => e) (fun h' t tk k => fin h' t tk k) hz
@[simp] def repF (d : PyData) : Option Rv := if repOk d = true then some (.w (.d (.str d.shown))) else none
theorem cd_repr : CallD X (rRep X) (one repF) := by
  intro G H i M vs ws res Q m r e q
  obtain ⟨v, d, rfl, c, e⟩ := one_use m r e
  obtain ⟨hk, rfl⟩ := if_some e
  exact ⟨v, d, rfl, c.dpe m.sub (He.ba hk).1, hk, q _ G H (Sub.refl _) m (.str _)⟩
theorem d_repr {p : Pos} {e : Expr} (hgd : X.A.guards = some []) (hu : X.A.units + 65 < cLine) (hsm : smB X.K = true) (hm : X.mg "repr" = none) (ha : PA X [e] (tDA X.K W fa)) (hg : Gl X "repr" := by rfl) (he : starEach [e] X.env = (false, eval e X.env) :: starEach [] X.env := by rfl) :
    PE X (.Call (.Name "repr" p) [e] [] pos) (tD X.K W (dCB (one repF) fa)) := d_callB (cr_repr hgd hu hsm) cd_repr hg hm (by rfl) ha (by decide) (by decide) he rfl
end
theorem go_bind {A B : Type} {a : Ans A} {f : A → Mem → Ans B} {e : En} {k : B → Mem → SAns} : (a.bind f).go e k = a.go e fun x M => (f x M).go e k := by cases a <;> rfl
section
variable {X : Cx} {W : WX} {fa : En → Mem → Ans (List Wv)} {pos : Pos}
theorem s_par3 {i j l : Nat} {x y z : Str} {a b c : Expr} {px py pz pt : Pos} {kt k2 pt2} (hc : X.calm = true) (hN : X.N.Nodup) (hij : i ≠ j) (hil : i ≠ l) (hjl : j ≠ l) (ha : PA X [a, b, c] (tDA X.K W fa)) (hi : X.N[i]? = some x := by rfl) (hj : X.N[j]? = some y := by rfl) (hl : X.N[l]? = some z := by rfl)
    (hx : X.env.scope.names.lookup x = some .local := by rfl) (hy : X.env.scope.names.lookup y = some .local := by rfl) (hz : X.env.scope.names.lookup z = some .local := by rfl)
    (hw : swappedStores [.Tuple [.Name x px, .Name y py, .Name z pz] kt pt] (.Tuple [a, b, c] k2 pt2) X.env = pure (some [x, y, z]) := by rfl)
    (hs : swapsWithSole [.Tuple [.Name x px, .Name y py, .Name z pz] kt pt] (.Tuple [a, b, c] k2 pt2) pos.line X.env = pure false := by rfl) :
    PS X (.Assign [.Tuple [.Name x px, .Name y py, .Name z pz] kt pt] (.Tuple [a, b, c] k2 pt2) pos) (tDS X.K W (sAsgT (tgT [i, j, l]) (dTup fa))) :=
  PS.weak (ps_par3 hc hN hi hj hl hij hil hjl hx hy hz ha hw hs) fun D s H q => by
    obtain ⟨G, ii, e, M, he, hm, q⟩ := q
    unfold sAsgT dTup at q
    rw [go_bind] at q
    refine tG.goS he hm q fun vs ws M1 G1 H1 s1 m1 r1 q => ?_
    unfold tupR at q
    cases hd : dats ws with
    | none => rw [hd] at q; exact q.elim
    | some ds =>
      rw [hd] at q
      simp only [] at q
      split at q
      · simp only [Ans.go, Rv.fz, tgT] at q
        have r2 := r1.all hd
        cases r2 with
        | nil => exact q.elim
        | cons p1 r2 =>
          cases r2 with
          | nil => exact q.elim
          | cons p2 r2 =>
            cases r2 with
            | nil => exact q.elim
            | cons p3 r2 =>
              cases r2 with
              | cons _ _ => exact q.elim
              | nil => exact ⟨_, _, _, rfl, q _ G1 ii H1 (Sub.refl _) (List.prefix_refl _) (((((he.mono s1 (List.prefix_refl _)).set i (w := .d _) p1).set j (w := .d _) p2).set l (w := .d _) p3)) m1⟩
      · exact q.elim
end
end Lf
set_option Elab.async false
set_option linter.all false
set_option maxRecDepth 100000
set_option maxHeartbeats 2000000
namespace Lf
open PySem PySem.Spec PyProof.Rows L2
@[simp] def dTab (Fs : List DenF) (g : Den) (fa : En → Mem → Ans (List Wv)) : Den := fun e M => (g e M).bind fun y M1 => match y.fz with
  | .d (.int n) => (match atI Fs n with
    | some F => (fa e M1).bind F
    | none => .bad)
  | _ => .bad
section
variable {X : Cx} {W : WX} {fa : En → Mem → Ans (List Wv)} {pos p : Pos} {x : Str} {F : DenF}
inductive TabX (X : Cx) (j : Nat) : List Expr → List DenF → Prop
  | nil : TabX X j [] []
  | cons {x : Str} {p : Pos} {F : DenF} {es : List Expr} {Fs : List DenF} {j' : Nat} : ClX X.prog X.w X.K X.mg X.base j' x F → j' ≤ j → Gl X x → (x == ("__debug__" : Str)) = false → TabX X j es Fs → TabX X j (.Name x p :: es) (F :: Fs)
def TabOk (X : Cx) (j : Nat) (as : List Addr) (Fs : List DenF) : Prop := as.length = Fs.length ∧ ∀ (i : Nat) (a : Addr) (F : DenF), as[i]? = some a → Fs[i]? = some F → ∃ (j' : Nat) (fd : FuncData) (ps : List Str), j' ≤ j ∧ PySem.W.keepIn X.K (.ref a) = true ∧ Binds X.K fd ps [] ∧ FnG X.prog X.w X.K X.mg X.base (L2.CX X.prog X.w) j' a fd ps (spX X.K F)
theorem tab_of {j : Nat} : ∀ {es : List Expr} {Fs : List DenF}, TabX X j es Fs → ∃ as : List Addr, PA X es (fun _ H Q => Q (as.map V.ref) H) ∧ TabOk X j as Fs
  | _, _, .nil => ⟨[], pa_nil, rfl, fun i a F h => by simp at h⟩
  | _, _, .cons (x := x) (F := F) (Fs := Fs) (j' := j') c hj hg hd t => by
    obtain ⟨as, h1, h2, h3⟩ := tab_of t
    obtain ⟨f, fd, ps, g1, g2, g3, g4⟩ := c.ex
    refine ⟨f :: as, pa_cons (pe_glob (v := V.ref f) hg g1 rfl hd) h1, by simp [h2], fun i a G e1 e2 => ?_⟩
    cases i with
    | zero => cases e1; cases e2; exact ⟨j', fd, ps, hj, g2, g3, g4⟩
    | succ i => exact h3 i a G e1 e2
theorem d_tab {j k : Nat} {a b : Expr} {es as : List Expr} {Fs : List DenF} {g : Den} {lp sp pos : Pos} (tk : Takes X W) (hgd : X.A.guards = some []) (T : TabX X j es Fs) (hn : Fs.length ≤ 100) (hr : Room k X.A) (hjk : j ≤ k) (hb : PE X b (tD X.K W g)) (ha : PA X (a :: as) (tDA X.K W fa)) (hs : PlainIx b := by exact fun _ _ => rfl)
    (he : starEach (a :: as) X.env = (false, eval a X.env) :: starEach as X.env := by rfl) (hpl : (backTo pos (starEach as X.env)).any (·.1) = false := by rfl) :
    PE X (.Call (.Subscript (.List es lp) b sp) (a :: as) [] pos) (tD X.K W (dTab Fs g fa)) := by
  obtain ⟨ads, hl, hlen, hok⟩ := tab_of T
  have hpe := pe_ix (pos := sp) ix_seq (pe_lst (pos := lp) hl) hb hs
  refine ⟨fun pins s σ H Q I q => ?_⟩
  obtain ⟨G, i, e, M, hE, hm, q⟩ := q
  have key : tOp (rIx X.K) (tLst (fun _ H Q => Q (ads.map V.ref) H)) (tD X.K W g) σ H (fun v H2 => ∃ (ad : Addr) (F : DenF) (G2 : Hp) (M2 : Mem), v = .ref ad ∧ (∃ (j' : Nat) (fd : FuncData) (ps : List Str), j' ≤ j ∧ PySem.W.keepIn X.K (.ref ad) = true ∧ Binds X.K fd ps [] ∧ FnG X.prog X.w X.K X.mg X.base (L2.CX X.prog X.w) j' ad fd ps (spX X.K F)) ∧ EnvR X.K G2 i e σ ∧ MemR X.K G2 H2 i M2 ∧ Ask X.K W (ResR X.K) G2 i σ Q ((fa e M2).bind F)) := by
    refine ⟨by rw [List.length_map, hlen, sizeLine]; omega, fun p hp => ?_⟩
    have f1 := hm.gfree hp
    have m1 := (hm.grow (o := .lst (ads.map V.ref)) hp).freeze f1 (hm.notin hp) upd_same nofun
    have s1 : Sub G (upd G p (.lst (ads.map V.ref))) := Sub.new f1
    refine tD.goW (hE.mono s1 (List.prefix_refl i)) m1 (q.mono s1) fun u y M2 G2 H2 s2 m2 r2 q => ?_
    have hp2 : H2 p = some (.lst (ads.map V.ref)) := m2.sub _ _ (s2 _ _ upd_same)
    cases hy : y.fz with
    | d d2 =>
      rw [hy] at r2
      simp only [hy] at q
      cases d2 with
      | int n =>
        cases r2
        simp only [] at q
        cases hF : atI Fs n with
        | none => rw [hF] at q; exact q.elim
        | some F =>
          rw [hF] at q
          obtain ⟨m, hm1, hm2⟩ : ∃ m, ixN Fs.length n = some m ∧ Fs[m]? = some F := by
            simp only [atI] at hF
            cases z : ixN Fs.length n with
            | none => rw [z] at hF; cases hF
            | some m => rw [z] at hF; exact ⟨m, rfl, hF⟩
          have hml : m < ads.length := by rw [hlen]; exact (List.getElem?_eq_some_iff.mp hm2).1
          have ha2 : ads[m]? = some ads[m] := List.getElem?_eq_getElem hml
          refine .inl ⟨p, _, n, V.ref ads[m], rfl, rfl, .of hp2, ?_, ads[m], F, G2, M2, rfl, hok m _ F ha2 hm2, (hE.mono (s1.trans s2) (List.prefix_refl i)), m2, q⟩
          simp only [atI, List.length_map, hlen, hm1, Option.bind_some, List.getElem?_map, ha2, Option.map_some]
      | _ => exact q.elim
    | _ => simp only [hy] at q; exact q.elim
  show wpAny (model X.prog X.w) X.A (do callWith pos (← eval (.Subscript (.List es lp) b sp) X.env) [] (backTo pos (starEach (a :: as) X.env)) (backToKw pos (keywordEach [] X.env))) (EP X pins σ Q) X.xe s
  refine wpAny_bind (thn (hpe.run pins s σ H _ I key) fun u s1 ⟨v, H1, I1, r, z⟩ => ?_)
  obtain ⟨ad, F, G2, M2, rfl, ⟨j', fd, ps, hj, h2, h3, h4⟩, hE2, hm2, q⟩ := z
  cases r
  have q' : tCallS (spX X.K F) (WE W) (tDA X.K W fa) σ H1 Q := by
    refine tG.go hE2 hm2 q fun vs ws M1 G1 H1 s1 m1 r1 q => ?_
    exact ⟨G1, i, ws, M1, r1, m1, q.stW⟩
  refine PySem.W.callWith_K (h₀ := X.base) I1.ok.mod.kin h2 (thn (ha.run pos pins s1 σ H1 _ I1 q') fun us s2 ⟨vs, H2, I2, r, z⟩ => ⟨I2.kIn, ?_⟩) he hpl
  exact run_clX tk h4 h3 hr hgd (Nat.le_trans hj hjk) I2 r z
end
end Lf
set_option Elab.async false
set_option linter.all false
set_option maxRecDepth 100000
set_option maxHeartbeats 4000000
namespace Lf
open PySem PySem.Spec PyProof.Rows L2
section
variable {X : Cx} {W : WX} {f g h : Den} {fa : En → Mem → Ans (List Wv)} {pos : Pos}
@[simp] def isRD (o : Wv) (M : Mem) : Bool := match o.rd M with
  | some (.dict _) => true
  | _ => false
def getF (c k d : PyData) : Option PyData := match c with
  | .dict ds => if keyOk k ds = true then some ((getD k ds).getD d) else none
  | _ => none
@[simp] def getR (o k d : Wv) (M : Mem) : Ans Rv := match o.rd M, k.rd M, d with
  | some c, some y, .d z => (match getF c y z with
    | some r => .val (.w (.d r)) M
    | none => .bad)
  | _, _, _ => .bad
@[simp] def dGet2 (f g h : Den) : Den := fun e M => (f e M).bind fun o M1 => if isRD o.fz M1 = true then (g e M1).bind fun y M2 => (h e M2).bind fun z M3 => getR o.fz y.fz z.fz M3 else .bad
theorem Cn.isD {K : PySem.W.Frag} {G H : Hp} {v : V} {ds : List (PyData × PyData)} (c : Cn K G H v (.dict ds)) : ∃ a, v = .ref a ∧ IsD H a := by
  cases c with
  | @dT a kvs _ ho t => exact ⟨a, rfl, .inr ⟨kvs, .inl ho⟩⟩
  | @dK a kvs _ ho t => exact ⟨a, rfl, .inl ⟨kvs, .inl ho⟩⟩
end
end Lf
set_option Elab.async false
set_option linter.all false
set_option maxRecDepth 100000
set_option maxHeartbeats 4000000
namespace HT
open PySem PyProof.Rows
section
variable {prog : Program} {w : World} {A : Around} {E : Value → Shared → Prop} {s : Shared}
theorem fm_congr {α β : Type} {f g : α → Option β} : ∀ {l : List α}, (∀ a ∈ l, f a = g a) → l.filterMap f = l.filterMap g
  | [], _ => rfl
  | a :: l, h => by
    rw [List.filterMap_cons, List.filterMap_cons, h a List.mem_cons_self, fm_congr fun b hb => h b (List.mem_cons_of_mem _ hb)]
end
end HT
namespace Lf
open PySem PySem.Spec PyProof.Rows L2
section
variable {X : Cx} {W : WX} {f g h : Den} {pos : Pos}
def revF : PyData → Option Rv
  | .list ds => some (.own (.list ds.reverse))
  | .tuple ds => some (.w (.d (.tuple ds.reverse)))
  | _ => none
@[simp] def revR (x : Wv) (M : Mem) : Ans Rv := match x.rdK M with
  | some d => (match revF d with
    | some r => .val r M
    | none => .bad)
  | none => .bad
@[simp] def dRev (f : Den) : Den := fun e M => (f e M).bind fun x M1 => revR x.fz M1
end
end Lf
set_option Elab.async false
set_option linter.all false
set_option maxRecDepth 100000
set_option maxHeartbeats 4000000
namespace Lf
open PySem PySem.Spec PyProof.Rows L2
section
variable {X : Cx} {W : WX} {fa : En → Mem → Ans (List Wv)} {pos : Pos}
def minTF : PyData → Option Rv
  | .tuple ds => (match intsD ds with
    | some (n :: ns) => some (vI (ns.foldl min n))
    | _ => none)
  | _ => none
end
end Lf
set_option Elab.async false
set_option linter.all false
set_option maxRecDepth 100000
set_option maxHeartbeats 4000000
namespace Lf
open PySem PySem.Spec PyProof.Rows L2
section
variable {K : PySem.W.Frag} {G H H1 : Hp} {i : List Addr} {M : Mem}
end
@[simp] def dRef (told : Str) (kindR : Xn → Option Rv) (f : Den) : Den := fun e M => match f e M with
  | .val _ M1 => .val (.w (.d (.str told))) M1
  | .exc x M1 => (match kindR x with
    | some r => .val r M1
    | none => .bad)
  | .bad => .bad
section
variable {X : Cx} {pins : List (Addr × Obj)} {σ : L2.St} {H : Hp} {s : Shared}
end
structure LamAt (X : Cx) (c P : Addr) : Prop where
  tb : LamX.TabB X.base X.mg c P
  code : X.env.code = .ref c
  mem : (P, X.env.qual ++ "<lambda>") ∈ tabsOf X.K
  one : ∀ p ∈ tabsOf X.K, p.1 = P → p.2 = X.env.qual ++ "<lambda>"
section
variable {X : Cx} {W : WX} {cs : List Str} {F : Addr → Option Addr → Xn → DenF}
end
end Lf
set_option Elab.async false
set_option linter.all false
set_option maxRecDepth 100000
set_option maxHeartbeats 4000000
namespace Lf
open PySem PySem.Spec PyProof.Rows L2
def codesOf (K : PySem.W.Frag) : List (Addr × Addr) := makers.filterMap (PySem.W.tabIn K)
def lamB (us : List Str) (K : PySem.W.Frag) : Bool := us.all (fun x => makers.contains x && (PySem.W.tabIn K x).isSome) && makers.all fun x => (us.contains x || (PySem.W.tabIn K x).isNone) && makers.all fun y =>
  (match PySem.W.tabIn K x, PySem.W.tabIn K y with
    | some p, some q => (K.lookup p.2).isNone && (p.2 != q.2 || x == y)
    | _, _ => true)
structure LamF (us : List Str) (K : PySem.W.Frag) : Prop where
  has : ∀ x ∈ us, x ∈ makers ∧ ∃ p, PySem.W.tabIn K x = some p
  us : ∀ x ∈ makers, ∀ p, PySem.W.tabIn K x = some p → x ∈ us
  out : ∀ x ∈ makers, ∀ p, PySem.W.tabIn K x = some p → K.lookup p.2 = none
  one : ∀ x ∈ makers, ∀ y ∈ makers, ∀ p q, PySem.W.tabIn K x = some p → PySem.W.tabIn K y = some q → p.2 = q.2 → x = y
theorem lamB_ok {us : List Str} {K : PySem.W.Frag} (h : lamB us K = true) : LamF us K := by
  obtain ⟨h1, h2⟩ := He.ba h
  have two := fun x hx => He.ba (List.all_eq_true.mp h2 x hx)
  refine ⟨fun x hx => ?_, fun x hx p hp => ?_, fun x hx p hp => ?_, fun x hx y hy p q hp hq e => ?_⟩
  · obtain ⟨q1, q2⟩ := He.ba (List.all_eq_true.mp h1 x hx)
    exact ⟨by simpa using q1, Option.isSome_iff_exists.mp q2⟩
  · have := (two x hx).1
    rw [hp] at this
    simpa using this
  · have := List.all_eq_true.mp (two x hx).2 x hx
    rw [hp] at this
    have := (He.ba this).1
    simpa using this
  · have := List.all_eq_true.mp (two x hx).2 y hy
    rw [hp, hq] at this
    have := (He.ba this).2
    rw [e] at this
    simpa using this
def noT (p : Addr × Obj) : Bool := match p.2.cls, p.2.data with
  | .none, .fields _ => false
  | _, _ => true
def frT (g : Addr → Option Obj) (as : List Addr) : PySem.W.Frag := (He.frG g as).filter noT
theorem frT_in {h : Heap} {as : List Addr} : (frT h.get? as).In h := fun a o e => by
  have := (List.mem_filter.mp (PySem.W.mem_of_lookupK e)).1
  obtain ⟨b, _, e2⟩ := List.mem_filterMap.mp this
  obtain ⟨o', e3, e4⟩ := Option.map_eq_some_iff.mp e2
  cases e4
  exact e3
def hookT (n : Nat) (fa : List He.Fa) (fn : List He.DefD) (ex : PySem.W.Frag → Bool) : PySem.W.Hook where
  α := He.AlD × Bool
  obs := fun s => (He.obsD fa fn (frT s.heap.get? (sysModules :: He.asD s.heap.get? n)), ex (frT s.heap.get? (sysModules :: He.asD s.heap.get? n)))
  val := fun _ => (He.valD fn, true)
  says := fun _ h => ∃ K : PySem.W.Frag, K.In h ∧ He.SaysD fa fn K ∧ ex K = true
  of := fun _ _ e => ⟨_, frT_in, congrArg Prod.fst e, congrArg Prod.snd e⟩
  keeps := fun _ _ _ ⟨K, hK, c⟩ k => ⟨K, PySem.W.Frag.In.keeps hK k, c⟩
def obsT (n : Nat) (fa : List He.Fa) (fn : List He.DefD) (ex : PySem.W.Frag → Bool) (g : Addr → Option Obj) : He.AlD × Bool := (He.obsD fa fn (frT g (sysModules :: He.asD g n)), ex (frT g (sysModules :: He.asD g n)))
theorem obsT_eq {n : Nat} {fa : List He.Fa} {fn : List He.DefD} {ex : PySem.W.Frag → Bool} {g : Addr → Option Obj} {s : Shared} (h : ∀ a, g a = s.heap.get? a) : obsT n fa fn ex g = (hookT n fa fn ex).obs s := by
  have e : g = s.heap.get? := funext h
  subst e
  rfl
structure LamM (K : PySem.W.Frag) (mg : Str → Option Value) (base : Heap) (x : Str) : Prop where
  ex : ∃ c P, PySem.W.tabIn K x = some (c, P) ∧ LamX.TabB base mg c P ∧ (P, x ++ ".<locals>." ++ "<lambda>") ∈ tabsOf K ∧ ∀ p ∈ tabsOf K, p.1 = P → p.2 = x ++ ".<locals>." ++ "<lambda>"
theorem LamM.at_ {X : Cx} {x : Str} {cdv : Value} (m : LamM X.K X.mg X.base x) (hcv : CodeV X.K x cdv) (h1 : X.env.code = cdv) (h2 : X.env.qual = x ++ ".<locals>.") : ∃ c P, LamAt X c P := by
  obtain ⟨c, P, e, t, me, one⟩ := m.ex
  refine ⟨c, P, t, h1.trans (hcv c P e), by rw [h2]; exact me, fun p hp q => by rw [h2]; exact one p hp q⟩
section
variable {P : Program} {w : World} {K : PySem.W.Frag} {mg mb : Str → Option Value} {C : CXT} {k : Nat} {fa a : Addr} {fd : FuncData} {x : Str} {sp : Sp} {s₁ : Shared} {vs : List Value} {ns : List Int} {cs : List (Addr × Addr)}
theorem law_atT (KX : K.In s₁.heap) (hns : s₁.heap.Ns mainGlobals mg) (hb : s₁.heap.Ns builtinsNs mb) (hbb : ∀ x : Str, x ≠ "__name__" → mb x = bootBuiltins x) (hlim : s₁.heap.NoLimit) (hg : s₁.gens = #[])
    (hT : ∀ p ∈ cs, PySem.W.CodeHd s₁.heap p.1 p.2 ∧ s₁.heap.get? p.2 = some { cls := .none, data := .fields #[] }) (nT : ∀ p ∈ cs, K.lookup p.2 = none)
    (hbm : ∃ (bm : Addr) (ob : Obj), mg "__builtins__" = some (.ref bm) ∧ bm ≠ builtinsNs ∧ s₁.heap.get? bm = some ob ∧ ob.cls = .type "module" ∧ ob.dict = some builtinsNs ∧ ob.data = .plain)
    (ha : s₁.heap.get? a = some { cls := .type "list", data := .seq vs.toArray }) (hr : Room k callerA)
    (F : ∀ base : Heap, K.In base → base.Ns mainGlobals mg → (∀ p ∈ cs, LamX.TabB base mg p.1 p.2) → FnG P w K mg base C k fa fd [x] sp) (hbind : ∀ (s : Shared) (u : Value), BindsTo s fd ⟨[u], []⟩ [(x, u)])
    (hCX : ∀ H e s', C [] H s₁ (fun _ _ _ => False) e s' → False) {H : Hp} (hsp : sp [.ref a] H (fun v _ => v = .bl true) fun _ _ _ => False) (hok : HOk P w H s₁.heap)
    (hO : ∀ b u, H b = some u → (u = .tbl #[] ∧ ∃ p ∈ cs, p.2 = b) ∨ (b = a ∧ K.lookup a = none ∧ ∃ o xs, u = .frz o (.lst xs))) :
    codeAny (model P w) callerA (.call (.ref fa) ⟨[.ref a], []⟩) (fun r s' => r = .ok (.ret (.bool true)) ∧ OldK s₁.heap s'.heap ∧ s'.os = s₁.os ∧ AllBare s'.gens) s₁ := by
  -- what is neither a list nor an empty table is not tracked
  have free : ∀ {b o}, s₁.heap.get? b = some o → o.data ≠ .fields #[] → o.cls ≠ .type "list" → H b = none := fun {b o} e n1 n2 => by
    cases q : H b with
    | none => rfl
    | some u =>
      rcases hO b u q with ⟨_, p, hp, rfl⟩ | ⟨rfl, _⟩
      · rw [(hT p hp).2] at e; cases e; exact absurd rfl n1
      · rw [ha] at e; cases e; exact absurd rfl n2
  have seen : ∀ {b o}, s₁.heap.get? b = some o → o.data ≠ .fields #[] → o.cls ≠ .type "list" → (hidT s₁.heap H).get? b = some o := fun e n1 n2 => hidT_get e (free e n1 n2)
  have nsK : ∀ {b : Addr} {m : Str → Option Value}, s₁.heap.Ns b m → (hidT s₁.heap H).Ns b m := fun {b m} ⟨o, es, ep, e, d, r⟩ => ⟨o, es, ep, hidT_get e (by
    cases q : H b with
    | none => rfl
    | some u =>
      rcases hO b u q with ⟨_, p, hp, rfl⟩ | ⟨rfl, _⟩
      · rw [(hT p hp).2] at e; cases e; cases d
      · rw [ha] at e; cases e; cases d), d, r⟩
  have hKb : K.In (hidT s₁.heap H) := fun b o e => hidT_get (KX b o e) (by
    cases q : H b with
    | none => rfl
    | some u =>
      rcases hO b u q with ⟨_, p, hp, rfl⟩ | ⟨rfl, hk, _⟩
      · rw [nT p hp] at e; cases e
      · rw [hk] at e; cases e)
  have TB : ∀ p ∈ cs, LamX.TabB (hidT s₁.heap H) mg p.1 p.2 := fun p hp => by
    obtain ⟨⟨o, us, file, tf, flags, tg, inF, text, tt, e1, e2, e3, e4, e5⟩, t⟩ := hT p hp
    refine ⟨⟨o, us, file, tf, flags, tg, inF, text, tt, seen e1 ?_ ?_, e2, e3, e4, e5⟩, ?_, ?_⟩
    · rw [e3]; intro z; cases z; simp at e4
    · rw [e2]; intro z; exact absurd z (by decide)
    · obtain ⟨bm, ob, b1, b2, b3, b4, b5, b6⟩ := hbm
      have nG : bm ≠ mainGlobals := by
        rintro rfl
        obtain ⟨o', es, ep, e, hd, _⟩ := hns
        rw [e] at b3; cases b3; rw [hd] at b6; cases b6
      have nP : bm ≠ p.2 := by
        rintro rfl
        rw [t] at b3; cases b3; cases b6
      exact ⟨bm, ob, b1, b2, nG, nP, seen b3 (by rw [b6]; intro z; cases z) (by rw [b4]; intro z; exact absurd z (by decide)), b4, b5, b6⟩
    · intro z
      obtain ⟨o', es, ep, e, hd, _⟩ := hns
      rw [z, t] at e; cases e; cases hd
  have e0 : Env0 P w K mg (hidT s₁.heap H) callerA [] s₁ H := ⟨rfl, ⟨hKb, nsK hns, ⟨mb, nsK hb, hbb⟩, let ⟨mc, h1, h2⟩ := hlim; ⟨mc, nsK h1, h2⟩⟩, fun b o e => of_hidT e, Nat.le_of_eq (hidT_size _ _), trivial, fun b z => absurd (show b ∈ ([] : List Addr) from z) (by simp), hok, .of_eq hg⟩
  refine codeAny_mono ((F _ hKb (nsK hns) TB).run callerA [] s₁ H ⟨[.ref a], []⟩ [.ref a] [.ref a] _ _ hr rfl e0 (hbind s₁ (.ref a)) (.cons rfl .nil) hsp) fun r s' h => ?_
  cases r with
  | error e => exact (hCX H e s' h).elim
  | ok fl =>
    cases fl <;> first | exact False.elim h | skip
    obtain ⟨v, H', os, bare, un, hok', r', q⟩ := h
    obtain rfl : v = .bl true := q
    obtain rfl : _ = Value.bool true := r'
    have at_ : ∀ b o, s₁.heap.get? b = some o → (∃ p ∈ cs, p.2 = b ∧ ∃ more : Array Value, s'.heap.get? p.2 = some { cls := .none, data := .fields more }) ∨ s'.heap.get? b = some o := fun b o e => by
      cases q : H b with
      | none => exact .inr (un.keep b o e q (by intro y; exact absurd (show b ∈ ([] : List Addr) from y) (by simp)) (by simp))
      | some u =>
        rcases hO b u q with ⟨rfl, p, hp, rfl⟩ | ⟨rfl, _, ob, xs, rfl⟩
        · obtain ⟨more, z⟩ := un.tbls p.2 #[] q
          exact .inl ⟨p, hp, rfl, _, hok' p.2 _ z⟩
        · obtain ⟨e1, _⟩ := hok b _ q
          obtain ⟨e2, _⟩ := hok' b _ (un.frzs b ob _ q)
          rw [e] at e1; cases e1
          exact .inr e2
    refine ⟨rfl, ⟨fun b o e => ?_, fun b o e => ?_⟩, os, bare⟩
    · rcases at_ b o e with ⟨p, hp, rfl, more, z⟩ | z
      · rw [(hT p hp).2] at e
        cases e
        exact .inr (.inl ⟨((hT p hp).1.tab (hT p hp).2).isCodeTable, rfl, #[], more, rfl, by rw [Array.empty_append]; exact z⟩)
      · exact .inl z
    · rcases at_ b o e with ⟨p, hp, rfl, more, z⟩ | z
      · exact ⟨_, z⟩
      · exact ⟨_, z⟩
end
theorem walk_T {l : PySem.W.OpenLaw} {n k : Nat} {q : Program} {loose us : List Str} {XP : (Str → Option Value) → Heap → Prop} {YP : World → Heap → Prop} {d : DefRec} {C : CXT} {x : Str}
    (hn : l.most = some n) (hn2 : n ≤ sizeLine) (hdf : d.params.defaults = []) (hr : Room k callerA) (hus : us.all (fun y => ((recsOf q).find? (fun e => e.name == y)).isSome) = true)
    (F : ∀ (w : World) (mg : Str → Option Value) (fa : Addr) (h : Heap), YP w h → h.Ns mainGlobals mg → mg d.name = some (.ref fa) →
      ∃ (K : PySem.W.Frag) (fd : FuncData) (sp : Sp), K.In h ∧ LamF us K ∧ (∀ (s : Shared) (u : Value), BindsTo s fd ⟨[u], []⟩ [(x, u)]) ∧
        (∀ (H : Hp) (a : Addr) (ns : List Int), ns.length ≤ n → LamX.Tabs (tabsOf K) H → SqL K H a (ns.map V.int) → sp [.ref a] H (fun v _ => v = .bl true) fun _ _ _ => False) ∧
        ∀ base : Heap, (∀ p ∈ codesOf K, LamX.TabB base mg p.1 p.2) → FnG l.prog w K mg base C k fa fd [x] sp)
    (hCX : ∀ (H : Hp) (s : Shared) (e : Value) (s' : Shared), C [] H s (fun _ _ _ => False) e s' → False) :
    PySem.W.WalkO q loose XP YP l.row.toRowW d [] (fun f vs => PySem.call f vs) := by
  refine Att.attach_call hn hdf fun w s₀ s₁ mg mb fa o pm cd doc a vs ns G Y ho hd hcd hmg hobj hints hlen hg => ?_
  obtain ⟨K, fd, sp, KX, LF, hb, hsp, hF⟩ := F w mg fa _ Y G.T.g hmg
  have lenV := hints.length
  have hl : ns.length ≤ sizeLine := Nat.le_trans hlen hn2
  have hT : ∀ p ∈ codesOf K, PySem.W.CodeHd s₁.heap p.1 p.2 ∧ s₁.heap.get? p.2 = some { cls := .none, data := .fields #[] } := fun p hp => by
    obtain ⟨y, hy, ey⟩ := List.mem_filterMap.mp hp
    obtain ⟨dd, hd2⟩ := Option.isSome_iff_exists.mp (List.all_eq_true.mp hus y (LF.us y hy p ey))
    exact PySem.W.tab_of G.T KX hd2 ey
  have nT : ∀ p ∈ codesOf K, K.lookup p.2 = none := fun p hp => by
    obtain ⟨y, hy, ey⟩ := List.mem_filterMap.mp hp
    exact LF.out y hy p ey
  have aT : ∀ p ∈ codesOf K, p.2 ≠ a := fun p hp z => by
    have := (hT p hp).2
    rw [z, hobj] at this
    cases this
  have at_ := fun {H : Hp} => @law_atT l.prog w K mg mb C k fa a fd x sp s₁ vs (codesOf K) KX G.T.g G.T.b G.T.builtins G.T.nolimit hg hT nT G.T.bmain hobj hr (fun base _ _ t => hF base t) hb (fun H e s' => hCX H s₁ e s') H
  have tabs : ∀ H : Hp, (∀ p ∈ codesOf K, H p.2 = some (.tbl #[])) → LamX.Tabs (tabsOf K) H := fun H hH p hp => by
    obtain ⟨y, hy, ey⟩ := List.mem_filterMap.mp hp
    obtain ⟨z, ez, rfl⟩ := Option.map_eq_some_iff.mp ey
    exact LamX.TabS.nil (hH z (List.mem_filterMap.mpr ⟨y, hy, ez⟩))
  -- the empty tables, over what else is tracked
  let T : Hp → Hp := fun H0 b => if (codesOf K).any (fun p => p.2 == b) then some (.tbl #[]) else H0 b
  have T1 : ∀ (H0 : Hp) (p : Addr × Addr), p ∈ codesOf K → T H0 p.2 = some (.tbl #[]) := fun H0 p hp => if_pos (List.any_eq_true.mpr ⟨p, hp, by simp⟩)
  have T2 : ∀ (H0 : Hp) b u, T H0 b = some u → (u = .tbl #[] ∧ ∃ p ∈ codesOf K, p.2 = b) ∨ H0 b = some u := fun H0 b u e => by
    by_cases hc : (codesOf K).any (fun p => p.2 == b) = true
    · obtain ⟨p, hp, ep⟩ := List.any_eq_true.mp hc
      have := (if_pos hc).symm.trans e
      cases this
      exact .inl ⟨rfl, p, hp, by simpa using ep⟩
    · exact .inr ((if_neg hc).symm.trans e)
  have T3 : ∀ H0 : Hp, T H0 a = H0 a := fun H0 => if_neg fun z => by
    obtain ⟨p, hp, ep⟩ := List.any_eq_true.mp z
    exact aT p hp (by simpa using ep)
  have tok : ∀ (p : Addr × Addr), p ∈ codesOf K → ∀ H : Hp, ObjOk l.prog w H s₁.heap p.2 (.tbl #[]) := fun p hp H => (hT p hp).2
  cases hk : K.lookup a with
  | some o =>
    have e := KX a o hk
    rw [hobj] at e
    cases e
    refine at_ (H := T fun _ => none) (hsp _ a ns hlen (tabs _ (T1 fun _ => none)) (.inr ⟨_, vs.toArray, _, hk, rfl, rfl, rfl, by rw [List.size_toArray, lenV]; exact hl, by simpa using vals_ints hints⟩)) (fun b u z => ?_) fun b u z => ?_
    · rcases T2 (fun _ => none) b u z with ⟨rfl, p, hp, rfl⟩ | z
      · exact tok p hp _
      · cases z
    · rcases T2 (fun _ => none) b u z with z | z
      · exact .inl z
      · cases z
  | none =>
    have ea : T (upd (fun _ => none) a (.frz { cls := .type "list", data := .seq vs.toArray } (.lst (ns.map V.int)))) a = some (.frz { cls := .type "list", data := .seq vs.toArray } (.lst (ns.map V.int))) := (T3 _).trans upd_same
    refine at_ (H := T (upd (fun _ => none) a (.frz { cls := .type "list", data := .seq vs.toArray } (.lst (ns.map V.int))))) (hsp _ a ns hlen (tabs _ (T1 (upd (fun _ => none) a _))) (.inl (.inr ⟨_, ea⟩))) (fun b u z => ?_) fun b u z => ?_
    · rcases T2 (upd (fun _ => none) a _) b u z with ⟨rfl, p, hp, rfl⟩ | z
      · exact tok p hp _
      · by_cases hb : b = a
        · subst hb
          rw [upd_same] at z
          cases z
          exact ⟨hobj, by rw [List.length_map]; exact hl, vs, _, vals_ints hints, hobj⟩
        · rw [upd_ne hb] at z; cases z
    · rcases T2 (upd (fun _ => none) a _) b u z with z | z
      · exact .inl z
      · by_cases hb : b = a
        · subst hb
          rw [upd_same] at z
          cases z
          exact .inr ⟨rfl, hk, _, _, rfl⟩
        · rw [upd_ne hb] at z; cases z
end Lf
set_option Elab.async false
set_option linter.all false
set_option maxRecDepth 100000
set_option maxHeartbeats 4000000
namespace Lf
open PySem PySem.Spec PyProof.Rows L2
def isB (x : PyData) (b : Bool) : Bool := match x with
  | .bool a => a == b
  | _ => false
def isF : PyData → PyData → Option Rv
  | x, .bool b => some (vB (isB x b))
  | _, _ => none
def isnF : PyData → PyData → Option Rv
  | x, .bool b => some (vB (!isB x b))
  | _, _ => none
def vIsB (x : V) (b : Bool) : Bool := match x with
  | .bl a => a == b
  | _ => false
section
variable {X : Cx} {W : WX} {f g : Den} {a b : Expr} {pos : Pos}
theorem Cn.isB {K : PySem.W.Frag} {G H : Hp} {v : V} {d : PyData} (c : Cn K G H v d) (b : Bool) : vIsB v b = isB d b ∧ ∀ t, v ≠ .ty t := by
  cases c <;> exact ⟨rfl, nofun⟩
end
end Lf
set_option Elab.async false
set_option linter.all false
set_option maxRecDepth 100000
set_option maxHeartbeats 4000000
namespace Lf
open PySem PySem.Spec PyProof.Rows L2
@[simp] def subR (fo fi : Den) (x : Wv) : DenS := fun e M => (fo e M).go e fun o M2 => (fi e M2).go e fun k M3 => setR o.fz k.fz x e M3
@[simp] def sSwap (f g o1 i1 o2 i2 : Den) : DenS := fun e M => (f e M).go e fun x M1 => (g e M1).go e fun y M2 => (subR o1 i1 x.fz e M2).then (subR o2 i2 y.fz)
section
variable {X : Cx} {W : WX} {f g o1 i1 o2 i2 : Den} {pos : Pos}
end
end Lf
set_option Elab.async false
set_option linter.all false
set_option maxRecDepth 100000
set_option maxHeartbeats 4000000
namespace Lf
open PySem PySem.Spec PyProof.Rows L2
section
variable {X : Cx} {W : WX} {f g h : Den} {fa : En → Mem → Ans (List Wv)} {pos : Pos}
def rIndexT (K : PySem.W.Frag) : V → List V → Hp → VK → Prop := fun x xs H Q => ∃ (a : Addr) (y : V) (d : PyData) (ds : List PyData) (j : Nat) (z : PyData), x = V.ref a ∧ xs = [y] ∧ Dp K H (V.ref a) (.tuple ds) ∧ Dp K H y d ∧
  SeqAt.shaped (.tuple ds) = true ∧ SeqAt.shaped d = true ∧ ds[j]? = some z ∧ PyData.eqv z d = true ∧ (∀ (m : Nat) (z' : PyData), m < j → ds[m]? = some z' → PyData.eqv z' d = false) ∧ Q (.int (j : Nat)) H
theorem mt_indexT (hu : X.A.units + 65 < cLine) : MtR X "tuple.index" (rIndexT X.K) := by
  intro pins s σ H x xs v us Q I rx rxs h
  obtain ⟨a, y, d, ds, j, z, rfl, rfl, hl, hy, sl, sd, hz, hzj, hno, q⟩ := h
  cases rx
  cases rxs with
  | cons ry rt =>
    rename_i uy ut
    cases rt
    obtain ⟨bs, r1⟩ := Dp.reads I d y uy hy ry
    have hxs : PyData.canLayAll0 ds = true := SeqAt.canLay_of_shaped sl
    have hroom : X.A.units + 1 + min (PyData.depthAll ds) d.depth < cLine := room_in_shaped sd hu
    cases hl with
    | tup hs ha =>
      obtain ⟨its, rv, pl, hlen⟩ := I.tuple hs
      obtain ⟨⟨cls, dd, dt, sls⟩, ho, hc, n, hdt⟩ := pl
      simp only at hc hdt
      subst hc hdt
      obtain ⟨as, h4⟩ := Dp.readsAll I ds _ its ha rv
      have hn : its.length = ds.length := SeqAt.ReadsAll.length ds its as h4
      have hmap : its.map (SeqAt.readOf s.heap) = ds := SeqAt.readsAll_map ds its as hxs h4
      obtain ⟨hjd, _⟩ := List.getElem?_eq_some_iff.mp hz
      have hjl : j < its.length := by omega
      have hj : j < its.toArray.size := by simpa using hjl
      have at_ : ∀ (m : Nat) (hm : m < its.toArray.size) (z' : PyData), ds[m]? = some z' → SeqAt.readOf s.heap its.toArray[m] = z' := by
        intro m hm z' hz'
        have hml : m < its.length := by simpa using hm
        rw [← hmap, List.getElem?_map, List.getElem?_eq_getElem hml] at hz'
        have e1 : SeqAt.readOf s.heap its[m] = z' := Option.some.inj (show some (SeqAt.readOf s.heap its[m]) = some z' from hz')
        simpa using e1
      refine call_meets PySem.F.slot_tuple_index ⟨_, ho, rfl⟩ PySem.F.entry_tuple_index (PySem.F.args_tuple_index_2 _ _)
        (TI.tuple_indexAt a its.toArray n dd sls uy (fun u => PyData.eqv (SeqAt.readOf s.heap u) d) j hj ?_ ?_) ⟨ho, SeqAt.items_eqAt (vs := its.toArray) (show ReadsAll s.heap its.toArray.toList ds as from h4) r1 hxs (SeqAt.canLay_of_shaped sd) hroom, ?_⟩
      · show PyData.eqv (SeqAt.readOf s.heap its.toArray[j]) d = true
        rw [at_ j hj z hz]
        exact hzj
      · intro m hm hmj
        have hmd : m < ds.length := by omega
        have hz' : ds[m]? = some ds[m] := List.getElem?_eq_getElem hmd
        show PyData.eqv (SeqAt.readOf s.heap its.toArray[m]) d = false
        rw [at_ m hm _ hz']
        exact hno m _ hmj hz'
      · exact ⟨.int (j : Nat), H, I.tok _, ⟨_, rfl⟩, q⟩
@[simp] def isRT (o : Wv) (M : Mem) : Bool := match o.rdK M with
  | some (.tuple ds) => needF ds
  | _ => false
def tyF (x : V) (H : Hp) : Prop := ∃ (p : Addr) (o : Obj) (xs : List V), x = .ref p ∧ o.dict = none ∧ H p = some (.frz o (.tup xs))
def tBMT (r : V → List V → Hp → VK → Prop) (to : TE) (t : TA) : TE := fun σ H Q => to σ H fun x H1 => tyF x H1 ∧ t σ H1 fun xs H2 => r x xs H2 Q
theorem pe_bmT {o e : Expr} {es : List Expr} {to : TE} {t : TA} {name : Str} {apos cpos : Pos} {id : String} {r : V → List V → Hp → VK → Prop} (pa : PlainAttrs "tuple") (slot : Slot "tuple" name id) (hty : typeOf (.builtin id) = pure (.type "method_descriptor")) (hm : MtR X id r) (ho : PE X o to) (ha : PA X (e :: es) t)
    (hbase : attributeBase o name X.env (eval o X.env) = eval o X.env)
    (hfew : ((backTo cpos (starEach (e :: es) X.env)).all (fun x => !x.1) && (backToKw cpos (keywordEach [] X.env)).all (fun x => x.1.isSome) && decide ((e :: es).length + ([] : List Keyword).length + (if ([] : List Keyword).isEmpty then 0 else 1) < 30)) = true)
    (hline : (apos.endLine == cpos.line) = true) (hs : starEach (e :: es) X.env = (false, eval e X.env) :: starEach es X.env) (hplain : (backTo cpos (starEach es X.env)).any (·.1) = false) :
    PE X (.Call (.Attribute o name apos) (e :: es) [] cpos) (tBMT r to t) := by
  refine ⟨fun pins s σ H Q I h => wpAny_Call_method_late hbase hfew hline rfl (thn (ho.run pins s σ H _ I h) fun v s1 ⟨x, H1, I1, r1, ty, q1⟩ => ?_)⟩
  obtain ⟨p, ob, xs, rfl, hd, hp⟩ := ty
  cases r1
  obtain ⟨g1, g2⟩ := I1.hok p _ hp
  obtain ⟨_, its, _, o2, g3, g4, _⟩ := g2
  have hT : s1.TypeIs (.ref p) "tuple" := ⟨o2, g3, g4⟩
  refine ⟨"tuple", id, pa, slot, hty, hT, fun a e => by cases e; exact ⟨ob, g1, hd⟩, ?_⟩
  have hA := ha.run cpos pins s1 σ H1 _ I1 q1
  rw [hs] at hA ⊢
  refine Calls.callWith_builtin (by show (false || (backTo cpos (starEach es X.env)).any (·.1)) = false; rw [hplain] <;> rfl) (Calls.evalArgs_plain (thn hA fun us s2 ⟨vs, H2, I2, r2, q2⟩ => hm pins s2 σ H2 (.ref p) vs _ us Q I2 rfl r2 q2))
@[simp] def dMs (F : PyData → PyData → Option Rv) (f : Den) (fa : En → Mem → Ans (List Wv)) : Den := fun e M => (f e M).bind fun o M1 => if isRT o.fz M1 = true then (fa e M1).bind fun ws M2 => mrR F o.fz ws M2 else .bad
theorem ms_use {r : V → List V → Hp → VK → Prop} {F : PyData → PyData → Option Rv} (md : MrD X r F) (s : L2.St) (H : Hp) (Q : VK) (q : tD X.K W (dMs F f fa) s H Q) : tBMT r (tD X.K W f) (tDA X.K W fa) s H Q := by
  obtain ⟨G, i, e, M, he, hm, q⟩ := q
  refine tD.goW he hm q fun v x M1 G1 H1 s1 m1 r1 q => ?_
  split at q
  · rename_i hl
    unfold isRT at hl
    cases z : x.fz.rdK M1 with
    | none => rw [z] at hl; cases hl
    | some c =>
      rw [z] at hl
      have c1 := r1.cnK m1 z
      cases c with
      | tuple ds =>
        obtain ⟨p, xs, rfl, h1, h2⟩ := c1.tuple
        obtain ⟨ob, hd, hob⟩ := id h1
        have hl' : needF ds = true := hl
        rw [hl'] at hob
        refine ⟨⟨p, ob, xs, rfl, hd, m1.sub _ _ hob⟩, ?_⟩
        refine tG.go (he.mono s1 (List.prefix_refl _)) m1 q fun vs ws M2 G2 H2 s2 m2 r2 q => ?_
        unfold mrR at q
        cases z2 : x.fz.rdK M2 with
        | none => rw [z2] at q; exact q.elim
        | some c2 =>
          rw [z2] at q
          cases r2 with
          | nil => exact q.elim
          | cons rw_ rt =>
            cases rt with
            | cons _ _ => exact q.elim
            | nil =>
              rename_i w
              simp only [] at q
              cases z3 : w.rd M2 with
              | none => rw [z3] at q; exact q.elim
              | some d =>
                rw [z3] at q
                simp only [] at q
                cases z4 : F c2 d with
                | none => rw [z4] at q; exact q.elim
                | some res =>
                  rw [z4] at q
                  exact md G2 H2 i M2 _ _ c2 d res Q m2 ((r1.mono s2 (List.prefix_refl _)).cnK m2 z2) (rw_.cn m2 z3) z4 q
      | _ => cases hl
  · exact q.elim
@[simp] def idxTF : PyData → PyData → Option Rv
  | .tuple ds, d => if SeqAt.shaped (.tuple ds) = true ∧ SeqAt.shaped d = true then (match ds.findIdx? (fun z => PyData.eqv z d) with
    | some j => some (.w (.d (.int (j : Nat))))
    | none => none) else none
  | _, _ => none
theorem md_idxT : MrD X (rIndexT X.K) idxTF := by
  intro G H i M v u c d res Q m c1 c2 e q
  cases c with
  | tuple ds =>
    unfold idxTF at e
    simp only [] at e
    split at e
    · rename_i hs
      cases z : ds.findIdx? (fun z => PyData.eqv z d) with
      | none => rw [z] at e; cases e
      | some j =>
        rw [z] at e
        cases e
        obtain ⟨a, xs, rfl, h1, h2⟩ := c1.tuple
        have hd : Dp X.K H (.ref a) (.tuple ds) := .tup (m.sub.t h1) (h2.dp m.sub (SeqAt.canLay_of_shaped hs.1))
        obtain ⟨hj, h1, h2⟩ := List.findIdx?_eq_some_iff_getElem.mp z
        exact ⟨a, u, d, ds, j, ds[j], rfl, rfl, hd, c2.dp m.sub hs.2, hs.1, hs.2, List.getElem?_eq_getElem hj, h1, fun k z' hk hz => by
          obtain ⟨hk2, rfl⟩ := List.getElem?_eq_some_iff.mp hz
          simpa using h2 k hk, q _ G H (Sub.refl _) m (.int _)⟩
    · cases e
  | _ => cases e
theorem d_tindex {o e : Expr} {apos cpos : Pos} (hu : X.A.units + 65 < cLine) (ho : PE X o (tD X.K W f)) (ha : PA X [e] (tDA X.K W fa)) (hbase : attributeBase o "index" X.env (eval o X.env) = eval o X.env := by rfl)
    (hfew : ((backTo cpos (starEach [e] X.env)).all (fun x => !x.1) && (backToKw cpos (keywordEach [] X.env)).all (fun x => x.1.isSome) && decide (([e] : List Expr).length + ([] : List Keyword).length + (if ([] : List Keyword).isEmpty then 0 else 1) < 30)) = true := by rfl)
    (hline : (apos.endLine == cpos.line) = true := by rfl) (hs : starEach [e] X.env = (false, eval e X.env) :: starEach [] X.env := by rfl) :
    PE X (.Call (.Attribute o "index" apos) [e] [] cpos) (tD X.K W (dMs idxTF f fa)) :=
  PE.weak (pe_bmT PySem.F.plainAttrs_tuple PySem.F.slot_tuple_index PySem.F.type_tuple_index (mt_indexT hu) ho ha hbase hfew hline hs rfl) (ms_use md_idxT)
end
end Lf
set_option Elab.async false
set_option linter.all false
set_option maxRecDepth 100000
set_option maxHeartbeats 4000000
namespace Lf
open PySem PySem.Spec PyProof.Rows L2
def oexB (K : PySem.W.Frag) (C : Addr) : Bool := (match K.lookup C with
  | some ⟨.type "type", _, .cls cd, sl⟩ => (match cd.mro, sl.toList with
    | .ref C' :: bm, [_, _, _, _, some (.builtin n), _] => C' == C && (n == "ValueError.__new__" && (!cd.hasDel && (cd.hasDict && PySem.HandSPX.refsVE bm)))
    | _, _ => false)
  | _ => false) && (He.eqO (PySem.W.findIn K (.ref C) "__setattr__") (some (some (.builtin "object.__setattr__"))) && (decide (PySem.W.subIn K (.ref C) (.type "BaseException") = some true) && (decide (PySem.W.typeIn K (.ref C) = some (.type "type")) && PySem.W.keepIn K (.ref C))))
def spInit (K : PySem.W.Frag) (C : Addr) : Sp := fun vs H Q _ => ∃ (a : Addr) (v1 v2 : V), vs = [.ref a, v1, v2] ∧ OexC K C ∧ PySem.W.findIn K (.ref C) "many" = some none ∧ PySem.W.findIn K (.ref C) "most" = some none ∧ H a = some (exo a C none) ∧
  ∀ dx, H dx = none → dx ≠ a → Q .non (upd (upd (upd H dx (exd dx [("many", v1)])) a (exo a C (some dx))) dx (exd dx [("most", v2), ("many", v1)]))
section
variable {P : Program} {w : World} {K : PySem.W.Frag} {mg : Str → Option Value} {base : Heap} {x qual : Str} {params : Arguments} {scope : Scope} {f C : Addr} {fd : FuncData}
theorem t1 {cdv : Value} {A : Around} {outer : List Env} {s : Shared} {H : Hp} {E : XK} {p : Pos} (h : scope.names.lookup ("many" : Str) = some .local) : PE (cxOf CX0 P w K mg base ["self", "many", "most"] qual scope f cdv A outer s H E) (.Name "many" p) (tVar 1) := pe_var rfl (.inl h) (by decide) (by decide)
theorem t2 {cdv : Value} {A : Around} {outer : List Env} {s : Shared} {H : Hp} {E : XK} {p : Pos} (h : scope.names.lookup ("most" : Str) = some .local) : PE (cxOf CX0 P w K mg base ["self", "many", "most"] qual scope f cdv A outer s H E) (.Name "most" p) (tVar 2) := pe_var rfl (.inl h) (by decide) (by decide)
end
structure GrK (K : PySem.W.Frag) (mg : Str → Option Value) : Prop where
  cl : mg "TooGreat" = some (.ref (He.ga K "TooGreat"))
  ox : OexC K (He.ga K "TooGreat")
  n1 : PySem.W.findIn K (.ref (He.ga K "TooGreat")) "many" = some none
  n2 : PySem.W.findIn K (.ref (He.ga K "TooGreat")) "most" = some none
  ini : ∃ (fI : Addr) (fd : FuncData), PySem.W.findIn K (.ref (He.ga K "TooGreat")) "__init__" = some (some (.ref fI)) ∧ PySem.W.typeIn K (.ref fI) = some (.type "function") ∧ Binds K fd ["self", "many", "most"] [] ∧ ∀ (P : Program) (w : World) (base : Heap), FnOk P w K mg base CX0 1 fI fd ["self", "many", "most"] (spInit K (He.ga K "TooGreat"))
@[simp] def sGreat (fa : En → Mem → Ans (List Wv)) : DenS := fun e M => (fa e M).go e fun ws M1 => match dats ws with
  | some [a, b] => .exc ⟨"TooGreat", [("most", b), ("many", a)]⟩ e M1
  | _ => .bad
section
variable {X : Cx} {W : WX} {fa : En → Mem → Ans (List Wv)}
end
def noB (cs : List Str) (K : PySem.W.Frag) : Bool := cs.all fun c => He.eqO (PySem.W.findIn K (.ref (He.ga K c)) "many") (some none) && He.eqO (PySem.W.findIn K (.ref (He.ga K c)) "most") (some none)
theorem noB_ok {cs : List Str} {K : PySem.W.Frag} (h : noB cs K = true) : ∀ c ∈ cs, PySem.W.findIn K (.ref (He.ga K c)) "many" = some none ∧ PySem.W.findIn K (.ref (He.ga K c)) "most" = some none := fun c hc => by
  have := He.ba (List.all_eq_true.mp h c hc)
  exact ⟨He.eqO_ok this.1, He.eqO_ok this.2⟩
theorem _root_.L2.ExcC.xf {K : PySem.W.Frag} {D : Addr} (C : ExcC K D) : XfC K D := ⟨C.hg, C.hk, C.hs, C.hd⟩
theorem lk_many (a b : PyData) : List.lookup ("many" : Str) [(("most" : Str), b), (("many" : Str), a)] = some a := by
  have h : (("many" : Str) == ("most" : Str)) = false := by decide
  rw [List.lookup_cons, h]
  simp
theorem lk_most (a b : PyData) : List.lookup ("most" : Str) [(("most" : Str), b), (("many" : Str), a)] = some b := by simp
@[simp] theorem errAt_f (a : Addr) : errAt a none (some (some (.f a))) = some [] := by simp [errAt]
@[simp] theorem errAt_er (a d : Addr) (fs : List (Str × PyData)) : errAt a (some d) (some (some (.er a d fs))) = some fs := by simp [errAt]
end Lf
set_option Elab.async false
set_option linter.all false
set_option maxRecDepth 100000
set_option maxHeartbeats 4000000
namespace Lf
open PySem PySem.Spec PyProof.Rows L2
section
variable {X : Cx} {W : WX} {f g h : Den} {fa : En → Mem → Ans (List Wv)} {pos : Pos}
@[simp] def lenSetF : PyData → Option Rv
  | .tuple ds => (match intsD ds with
    | some l => if l.length < 64 then some (vI (setI l).length) else none
    | none => none)
  | _ => none
@[simp] def dLstRg2 (f g : Den) : Den := fun e M => (f e M).bind fun x M1 => (g e M1).bind fun y M2 => (asI x M2).bind fun a M3 => (asI y M3).bind fun b M4 => if rgOk a b = true then .val (.own (.list (rgD a b))) M4 else .bad
end
end Lf
set_option Elab.async false
set_option linter.all false
set_option maxRecDepth 100000
set_option maxHeartbeats 4000000
namespace Lf
open PySem PySem.Spec PyProof.Rows L2
section
variable {X : Cx} {W : WX} {f g h : Den} {fa : En → Mem → Ans (List Wv)} {pos : Pos}
def mergeD (acc : List (PyData × PyData)) (ps : List (PyData × PyData)) : List (PyData × PyData) := ps.foldl (fun acc p => putD p.1 p.2 acc) acc
end
end Lf
set_option Elab.async false
set_option linter.all false
set_option maxRecDepth 100000
set_option maxHeartbeats 4000000
namespace Lf
open PySem PySem.Spec PyProof.Rows L2
section
variable {X : Cx} {W : WX} {f g h : Den} {fa : En → Mem → Ans (List Wv)} {pos p : Pos} {x : Str} {F : DenF}
def RelO (K : PySem.W.Frag) (G H : Hp) (i : List Addr) (vs : List V) (ws : List Wv) : Prop := ∃ vs' v, vs = vs' ++ [v] ∧ RpWs K G i vs' ws ∧ ResR K G H i v (.own (.dict []))
end
end Lf
set_option Elab.async false
set_option linter.all false
set_option maxRecDepth 100000
set_option maxHeartbeats 4000000
namespace Lf
open PySem PySem.Spec PyProof.Rows L2
section
variable {X : Cx} {W : WX} {f g h : Den} {fa : En → Mem → Ans (List Wv)} {pos : Pos}
def minDF : PyData → Option Rv
  | .list ds => if sortOk ds = true ∧ ds.all isT = true then (match ds with
    | [] => some (.w (.d .none))
    | y :: ys => some (.w (.d (PySem.W.minD y ys)))) else none
  | _ => none
@[simp] def sPar3 (i j l : Nat) (f g h : Den) : DenS := fun e M => (f e M).go e fun r M1 => (g e (takeR true r M1).2).go e fun q M2 => (h e M2).go e fun t M3 => .next (((e.set i (some (takeR true r M1).1)).set j (some (takeR false q M2).1)).set l (some (takeR false t M3).1)) M3
end
end Lf
set_option Elab.async false
set_option linter.all false
set_option maxRecDepth 100000
set_option maxHeartbeats 4000000
namespace Lf
open PySem PySem.Spec PyProof.Rows L2
section
variable {X : Cx} {W : WX} {f g : Den} {pos : Pos} {a b : Expr}
theorem DGetX.some {H : Hp} {a : Addr} {y v : V} (g : DGetX H a y (some v)) : DGet H a y (some v) := by
  rcases g with g | ⟨h0, g⟩ | ⟨h0, g⟩
  · exact g
  · exfalso
    rcases g with ⟨kvs, k, r, _, e⟩ | ⟨kvs, k, b, r, _, _, e⟩
    · rcases r with r | r <;> simp [upd] at r
    · rcases r with r | r
      · simp [upd] at r
        subst r
        simp [valV] at e
      · simp [upd] at r
  · exfalso
    rcases g with ⟨kvs, k, r, _, e⟩ | ⟨kvs, k, b, r, _, _, e⟩
    · rcases r with r | r
      · simp [upd] at r
        subst r
        simp [valV] at e
      · simp [upd] at r
    · rcases r with r | r <;> simp [upd] at r
@[simp] def ixDR (o k : Wv) (M : Mem) : Ans Rv := match o.rd M, k.rd M with
  | some (.dict ds), some y => if keyOk y ds = true then (match getD y ds with
    | some d => .val (.w (.d d)) M
    | none => .bad) else .bad
  | _, _ => .bad
@[simp] def dIxD (f g : Den) : Den := fun e M => (f e M).bind fun x M1 => (g e M1).bind fun y M2 => ixDR x.fz y.fz M2
end
end Lf
set_option Elab.async false
set_option linter.all false
set_option maxRecDepth 100000
set_option maxHeartbeats 4000000
namespace Lf
open PySem PySem.Spec PyProof.Rows L2
section
variable {X : Cx} {W : WX}
@[simp] def sFgt (j : Nat) : DenS := fun e M => if j < e.length then .next (e.set j none) M else .bad
end
end Lf
set_option Elab.async false
set_option linter.all false
set_option maxRecDepth 100000
set_option maxHeartbeats 4000000
namespace Lf
open PySem PySem.Spec PyProof.Rows L2
@[simp] def dCallF (T : List (Addr × DenF)) (j : Nat) (fa : En → Mem → Ans (List Wv)) : Den := fun e M => match e[j]? with
  | some (some (.f a)) => (match T.lookup a with
    | some F => (fa e M).bind F
    | none => .bad)
  | _ => .bad
section
variable {X : Cx} {W : WX} {fs : DenS} {fa : En → Mem → Ans (List Wv)}
inductive FnX (X : Cx) : List Expr → List Addr → Prop
  | nil : FnX X [] []
  | cons {x : Str} {p : Pos} {f : Addr} {es : List Expr} {as : List Addr} : X.mg x = some (.ref f) → Gl X x → (x == ("__debug__" : Str)) = false → FnX X es as → FnX X (.Name x p :: es) (f :: as)
theorem FnX.pa : ∀ {es : List Expr} {as : List Addr}, FnX X es as → PA X es (fun _ H Q => Q (as.map V.ref) H)
  | _, _, .nil => pa_nil
  | _, _, .cons (f := f) h1 h2 h3 t => pa_cons (pe_glob (v := V.ref f) h2 h1 rfl h3) t.pa
def FnT (X : Cx) (j : Nat) (T : List (Addr × DenF)) : Prop := ∀ p ∈ T, ∃ (j' : Nat) (fd : FuncData) (ps : List Str), j' ≤ j ∧ PySem.W.keepIn X.K (.ref p.1) = true ∧ Binds X.K fd ps [] ∧ FnG X.prog X.w X.K X.mg X.base (L2.CX X.prog X.w) j' p.1 fd ps (spX X.K p.2)
theorem FnT.nil {j : Nat} : FnT X j [] := fun p h => by cases h
theorem FnT.cons {j j' : Nat} {x : Str} {a : Addr} {F : DenF} {T : List (Addr × DenF)} (c : ClX X.prog X.w X.K X.mg X.base j' x F) (hm : X.mg x = some (.ref a)) (hj : j' ≤ j) (t : FnT X j T) : FnT X j ((a, F) :: T) := fun p h => by
  rcases List.mem_cons.mp h with rfl | h
  · obtain ⟨f, fd, ps, g1, g2, g3, g4⟩ := c.ex
    rw [hm] at g1
    cases g1
    exact ⟨j', fd, ps, hj, g2, g3, g4⟩
  · exact t p h
end
end Lf
set_option Elab.async false
set_option linter.all false
set_option maxRecDepth 100000
set_option maxHeartbeats 4000000
namespace Lf
open PySem PySem.Spec PyProof.Rows L2
section
variable {X : Cx} {W : WX} {f g h : Den} {pos : Pos} {a b e : Expr}
def addIF : PyData → PyData → Option Rv
  | .int a, .int b => some (vI (a + b))
  | _, _ => none
end
end Lf
set_option Elab.async false
set_option linter.all false
set_option maxRecDepth 100000
set_option maxHeartbeats 4000000
namespace Lf
open PySem PySem.Spec PyProof.Rows L2
section
variable {K : PySem.W.Frag} {G H : Hp} {i : List Addr} {M : Mem} {a : Addr} {o : HO} {od : Obj} {ds : List (PyData × PyData)}
theorem ObR.mut {c : PyData} (h : ObR K G o c) : Mut (some o) := by cases h <;> trivial
end
section
variable {K : PySem.W.Frag} {G : Hp} {i : List Addr} {a : Addr} {od : Obj}
theorem RpK.at_ : ∀ {kvs : List (Key × V)} {ds : List (PyData × PyData)} {k : Nat} {p : Key × V}, RpK K G kvs ds → kvs[k]? = some p → ∃ d, ds[k]? = some (kD p.1, d) ∧ Rp K G p.2 d
  | _, _, 0, _, .cons h _, e => by cases e; exact ⟨_, rfl, h⟩
  | _, _, k + 1, p, .cons _ t, e => RpK.at_ (k := k) (p := p) t e
  | _, _, _, _, .nil, e => by simp at e
theorem RpT.at_ : ∀ {kvs : List (List Key × V)} {ds : List (PyData × PyData)} {k : Nat} {p : List Key × V}, RpT K G kvs ds → kvs[k]? = some p → ∃ d, ds[k]? = some (.tuple (p.1.map kD), d) ∧ Rp K G p.2 d
  | _, _, 0, _, .cons h _, e => by cases e; exact ⟨_, rfl, h⟩
  | _, _, k + 1, p, .cons _ t, e => RpT.at_ (k := k) (p := p) t e
  | _, _, _, _, .nil, e => by simp at e
end
section
variable {X : Cx} {tg e : Expr} {td : TE} {apos cpos : Pos}
end
@[simp] def itDR (x : Rv) (M : Mem) : Ans Items := match x with
  | .own (.dict ds) => .val (ds.map (·.1), fun _ => true) M
  | .w (.r l) => (match M[l]? with
    | some (.dict ds) => .val (ds.map (·.1), fun _ => true) (M.set l (lk ds))
    | some (.tuple [.dict ds]) => .val (ds.map (·.1), fun _ => true) M
    | _ => .bad)
  | _ => .bad
@[simp] def iDict (f : Den) : En → Mem → Ans Items := fun e M => (f e M).bind itDR
section
variable {X : Cx} {W : WX} {f g h : Den} {a b c : Expr} {pos : Pos} {tg : Expr}
end
end Lf
set_option Elab.async false
set_option linter.all false
set_option maxRecDepth 100000
set_option maxHeartbeats 4000000
namespace Lf
open PySem PySem.Spec PyProof.Rows L2
@[simp] def Wv.rdU (M : Mem) : Wv → Option PyData
  | .d x => some x
  | .r l => M[l]?.map unlk
  | _ => none
section
variable {K : PySem.W.Frag} {G H : Hp} {i : List Addr} {M : Mem} {p : Addr} {y : V} {k : PyData} {ds : List (PyData × PyData)}
end
section
variable {X : Cx} {W : WX} {f g : Den} {pos : Pos} {a b : Expr}
@[simp] def ixUR (o k : Wv) (M : Mem) : Ans Rv := match o.rdU M, k.rd M with
  | some (.dict ds), some y => if keyOk y ds = true then (match getD y ds with
    | some d => .val (.w (.d d)) M
    | none => .bad) else .bad
  | _, _ => .bad
@[simp] def dIxU (f g : Den) : Den := fun e M => (f e M).bind fun x M1 => (g e M1).bind fun y M2 => ixUR x.fz y.fz M2
end
end Lf
set_option Elab.async false
set_option linter.all false
set_option maxRecDepth 100000
set_option maxHeartbeats 4000000
namespace Lf
open PySem PySem.Spec PyProof.Rows L2
section
variable {X : Cx} {pins : List (Addr × Obj)} {σ : L2.St} {H : Hp} {s : Shared} {d : Addr} {o : Obj}
end
section
variable {P : Program} {w : World} {K : PySem.W.Frag} {tg : Expr} {d : Addr} {o : Obj} {es : Array DictEntry} {ep : Nat}
end
section
variable {X : Cx} {tg e : Expr} {td : TE} {apos cpos : Pos}
end
section
variable {K : PySem.W.Frag} {G : Hp} {i : List Addr} {a : Addr} {od : Obj}
def flatPairs (ds : List (PyData × PyData)) : Bool := ds.all fun p => !needF [p.1, p.2]
end
@[simp] def itIR (x : Rv) (M : Mem) : Ans Items := match x with
  | .own (.dict ds) => if flatPairs ds = true ∧ tupKeys ds = true ∧ ds.isEmpty = false then .val (ds.map fun p => pairD p.1 p.2, fun _ => true) M else .bad
  | _ => .bad
@[simp] def iItems (f : Den) : En → Mem → Ans Items := fun e M => (f e M).bind itIR
@[simp] def itVR (x : Rv) (M : Mem) : Ans Items := match x with
  | .own (.dict ds) => if tupKeys ds = true ∧ ds.isEmpty = false then .val (ds.map (·.2), fun _ => true) M else .bad
  | _ => .bad
@[simp] def iVals (f : Den) : En → Mem → Ans Items := fun e M => (f e M).bind itVR
section
variable {X : Cx} {W : WX} {f : Den} {e tg : Expr} {apos cpos : Pos}
end
end Lf
set_option Elab.async false
set_option linter.all false
set_option maxRecDepth 100000
set_option maxHeartbeats 4000000
namespace Lf
open PySem PySem.Spec PyProof.Rows L2
section
variable {X : Cx} {pos : Pos} {k v : Expr} {tk tv : TE}
end
@[simp] def Ans.okB {A B : Type} (a : Ans A) (f : A → Mem → Ans B) : Ans B := match a with
  | .val a M => f a M
  | _ => .bad
def one1 (n : Nat) (k x : Wv) (M : Mem) : Ans Rv := match M[n]?, k, x with
  | some (.dict []), .d key, .d y => if (key1 key).isSome = true then .val (.own (.dict [(key, y)])) (M.take n) else .bad
  | _, _, _ => .bad
@[simp] def dDict1 (f g : Den) : Den := fun e M => (f e (M ++ [.dict []])).okB fun k M1 => (g e M1).okB fun x M2 => one1 M.length k.fz x.fz M2
section
variable {X : Cx} {W : WX} {f g h : Den} {fa : En → Mem → Ans (List Wv)} {pos : Pos} {a b : Expr}
end
section
variable {X : Cx} {W : WX} {f g h : Den} {fa : En → Mem → Ans (List Wv)} {pos : Pos} {a b : Expr}
end
end Lf
set_option Elab.async false
set_option linter.all false
set_option maxRecDepth 100000
set_option maxHeartbeats 4000000
namespace Lf
open PySem PySem.Spec PyProof.Rows L2
section
variable {X : Cx} {W : WX} {f g h : Den} {fa : En → Mem → Ans (List Wv)} {pos : Pos} {td ty : TE}
def updDs (ds more : List (PyData × PyData)) : Option (List (PyData × PyData)) := if more.isEmpty = false ∧ ds.length + more.length ≤ sizeLine ∧ ((flatKeys ds = true ∧ flatKeys more = true) ∨ (tupKeys ds = true ∧ tupKeys more = true ∧ ds.isEmpty = false)) then some (mergeD ds more) else none
def othD (l : Nat) (k : Wv) (M : Mem) : Option PyData := match k with
  | .d x => some x
  | .r l' => if l' = l then none else unlO M[l']?
  | _ => none
def updR (o k : Wv) (M : Mem) : Ans Rv := match o with
  | .r l => (match M[l]?, othD l k M with
    | some (.dict ds), some (.dict more) => (match updDs ds more with
      | some r => .val (.w (.d .none)) (M.set l (.dict r))
      | none => .bad)
    | _, _ => .bad)
  | _ => .bad
@[simp] def dUpd (f g : Den) : Den := fun e M => (f e M).bind fun o M1 => if isRD o.fz M1 = true then (g e M1).bind fun y M2 => updR o.fz y.fz M2 else .bad
end
end Lf
set_option Elab.async false
set_option linter.all false
set_option maxRecDepth 100000
set_option maxHeartbeats 4000000
namespace Lf
open PySem PySem.Spec PyProof.Rows L2
section
variable {X : Cx} {W : WX} {a b : Expr} {f g : Den} {pos : Pos}
end
end Lf
set_option Elab.async false
set_option linter.all false
set_option maxRecDepth 100000
set_option maxHeartbeats 4000000
namespace HT
open PySem PyProof.Rows
section
variable {prog : Program} {w : World} {A : Around} {E : Value → Shared → Prop} {s : Shared}
end
end HT
namespace Lf
open PySem PySem.Spec PyProof.Rows L2
section
variable {X : Cx} {W : WX} {f g h : Den} {pos : Pos}
def rev2F : PyData → Option Rv
  | .tuple ds => some (.w (.d (.tuple (ds.reverse.drop 1))))
  | _ => none
@[simp] def rev2R (x : Wv) (M : Mem) : Ans Rv := match x.rdK M with
  | some d => (match rev2F d with
    | some r => .val r M
    | none => .bad)
  | none => .bad
@[simp] def dRev2 (f : Den) : Den := fun e M => (f e M).bind fun x M1 => rev2R x.fz M1
end
end Lf
set_option Elab.async false
set_option linter.all false
set_option maxRecDepth 100000
set_option maxHeartbeats 4000000
namespace Lf
open PySem PySem.Spec PyProof.Rows L2
section
variable {X : Cx} {W : WX} {f g : Den} {pos : Pos} {a b : Expr}
def eqEF : PyData → PyData → Option Rv
  | .tuple ds, .tuple [] => some (vB ds.isEmpty)
  | _, _ => none
end
end Lf
set_option Elab.async false
set_option linter.all false
set_option maxRecDepth 100000
set_option maxHeartbeats 4000000
namespace Lf
open PySem PySem.Spec PyProof.Rows L2
section
variable {X : Cx} {W : WX} {fa : En → Mem → Ans (List Wv)} {pos : Pos}
end
end Lf
set_option Elab.async false
set_option linter.all false
set_option maxRecDepth 100000
set_option maxHeartbeats 4000000
namespace Lf
open PySem PySem.Spec PyProof.Rows L2
section
variable {X : Cx} {W : WX} {f g : Den} {pos : Pos} {a b : Expr}
end
end Lf
set_option Elab.async false
set_option linter.all false
set_option maxRecDepth 100000
namespace Lw
open PySem PySem.Spec PyProof.Rows L2 Lf
def kcs : List Str := ["NoStack", "NoNumber", "NoPart", "NoLot", "NoRow", "NoOrder", "NoNames", "NoRim", "NoTaking", "NoText", "NoLine", "NoDeed", "TooGreat"]
def kmore : List Str := []
def B_is_whole : DenS := (sRet (dAnd (dIsi ["int"] (dVar 0)) (dNot (dIsi ["bool"] (dVar 0)))))
def F_is_whole : DenF := fnD 1 1 B_is_whole
def B_is_from : DenS := (sRet (dAnd (dCall F_is_whole (aCons (dVar 0) aNil)) (dChain leF leF (dVar 1) (dVar 0) (dVar 2))))
def F_is_from : DenF := fnD 3 3 B_is_from
def B_are_rising : DenS := (sSeq (sIf (tOrD (tNotD (tst (dIsi ["tuple"] (dVar 1)))) (tNotD (tst (dCB (one allF) (aCons (dLc (iSeq (dVar 1)) [2] (tgN 2) tTrue (dCall F_is_from (aCons (dVar 2) (aCons (dC (.int 0)) (aCons (dBin subF (dVar 0) (dC (.int 1))) aNil))))) aNil))))) (sRet (dC (.bool false))) sNext)
    (sRet (dCB (one allF) (aCons (dLc (iZip (aCons (dVar 1) (aCons (dSl (dVar 1) (pYes (dC (.int 1))) pNo) aNil))) [2, 3] (tgT [2, 3]) tTrue (dBin ltF (dVar 2) (dVar 3))) aNil))))
def F_are_rising : DenF := fnD 4 2 B_are_rising
def B_are_faces : DenS := (sSeq (sIf (tOrD (tNotD (tst (dIsi ["tuple"] (dVar 2)))) (tNotD (tst (dChain leF leF (dC (.int 1)) (dCB (one lenF) (aCons (dVar 2) aNil)) (dC (.int 70)))))) (sRet (dC (.bool false))) sNext)
    (sSeq (sIf (tNotD (tst (dCB (one allF) (aCons (dLc (iSeq (dVar 2)) [3] (tgN 3) tTrue (dAnd (dCall F_are_rising (aCons (dVar 0) (aCons (dVar 3) aNil))) (dBin eqF (dCB (one lenF) (aCons (dVar 3) aNil)) (dVar 1)))) aNil)))) (sRet (dC (.bool false))) sNext)
    (sRet (dCB (one allF) (aCons (dLc (iZip (aCons (dVar 2) (aCons (dSl (dVar 2) (pYes (dC (.int 1))) pNo) aNil))) [4, 5] (tgT [4, 5]) tTrue (dBin ltF (dVar 4) (dVar 5))) aNil)))))
def F_are_faces : DenF := fnD 6 3 B_are_faces
def B_is_stack : DenS := (sSeq (sIf (tOrD (tNotD (tst (dIsi ["tuple"] (dVar 0)))) (tst (dBin neF (dCB (one lenF) (aCons (dVar 0) aNil)) (dC (.int 3))))) (sRet (dC (.bool false))) sNext)
    (sSeq (sAsgT (tgT [1, 2, 3]) (dVar 0))
    (sSeq (sIf (tOrD (tNotD (tst (dCall F_is_from (aCons (dVar 1) (aCons (dC (.int 1)) (aCons (dC (.int 8)) aNil)))))) (tNotD (tst (dCall F_is_from (aCons (dVar 2) (aCons (dC (.int 0)) (aCons (dCB (two fun a b => vI (if b < a then b else a)) (aCons (dVar 1) (aCons (dC (.int 4)) aNil))) aNil))))))) (sRet (dC (.bool false))) sNext)
    (sRet (dCall F_are_faces (aCons (dVar 1) (aCons (dVar 2) (aCons (dVar 3) aNil))))))))
def F_is_stack : DenF := fnD 4 1 B_is_stack
def B_must_stack : DenS := (sIf (tNotD (tst (dCall F_is_stack (aCons (dVar 0) aNil)))) (sRaise "NoStack") sNext)
def F_must_stack : DenF := fnD 1 1 B_must_stack
def B_must_names : DenS := (sSeq (sIf (tOrD (tNotD (tst (dIsi ["tuple"] (dVar 1)))) (tNotD (tst (dCB (one allF) (aCons (dLc (iSeq (dVar 1)) [2] (tgN 2) tTrue (dCall F_is_whole (aCons (dVar 2) aNil))) aNil))))) (sRaise "NoNames") sNext)
    (sIf (tst (dBin neF (dCB (one sortF) (aCons (dVar 1) aNil)) (dLstRg (dVar 0)))) (sRaise "NoNames") sNext))
def F_must_names : DenF := fnD 3 2 B_must_names
def B_renamed : DenS := (sRet (dCB (one tupleF) (aCons (dCB (one sortF) (aCons (dLc (iSeq (dVar 0)) [2] (tgN 2) tTrue (dIx (dVar 1) (dVar 2))) aNil)) aNil)))
def F_renamed : DenF := fnD 3 2 B_renamed
def B_named : DenS := (sSeq (sDrop (dCall F_must_stack (aCons (dVar 0) aNil)))
    (sSeq (sDrop (dCall F_must_names (aCons (dIx (dVar 0) (dC (.int 0))) (aCons (dVar 1) aNil))))
    (sRet (dTup (aCons (dIx (dVar 0) (dC (.int 0))) (aCons (dIx (dVar 0) (dC (.int 1))) (aCons (dCB (one tupleF) (aCons (dCB (one sortF) (aCons (dLc (iSeq (dIx (dVar 0) (dC (.int 2)))) [2] (tgN 2) tTrue (dCall F_renamed (aCons (dVar 2) (aCons (dVar 1) aNil)))) aNil)) aNil)) aNil)))))))
def F_named : DenF := fnD 3 2 B_named
def B_named_back : DenS := (sSeq (sDrop (dCall F_must_stack (aCons (dVar 0) aNil)))
    (sSeq (sDrop (dCall F_must_names (aCons (dIx (dVar 0) (dC (.int 0))) (aCons (dVar 1) aNil))))
    (sRet (dCB (one tupleF) (aCons (dLc (iRange (dIx (dVar 0) (dC (.int 0)))) [2] (tgN 2) tTrue (dMs idxTF (dVar 1) (aCons (dVar 2) aNil))) aNil)))))
def F_named_back : DenF := fnD 3 2 B_named_back
def B_law_cell : DenS := (sSeq (sIf (tst (dBin ltF (dVar 1) (dCB (one lenF) (aCons (dVar 0) aNil)))) (sRet (dIx (dVar 0) (dVar 1))) sNext)
    (sRet (dC (.int 0))))
def F_law_cell : DenF := fnD 2 2 B_law_cell
def B_law_pen : DenS := (sRet (dLst (aCons (dVar 0) (aCons (dCB (one intF) (aCons (dBin geF (dVar 0) (dBin powF (dC (.int 10)) (dC (.int 18)))) aNil)) aNil))))
def F_law_pen : DenF := fnD 1 1 B_law_pen
def B_law_draw : DenS := (sSeq (sIf (tst (dBin eqF (dIx (dVar 0) (dC (.int 1))) (dC (.int 1)))) (sSeq (sAsg 2 false (dBin modF (dIx (dVar 0) (dC (.int 0))) (dVar 1)))
    (sSeq (sSet (dBin fdivF (dIx (dVar 0) (dC (.int 0))) (dVar 1)) (dVar 0) (dC (.int 0)))
    (sRet (dVar 2)))) sNext)
    (sSeq (sSet (dBin modF (dBin addF (dBin mulF (dBin modF (dIx (dVar 0) (dC (.int 0))) (dC (.int 2147483629))) (dC (.int 48271))) (dC (.int 11))) (dC (.int 2147483629))) (dVar 0) (dC (.int 0)))
    (sRet (dBin modF (dBin fdivF (dBin modF (dBin addF (dBin mulF (dIx (dVar 0) (dC (.int 0))) (dIx (dVar 0) (dC (.int 0)))) (dBin mulF (dC (.int 40692)) (dIx (dVar 0) (dC (.int 0))))) (dC (.int 2147483647))) (dC (.int 8))) (dVar 1)))))
def F_law_draw : DenF := fnD 3 2 B_law_draw
def F_law_same_v2 : Nat → DenF
  | 0 => fun _ _ => .bad
  | n + 1 => fnD 4 2 (sSeq (sIf (tst (dIsN (dVar 1))) (sRet (dIsN (dVar 0))) sNext)
    (sSeq (sIf (tOrD (tst (dIsi ["tuple"] (dVar 1))) (tst (dIsi ["list"] (dVar 1)))) (sSeq (sIf (tOrD (tst (dBin neF (dIsi ["tuple"] (dVar 0)) (dIsi ["tuple"] (dVar 1)))) (tst (dBin neF (dIsi ["list"] (dVar 0)) (dIsi ["list"] (dVar 1))))) (sRet (dC (.bool false))) sNext)
    (sSeq (sIf (tst (dBin neF (dCB (one lenF) (aCons (dVar 0) aNil)) (dCB (one lenF) (aCons (dVar 1) aNil)))) (sRet (dC (.bool false))) sNext)
    (sSeq (sFor (iZip (aCons (dVar 0) (aCons (dVar 1) aNil))) (tgT [2, 3]) (sIf (tNotD (tst (dCall (F_law_same_v2 n) (aCons (dVar 2) (aCons (dVar 3) aNil))))) (sRet (dC (.bool false))) sNext))
    (sRet (dC (.bool true)))))) sNext)
    (sSeq (sIf (tst (dIsi ["str"] (dVar 1))) (sRet (dAnd (dIsi ["str"] (dVar 0)) (dBin eqF (dVar 0) (dVar 1)))) sNext)
    (sRet (dAnd (dBin eqF (dIsi ["bool"] (dVar 0)) (dIsi ["bool"] (dVar 1))) (dAnd (dIsi ["int"] (dVar 0)) (dBin eqF (dVar 0) (dVar 1))))))))
def words_law_kind_of : List (Str × Str) := [("NoStack", "stack"), ("NoNumber", "number"), ("NoPart", "part"), ("NoLot", "lot"), ("NoRow", "row"), ("NoOrder", "order"), ("NoNames", "names"), ("NoRim", "rim"), ("NoTaking", "taking"), ("NoText", "text"), ("NoLine", "line"), ("NoDeed", "deed")]
def B_law_kind_of (a : Addr) (d : Option Addr) (x : Xn) : DenS := (sSeq (sAsg 1 true (dLst (aCons (dIsE a d (decide (x.cls = "NoStack")) 0) (aCons (dIsE a d (decide (x.cls = "NoNumber")) 0) (aCons (dIsE a d (decide (x.cls = "NoPart")) 0) (aCons (dIsE a d (decide (x.cls = "NoLot")) 0) aNil))))))
    (sSeq (sAsg 1 true (dBin addF (dVar 1) (dLst (aCons (dIsE a d (decide (x.cls = "NoRow")) 0) (aCons (dIsE a d (decide (x.cls = "NoOrder")) 0) (aCons (dIsE a d (decide (x.cls = "NoNames")) 0) (aCons (dIsE a d (decide (x.cls = "NoRim")) 0) aNil)))))))
    (sSeq (sAsg 1 true (dBin addF (dVar 1) (dLst (aCons (dIsE a d (decide (x.cls = "NoTaking")) 0) (aCons (dIsE a d (decide (x.cls = "NoText")) 0) (aCons (dIsE a d (decide (x.cls = "NoLine")) 0) (aCons (dIsE a d (decide (x.cls = "NoDeed")) 0) aNil)))))))
    (sSeq (sDrop (dMt appF (dVar 1) (aCons (dIsE a d (decide (x.cls = "TooGreat")) 0) aNil)))
    (sSeq (sIf (tOrD (tNotD (tst (dIsE a d true 0))) (tst (dBin neF (dMr cntF (dVar 1) (aCons (dC (.bool true)) aNil)) (dC (.int 1))))) (sRet (dC (.str "other"))) sNext)
    (sSeq (sIf (tst (dIx (dVar 1) (dC (.int 12)))) (sRet (dLst (aCons (dC (.str "great")) (aCons (dXf a d "many" 0) (aCons (dXf a d "most" 0) aNil))))) sNext)
    (sSeq (sAsg 2 false (dLst (aCons (dC (.str "stack")) (aCons (dC (.str "number")) (aCons (dC (.str "part")) (aCons (dC (.str "lot")) (aCons (dC (.str "row")) (aCons (dC (.str "order")) (aCons (dC (.str "names")) (aCons (dC (.str "rim")) (aCons (dC (.str "taking")) (aCons (dC (.str "text")) (aCons (dC (.str "line")) (aCons (dC (.str "deed")) aNil))))))))))))))
    (sRet (dIx (dVar 2) (dMr idxF (dVar 1) (aCons (dC (.bool true)) aNil)))))))))))
def F_law_kind_of (a : Addr) (d : Option Addr) (x : Xn) : DenF := fnD 3 1 (B_law_kind_of a d x)
def B_law_every : DenS := (sSeq (sAsg 2 false (dLst (aCons (dTup aNil) aNil)))
    (sSeq (sFor (iRange (dVar 0)) (tgN 3) (sAsg 2 false (dBin addF (dVar 2) (dLc (iSeq (dVar 2)) [4] (tgN 4) tTrue (dBin addF (dVar 4) (dTup (aCons (dVar 3) aNil)))))))
    (sRet (dCB (one sortF) (aCons (dLc (iSeq (dVar 2)) [4] (tgN 4) (tst (dBin eqF (dCB (one lenF) (aCons (dVar 4) aNil)) (dVar 1))) (dVar 4)) aNil)))))
def F_law_every : DenF := fnD 5 2 B_law_every
def B_law_size : DenS := (sSeq (sAsg 1 false (dIx (dLst (aCons (dC (.int 2)) (aCons (dC (.int 3)) (aCons (dC (.int 2)) (aCons (dC (.int 3)) (aCons (dC (.int 1)) (aCons (dC (.int 4)) (aCons (dC (.int 0)) (aCons (dC (.int 2)) aNil))))))))) (dCall F_law_draw (aCons (dVar 0) (aCons (dC (.int 8)) aNil)))))
    (sRet (dTup (aCons (dBin addF (dCB (two fun a b => vI (if b > a then b else a)) (aCons (dC (.int 1)) (aCons (dVar 1) aNil))) (dCall F_law_draw (aCons (dVar 0) (aCons (dBin subF (dC (.int 9)) (dCB (two fun a b => vI (if b > a then b else a)) (aCons (dC (.int 1)) (aCons (dVar 1) aNil)))) aNil)))) (aCons (dVar 1) aNil)))))
def F_law_size : DenF := fnD 2 1 B_law_size
def B_law_made : DenS := (sRet (dTup (aCons (dVar 0) (aCons (dVar 1) (aCons (dCB (one tupleF) (aCons (dCB (one sortF) (aCons (dVar 2) aNil)) aNil)) aNil)))))
def F_law_made : DenF := fnD 3 3 B_law_made
def B_law_drawn : DenS := (sSeq (sAsg 4 true (dCall F_law_every (aCons (dVar 1) (aCons (dVar 2) aNil))))
    (sSeq (sAsg 5 false (dBin addF (dC (.int 1)) (dCall F_law_draw (aCons (dVar 0) (aCons (dCB (two fun a b => vI (if b < a then b else a)) (aCons (dVar 3) (aCons (dCB (one lenF) (aCons (dVar 4) aNil)) aNil))) aNil)))))
    (sRet (dLc (iRange (dVar 5)) [6] (tgN 6) tTrue (dMt popF (dVar 4) (aCons (dCall F_law_draw (aCons (dVar 0) (aCons (dCB (one lenF) (aCons (dVar 4) aNil)) aNil))) aNil))))))
def F_law_drawn : DenF := fnD 7 4 B_law_drawn
def B_law_common : DenS := (sRet (dLc (iSeq (dVar 0)) [2] (tgN 2) (tst (dBin (inXF false) (dVar 2) (dVar 1))) (dVar 2)))
def F_law_common : DenF := fnD 3 2 B_law_common
def B_law_may_v2 : DenS := (sSeq (sAsg 2 false (dLc (iSeq (dVar 0)) [5] (tgN 5) (tst (dBin eqF (dCB (one lenF) (aCons (dCall F_law_common (aCons (dVar 1) (aCons (dVar 5) aNil))) aNil)) (dBin subF (dCB (one lenF) (aCons (dVar 1) aNil)) (dC (.int 1))))) (dVar 5)))
    (sSeq (sFor (iSeq (dVar 0)) (tgN 3) (sSeq (sAsg 4 false (dCall F_law_common (aCons (dVar 1) (aCons (dVar 3) aNil))))
    (sIf (tst (dBin eqF (dLc (iSeq (dVar 2)) [5] (tgN 5) (tst (dBin eqF (dCB (one lenF) (aCons (dCall F_law_common (aCons (dVar 4) (aCons (dVar 5) aNil))) aNil)) (dCB (one lenF) (aCons (dVar 4) aNil)))) (dVar 5)) (dLst aNil))) (sRet (dC (.bool false))) sNext)))
    (sRet (dC (.bool true)))))
def F_law_may_v2 : DenF := fnD 6 2 B_law_may_v2
def B_law_grown : DenS := (sSeq (sAsg 4 true (dCall F_law_every (aCons (dVar 1) (aCons (dVar 2) aNil))))
    (sSeq (sAsg 5 false (dBin addF (dC (.int 1)) (dCall F_law_draw (aCons (dVar 0) (aCons (dVar 3) aNil)))))
    (sSeq (sAsg 6 true (dLst (aCons (dMt popF (dVar 4) (aCons (dCall F_law_draw (aCons (dVar 0) (aCons (dCB (one lenF) (aCons (dVar 4) aNil)) aNil))) aNil)) aNil)))
    (sSeq (sFor (iRange (dBin mulF (dC (.int 3)) (dVar 3))) (tgN 7) (sIf (tAndD (tst (dBin neF (dVar 4) (dLst aNil))) (tst (dBin ltF (dCB (one lenF) (aCons (dVar 6) aNil)) (dVar 5)))) (sSeq (sAsg 8 false (dMt popF (dVar 4) (aCons (dCall F_law_draw (aCons (dVar 0) (aCons (dCB (one lenF) (aCons (dVar 4) aNil)) aNil))) aNil)))
    (sIf (tst (dCall F_law_may_v2 (aCons (dVar 6) (aCons (dVar 8) aNil)))) (sDrop (dMt appF (dVar 6) (aCons (dVar 8) aNil))) sNext)) sNext))
    (sRet (dVar 6))))))
def F_law_grown : DenF := fnD 9 4 B_law_grown
def B_law_pairs : DenS := (sSeq (sAsg 1 false (dLst (aCons (dTup aNil) aNil)))
    (sSeq (sFor (iRange (dVar 0)) (tgN 2) (sAsg 1 false (dBin addF (dLc (iSeq (dVar 1)) [3] (tgN 3) tTrue (dBin addF (dVar 3) (dTup (aCons (dBin mulF (dC (.int 2)) (dVar 2)) aNil)))) (dLc (iSeq (dVar 1)) [3] (tgN 3) tTrue (dBin addF (dVar 3) (dTup (aCons (dBin addF (dBin mulF (dC (.int 2)) (dVar 2)) (dC (.int 1))) aNil)))))))
    (sRet (dCB (one sortF) (aCons (dVar 1) aNil)))))
def F_law_pairs : DenF := fnD 4 1 B_law_pairs
def B_law_kindly : DenS := (sSeq (sPar 2 3 false false (dCall F_law_draw (aCons (dVar 0) (aCons (dC (.int 4)) aNil))) (dCall F_law_draw (aCons (dVar 0) (aCons (dC (.int 6)) aNil))))
    (sSeq (sIf (tst (dBin eqF (dVar 2) (dC (.int 0)))) (sSeq (sAsgT (tgT [4, 5]) (dIx (dLst (aCons (dTup (aCons (dC (.int 4)) (aCons (dC (.int 2)) aNil))) (aCons (dTup (aCons (dC (.int 4)) (aCons (dC (.int 3)) aNil))) (aCons (dTup (aCons (dC (.int 5)) (aCons (dC (.int 2)) aNil))) (aCons (dTup (aCons (dC (.int 5)) (aCons (dC (.int 4)) aNil))) (aCons (dTup (aCons (dC (.int 5)) (aCons (dC (.int 3)) aNil))) (aCons (dTup (aCons (dC (.int 3)) (aCons (dC (.int 2)) aNil))) aNil))))))) (dVar 3)))
    (sRet (dCall F_law_made (aCons (dVar 4) (aCons (dVar 5) (aCons (dSl (dCall F_law_every (aCons (dVar 4) (aCons (dVar 5) aNil))) pNo (pYes (dVar 1))) aNil)))))) sNext)
    (sSeq (sIf (tst (dBin eqF (dVar 2) (dC (.int 1)))) (sRet (dCall F_law_made (aCons (dBin addF (dC (.int 2)) (dBin mulF (dC (.int 2)) (dBin modF (dVar 3) (dC (.int 4))))) (aCons (dBin addF (dC (.int 1)) (dBin modF (dVar 3) (dC (.int 4)))) (aCons (dSl (dCall F_law_pairs (aCons (dBin addF (dC (.int 1)) (dBin modF (dVar 3) (dC (.int 4)))) aNil)) pNo (pYes (dVar 1))) aNil))))) sNext)
    (sSeq (sAsg 6 false (dLc (iRange (dBin addF (dC (.int 2)) (dVar 3))) [7] (tgN 7) tTrue (dTup (aCons (dVar 7) (aCons (dBin addF (dVar 7) (dC (.int 1))) aNil)))))
    (sSeq (sIf (tst (dBin eqF (dVar 2) (dC (.int 2)))) (sAsg 6 false (dCB (one sortF) (aCons (dBin addF (dVar 6) (dLst (aCons (dTup (aCons (dC (.int 0)) (aCons (dBin addF (dC (.int 2)) (dVar 3)) aNil))) aNil))) aNil))) sNext)
    (sRet (dCall F_law_made (aCons (dBin addF (dC (.int 3)) (dVar 3)) (aCons (dC (.int 2)) (aCons (dSl (dVar 6) pNo (pYes (dVar 1))) aNil))))))))))
def F_law_kindly : DenF := fnD 8 2 B_law_kindly
def B_law_stack_v2 : DenS := (sSeq (sAsg 2 false (dCall F_law_draw (aCons (dVar 0) (aCons (dC (.int 5)) aNil))))
    (sSeq (sAsgT (tgT [3, 4]) (dCall F_law_size (aCons (dVar 0) aNil)))
    (sSeq (sIf (tst (dBin eqF (dVar 2) (dC (.int 0)))) (sRet (dCall F_law_kindly (aCons (dVar 0) (aCons (dVar 1) aNil)))) sNext)
    (sSeq (sIf (tst (dBin ltF (dVar 2) (dC (.int 3)))) (sRet (dCall F_law_made (aCons (dVar 3) (aCons (dVar 4) (aCons (dCall F_law_drawn (aCons (dVar 0) (aCons (dVar 3) (aCons (dVar 4) (aCons (dVar 1) aNil))))) aNil))))) sNext)
    (sRet (dCall F_law_made (aCons (dVar 3) (aCons (dVar 4) (aCons (dCall F_law_grown (aCons (dVar 0) (aCons (dVar 3) (aCons (dVar 4) (aCons (dVar 1) aNil))))) aNil)))))))))
def F_law_stack_v2 : DenF := fnD 5 2 B_law_stack_v2
def B_law_no_stack : DenS := (sSeq (sAsgT (tgT [2, 3, 4]) (dVar 1))
    (sSeq (sAsgT (tgT [5, 6, 7]) (dTup (aCons (dCall F_law_draw (aCons (dVar 0) (aCons (dC (.int 20)) aNil))) (aCons (dCall F_law_draw (aCons (dVar 0) (aCons (dCB (one lenF) (aCons (dVar 4) aNil)) aNil))) (aCons (dCall F_law_draw (aCons (dVar 0) (aCons (dCB (two fun a b => vI (if b > a then b else a)) (aCons (dC (.int 1)) (aCons (dVar 3) aNil))) aNil))) aNil)))))
    (sSeq (sAsg 8 false (dIx (dLst (aCons (dC .none) (aCons (dC (.bool true)) (aCons (dNeg (dC (.int 1))) (aCons (dVar 2) (aCons (dC (.str "0")) (aCons (dTup (aCons (dC (.int 0)) aNil)) (aCons (dBin powF (dC (.int 10)) (dC (.int 30))) aNil)))))))) (dCall F_law_draw (aCons (dVar 0) (aCons (dC (.int 7)) aNil)))))
    (sSeq (sAsg 9 false (dIx (dVar 4) (dVar 6)))
    (sSeq (sPar 10 11 false false (dSl (dVar 4) pNo (pYes (dVar 6))) (dSl (dVar 4) (pYes (dBin addF (dVar 6) (dC (.int 1)))) pNo))
    (sSeq (sAsg 12 false (dBin addF (dBin addF (dSl (dVar 9) pNo (pYes (dVar 7))) (dTup (aCons (dVar 8) aNil))) (dSl (dVar 9) (pYes (dBin addF (dVar 7) (dC (.int 1)))) pNo)))
    (sSeq (sAsg 13 false (dLst (aCons (dTup (aCons (dVar 2) (aCons (dVar 3) (aCons (dBin addF (dBin addF (dVar 10) (dTup (aCons (dVar 12) aNil))) (dVar 11)) aNil)))) (aCons (dTup (aCons (dVar 2) (aCons (dVar 3) (aCons (dBin addF (dBin addF (dVar 10) (dTup (aCons (dCB (one listF) (aCons (dVar 9) aNil)) aNil))) (dVar 11)) aNil)))) aNil))))
    (sSeq (sAsg 13 false (dBin addF (dVar 13) (dLst (aCons (dTup (aCons (dVar 2) (aCons (dVar 3) (aCons (dBin addF (dBin addF (dVar 10) (dTup (aCons (dVar 9) (aCons (dVar 9) aNil)))) (dVar 11)) aNil)))) (aCons (dTup (aCons (dVar 2) (aCons (dVar 3) (aCons (dBin addF (dVar 4) (dSl (dVar 4) pNo (pYes (dC (.int 1))))) aNil)))) (aCons (dTup (aCons (dVar 2) (aCons (dVar 3) (aCons (dCB (one listF) (aCons (dVar 4) aNil)) aNil)))) aNil))))))
    (sSeq (sAsg 13 false (dBin addF (dVar 13) (dLst (aCons (dTup (aCons (dVar 2) (aCons (dVar 3) (aCons (dTup aNil) aNil)))) (aCons (dTup (aCons (dC (.int 0)) (aCons (dVar 3) (aCons (dVar 4) aNil)))) (aCons (dTup (aCons (dC (.int 9)) (aCons (dVar 3) (aCons (dVar 4) aNil)))) aNil))))))
    (sSeq (sAsg 13 false (dBin addF (dVar 13) (dLst (aCons (dTup (aCons (dVar 2) (aCons (dC (.int 5)) (aCons (dVar 4) aNil)))) (aCons (dTup (aCons (dVar 2) (aCons (dBin addF (dVar 3) (dC (.int 1))) (aCons (dVar 4) aNil)))) (aCons (dTup (aCons (dVar 2) (aCons (dBin subF (dVar 3) (dC (.int 1))) (aCons (dVar 4) aNil)))) (aCons (dTup (aCons (dC (.bool true)) (aCons (dVar 3) (aCons (dVar 4) aNil)))) (aCons (dTup (aCons (dVar 2) (aCons (dC .none) (aCons (dVar 4) aNil)))) aNil))))))))
    (sRet (dIx (dBin addF (dVar 13) (dLst (aCons (dLst (aCons (dVar 2) (aCons (dVar 3) (aCons (dVar 4) aNil)))) (aCons (dTup (aCons (dVar 2) (aCons (dVar 3) aNil))) (aCons (dC .none) (aCons (dTup (aCons (dVar 2) (aCons (dVar 3) (aCons (dVar 4) (aCons (dC (.int 0)) aNil))))) (aCons (dC (.int 7)) (aCons (dC (.str "3 2: 01 02 12")) (aCons dDict aNil))))))))) (dVar 5)))))))))))))
def F_law_no_stack : DenF := fnD 14 2 B_law_no_stack
def B_law_names : DenS := (sSeq (sAsg 2 true (dLstRg (dVar 1)))
    (sRet (dCB (one tupleF) (aCons (dLc (iRange (dVar 1)) [3] (tgN 3) tTrue (dMt popF (dVar 2) (aCons (dCall F_law_draw (aCons (dVar 0) (aCons (dCB (one lenF) (aCons (dVar 2) aNil)) aNil))) aNil))) aNil))))
def F_law_names : DenF := fnD 4 2 B_law_names
def B_law_no_names : DenS := (sSeq (sPar 2 3 false false (dCall F_law_draw (aCons (dVar 0) (aCons (dC (.int 12)) aNil))) (dCall F_law_draw (aCons (dVar 0) (aCons (dCB (one lenF) (aCons (dVar 1) aNil)) aNil))))
    (sSeq (sAsg 4 false (dIx (dLst (aCons (dCB (one lenF) (aCons (dVar 1) aNil)) (aCons (dNeg (dC (.int 1))) (aCons (dC .none) (aCons (dC (.bool true)) (aCons (dC (.str "0")) (aCons (dTup (aCons (dC (.int 0)) aNil)) (aCons (dBin powF (dC (.int 10)) (dC (.int 30))) aNil)))))))) (dCall F_law_draw (aCons (dVar 0) (aCons (dC (.int 7)) aNil)))))
    (sSeq (sAsg 5 false (dLst (aCons (dBin addF (dBin addF (dSl (dVar 1) pNo (pYes (dVar 3))) (dTup (aCons (dVar 4) aNil))) (dSl (dVar 1) (pYes (dBin addF (dVar 3) (dC (.int 1)))) pNo)) (aCons (dSl (dVar 1) pNo (pYes (dNeg (dC (.int 1))))) (aCons (dBin addF (dVar 1) (dTup (aCons (dCB (one lenF) (aCons (dVar 1) aNil)) aNil))) (aCons (dCB (one listF) (aCons (dVar 1) aNil)) (aCons (dBin addF (dVar 1) (dSl (dVar 1) pNo (pYes (dC (.int 1))))) aNil)))))))
    (sSeq (sAsg 6 false (dIf (tst (dBin gtF (dCB (one lenF) (aCons (dVar 1) aNil)) (dC (.int 1)))) (dBin addF (dSl (dVar 1) (pYes (dNeg (dC (.int 1)))) pNo) (dSl (dVar 1) (pYes (dC (.int 1))) pNo)) (dTup aNil)))
    (sSeq (sAsg 5 false (dBin addF (dVar 5) (dLst (aCons (dC .none) (aCons (dC (.int 0)) (aCons dDict (aCons (dC (.str "01")) (aCons (dVar 6) (aCons (dTup (aCons (dVar 1) aNil)) (aCons (dLst (aCons (dVar 1) aNil)) aNil))))))))))
    (sRet (dIx (dVar 5) (dVar 2))))))))
def F_law_no_names : DenF := fnD 7 2 B_law_no_names
def B_law_came_v21 : DenS := (sTryK 3 (kindL words_law_kind_of) (sRet (dTab [F_named,F_named_back] (dVar 0) (aCons (dVar 1) (aCons (dVar 2) aNil)))))
def F_law_came_v21 : DenF := fnD 4 3 B_law_came_v21
def B_law : DenS := (sSeq (sFor (iSeq (dBin addF (dLst (aCons (dCall F_law_cell (aCons (dVar 0) (aCons (dC (.int 0)) aNil))) aNil)) (dSl (dVar 0) (pYes (dC (.int 1))) (pYes (dC (.int 6)))))) (tgN 1) (sSeq (sAsg 2 true (dCall F_law_pen (aCons (dVar 1) aNil)))
    (sSeq (sAsg 3 false (dCall F_law_stack_v2 (aCons (dVar 2) (aCons (dC (.int 30)) aNil))))
    (sSeq (sAsg 4 false (dCall F_law_names (aCons (dVar 2) (aCons (dIx (dVar 3) (dC (.int 0))) aNil))))
    (sSeq (sAsg 5 false (dLc (iSeq (dIx (dVar 3) (dC (.int 2)))) [13] (tgN 13) tTrue (dCB (one tupleF) (aCons (dCB (one sortF) (aCons (dLc (iSeq (dVar 13)) [14] (tgN 14) tTrue (dIx (dVar 4) (dVar 14))) aNil)) aNil))))
    (sSeq (sAsg 6 false (dLst (aCons (dCall F_law_made (aCons (dIx (dVar 3) (dC (.int 0))) (aCons (dIx (dVar 3) (dC (.int 1))) (aCons (dVar 5) aNil)))) (aCons (dCB (one tupleF) (aCons (dLc (iRange (dIx (dVar 3) (dC (.int 0)))) [14] (tgN 14) tTrue (dMs idxTF (dVar 4) (aCons (dVar 14) aNil))) aNil)) aNil))))
    (sSeq (sAsgT (tgT [7, 8, 9]) (dTup (aCons (dCall F_law_no_stack (aCons (dVar 2) (aCons (dVar 3) aNil))) (aCons (dCall F_law_no_names (aCons (dVar 2) (aCons (dVar 4) aNil))) (aCons (dCB (one repF) (aCons (dLst (aCons (dVar 3) (aCons (dVar 4) aNil))) aNil)) aNil)))))
    (sFor (iRange (dC (.int 2))) (tgN 10) (sSeq (sFor (iRange (dC (.int 2))) (tgN 11) (sIf (tOrD (tNotD (tst (dCall (F_law_same_v2 8) (aCons (dCall F_law_came_v21 (aCons (dVar 10) (aCons (dVar 3) (aCons (dVar 4) aNil)))) (aCons (dIx (dVar 6) (dVar 10)) aNil))))) (tst (dBin neF (dCB (one repF) (aCons (dLst (aCons (dVar 3) (aCons (dVar 4) aNil))) aNil)) (dVar 9)))) (sRet (dC (.bool false))) sNext))
    (sSeq (sAsg 12 true (dLst (aCons (dVar 8) (aCons (dBin addF (dSl (dVar 4) (pYes (dC (.int 1))) pNo) (dTup (aCons (dLst (aCons (dC (.int 0)) aNil)) aNil))) (aCons (dBin addF (dSl (dVar 4) (pYes (dC (.int 1))) pNo) (dTup (aCons dDict aNil))) aNil)))))
    (sSeq (sDrop (dMt appF (dVar 12) (aCons (dCB (one tupleF) (aCons (dLc (iSeq (dVar 4)) [15] (tgN 15) tTrue (dIx (dLst (aCons (dVar 15) (aCons (dC (.bool false)) aNil))) (dCB (one intF) (aCons (dBin eqF (dVar 15) (dC (.int 0))) aNil)))) aNil)) aNil)))
    (sSeq (sIf (tst (dBin neF (dLc (iSeq (dVar 12)) [16] (tgN 16) tTrue (dCall F_law_came_v21 (aCons (dVar 10) (aCons (dVar 3) (aCons (dVar 16) aNil))))) (dBin mulF (dLst (aCons (dC (.str "names")) aNil)) (dC (.int 4))))) (sRet (dC (.bool false))) sNext)
    (sIf (tst (dBin neF (dLst (aCons (dCall F_law_came_v21 (aCons (dVar 10) (aCons (dVar 7) (aCons (dVar 4) aNil)))) (aCons (dCall F_law_came_v21 (aCons (dVar 10) (aCons (dVar 7) (aCons (dVar 8) aNil)))) aNil))) (dBin mulF (dLst (aCons (dC (.str "stack")) aNil)) (dC (.int 2))))) (sRet (dC (.bool false))) sNext)))))))))))))
    (sRet (dC (.bool true))))
def F_law : DenF := fnD 17 1 B_law
end Lw
set_option Elab.async false
set_option linter.all false
set_option maxRecDepth 100000
set_option maxHeartbeats 0
namespace Lw
open PySem PySem.Spec PyProof.Rows L2 Lf
theorem kw_law_kind_of : ∀ (x : Xn) (r : Rv), kindW words_law_kind_of x = some r → x.cls ∈ kcs ∧ ∀ (a : Addr) (d : Option Addr) (M : Mem), errOk x d → F_law_kind_of a d x [errW a d x] M = .val r M := by
  intro x r h
  obtain ⟨c, fs⟩ := x
  unfold kindW wordOf at h
  cases fs with
  | cons f fs => simp at h
  | nil =>
    simp only [List.isEmpty_nil, if_true] at h
    obtain ⟨z, hz, rfl⟩ := Option.map_eq_some_iff.mp h
    have hm : c ∈ kcs ∧ ∀ (a : Addr) (M : Mem), F_law_kind_of a none ⟨c, []⟩ [.f a] M = .val (.w (.d (.str z))) M := by
      simp only [words_law_kind_of, List.lookup] at hz
      repeat' (split at hz)
      all_goals first
        | (cases hz; done)
        | (rename_i hc
           have hc := eq_of_beq hc
           subst hc
           cases hz
           refine ⟨by decide, fun a M => fn_eval rfl ?_⟩
           simp (decide := true) [B_law_kind_of, errW, lk_many, lk_most, unlO, isLk, lstR, sizeLine, endR, retR, PyData.canLayAll0, PyData.canLay0, SeqAt.shaped, PyData.depth, PyData.depthAll, List.findIdx?, List.findIdx?.go, atI, ixN])
    refine ⟨hm.1, fun a d M he => ?_⟩
    rcases he with ⟨_, rfl⟩ | ⟨he, _⟩
    · exact hm.2 a M
    · exact absurd rfl he
theorem kd_law_kind_of : ∀ (x : Xn) (r : Rv), kindL words_law_kind_of x = some r → x.cls ∈ kcs ∧ ∀ (a : Addr) (d : Option Addr) (M : Mem), errOk x d → F_law_kind_of a d x [errW a d x] M = .val r M := by
  intro x r h
  unfold kindL at h
  cases hg : greatOf x with
  | none => rw [hg] at h; exact kw_law_kind_of x r h
  | some ab =>
    rw [hg] at h
    obtain ⟨c, fs⟩ := x
    unfold greatOf at hg
    split at hg
    · rename_i f b g a hfs
      split at hg
      · rename_i hc
        obtain ⟨h1, rfl, rfl⟩ := hc
        cases hg
        cases h
        dsimp only at h1 hfs
        subst h1 hfs
        refine ⟨(by decide : ("TooGreat" : Str) ∈ kcs), fun a d M he => ?_⟩
        rcases he with ⟨he, _⟩ | ⟨_, dd, rfl⟩
        · cases he
        · refine fn_eval rfl ?_
          simp (decide := true) [B_law_kind_of, errW, lk_many, lk_most, unlO, isLk, lstR, sizeLine, endR, retR, PyData.canLayAll0, PyData.canLay0, SeqAt.shaped, PyData.depth, PyData.depthAll, List.findIdx?, List.findIdx?.go, atI, ixN]
      · cases hg
    · cases hg
end Lw
set_option Elab.async false
set_option linter.all false
set_option maxRecDepth 100000
set_option maxHeartbeats 0
namespace Hd
open PySem PySem.Spec PyProof.Rows L2
def top (i : Nat) : Stmt := PySem.Challenge.pw_layfaces_k80_other_names.main.body.getD i (.Pass ⟨0, 0, 0, 0⟩)
abbrev s_is_whole : Stmt := top 19
abbrev s_is_from : Stmt := top 20
abbrev s_are_rising : Stmt := top 21
abbrev s_are_faces : Stmt := top 22
abbrev s_is_stack : Stmt := top 23
abbrev s_must_stack : Stmt := top 24
abbrev s_must_names : Stmt := top 26
abbrev s_renamed : Stmt := top 27
abbrev s_named : Stmt := top 29
abbrev s_named_back : Stmt := top 30
abbrev s_law_cell : Stmt := top 32
abbrev s_law_pen : Stmt := top 33
abbrev s_law_draw : Stmt := top 34
abbrev s_law_same_v2 : Stmt := top 35
abbrev s_law_kind_of : Stmt := top 36
abbrev s_law_every : Stmt := top 37
abbrev s_law_size : Stmt := top 38
abbrev s_law_made : Stmt := top 39
abbrev s_law_drawn : Stmt := top 40
abbrev s_law_common : Stmt := top 41
abbrev s_law_may_v2 : Stmt := top 42
abbrev s_law_grown : Stmt := top 43
abbrev s_law_pairs : Stmt := top 44
abbrev s_law_kindly : Stmt := top 45
abbrev s_law_stack_v2 : Stmt := top 46
abbrev s_law_no_stack : Stmt := top 47
abbrev s_law_names : Stmt := top 48
abbrev s_law_no_names : Stmt := top 49
abbrev s_law_came_v21 : Stmt := top 50
abbrev s_law : Stmt := top 51
def fn : List He.DefD := [⟨("is_whole", none), "is_whole", "is_whole", defArgs s_is_whole, defBody s_is_whole, defScope s_is_whole, [], []⟩, ⟨("is_from", none), "is_from", "is_from", defArgs s_is_from, defBody s_is_from, defScope s_is_from, [], []⟩, ⟨("are_rising", none), "are_rising", "are_rising", defArgs s_are_rising, defBody s_are_rising, defScope s_are_rising, [], []⟩, ⟨("are_faces", none), "are_faces", "are_faces", defArgs s_are_faces, defBody s_are_faces, defScope s_are_faces, [], []⟩, ⟨("is_stack", none), "is_stack", "is_stack", defArgs s_is_stack, defBody s_is_stack, defScope s_is_stack, [], []⟩, ⟨("must_stack", none), "must_stack", "must_stack", defArgs s_must_stack, defBody s_must_stack, defScope s_must_stack, [], []⟩, ⟨("must_names", none), "must_names", "must_names", defArgs s_must_names, defBody s_must_names, defScope s_must_names, [], []⟩, ⟨("renamed", none), "renamed", "renamed", defArgs s_renamed, defBody s_renamed, defScope s_renamed, [], []⟩, ⟨("named", none), "named", "named", defArgs s_named, defBody s_named, defScope s_named, [], []⟩, ⟨("named_back", none), "named_back", "named_back", defArgs s_named_back, defBody s_named_back, defScope s_named_back, [], []⟩, ⟨("_law_cell", none), "_law_cell", "_law_cell", defArgs s_law_cell, defBody s_law_cell, defScope s_law_cell, [], []⟩, ⟨("_law_pen", none), "_law_pen", "_law_pen", defArgs s_law_pen, defBody s_law_pen, defScope s_law_pen, [], []⟩, ⟨("_law_draw", none), "_law_draw", "_law_draw", defArgs s_law_draw, defBody s_law_draw, defScope s_law_draw, [], []⟩, ⟨("_law_same", none), "_law_same", "_law_same", defArgs s_law_same_v2, defBody s_law_same_v2, defScope s_law_same_v2, [], []⟩, ⟨("_law_kind_of", none), "_law_kind_of", "_law_kind_of", defArgs s_law_kind_of, defBody s_law_kind_of, defScope s_law_kind_of, [], []⟩, ⟨("_law_every", none), "_law_every", "_law_every", defArgs s_law_every, defBody s_law_every, defScope s_law_every, [], []⟩, ⟨("_law_size", none), "_law_size", "_law_size", defArgs s_law_size, defBody s_law_size, defScope s_law_size, [], []⟩, ⟨("_law_made", none), "_law_made", "_law_made", defArgs s_law_made, defBody s_law_made, defScope s_law_made, [], []⟩, ⟨("_law_drawn", none), "_law_drawn", "_law_drawn", defArgs s_law_drawn, defBody s_law_drawn, defScope s_law_drawn, [], []⟩, ⟨("_law_common", none), "_law_common", "_law_common", defArgs s_law_common, defBody s_law_common, defScope s_law_common, [], []⟩, ⟨("_law_may", none), "_law_may", "_law_may", defArgs s_law_may_v2, defBody s_law_may_v2, defScope s_law_may_v2, [], []⟩, ⟨("_law_grown", none), "_law_grown", "_law_grown", defArgs s_law_grown, defBody s_law_grown, defScope s_law_grown, [], []⟩, ⟨("_law_pairs", none), "_law_pairs", "_law_pairs", defArgs s_law_pairs, defBody s_law_pairs, defScope s_law_pairs, [], []⟩, ⟨("_law_kindly", none), "_law_kindly", "_law_kindly", defArgs s_law_kindly, defBody s_law_kindly, defScope s_law_kindly, [], []⟩, ⟨("_law_stack", none), "_law_stack", "_law_stack", defArgs s_law_stack_v2, defBody s_law_stack_v2, defScope s_law_stack_v2, [], []⟩, ⟨("_law_no_stack", none), "_law_no_stack", "_law_no_stack", defArgs s_law_no_stack, defBody s_law_no_stack, defScope s_law_no_stack, [], []⟩, ⟨("_law_names", none), "_law_names", "_law_names", defArgs s_law_names, defBody s_law_names, defScope s_law_names, [], []⟩, ⟨("_law_no_names", none), "_law_no_names", "_law_no_names", defArgs s_law_no_names, defBody s_law_no_names, defScope s_law_no_names, [], []⟩, ⟨("_law_came", none), "_law_came", "_law_came", defArgs s_law_came_v21, defBody s_law_came_v21, defScope s_law_came_v21, [], []⟩, ⟨("law", none), "law", "law", defArgs s_law, defBody s_law, defScope s_law, [], []⟩]
def fa : List He.Fa := [.glo "is_whole", .glo "is_from", .glo "are_rising", .glo "are_faces", .glo "is_stack", .glo "must_stack", .glo "must_names", .glo "renamed", .glo "named", .glo "named_back", .glo "_law_cell", .glo "_law_pen", .glo "_law_draw", .glo "_law_same", .glo "_law_kind_of", .glo "_law_every", .glo "_law_size", .glo "_law_made", .glo "_law_drawn", .glo "_law_common", .glo "_law_may", .glo "_law_grown", .glo "_law_pairs", .glo "_law_kindly", .glo "_law_stack", .glo "_law_no_stack", .glo "_law_names", .glo "_law_no_names", .glo "_law_came", .glo "law", .free "ValueError", .free "all", .free "bool", .free "int", .free "isinstance", .free "len", .free "list", .free "max", .free "min", .free "range", .free "repr", .free "sorted", .free "str", .free "tuple", .free "zip", .int "MOST_POINTS" 8, .int "MOST_TAKEN" 4, .int "MOST_FACES" 70, .glo "LayError", .glo "NoStack", .glo "NoNumber", .glo "NoPart", .glo "NoLot", .glo "NoRow", .glo "NoOrder", .glo "NoNames", .glo "NoRim", .glo "NoTaking", .glo "NoText", .glo "NoLine", .glo "NoDeed", .glo "TooGreat", .exc "NoStack", .exc "NoNames"]
def us : List PySem.Str := ["law"]
def vw : List Nat := [51]
def ex (K : PySem.W.Frag) : Bool := Lf.kindB ["NoStack", "NoNumber", "NoPart", "NoLot", "NoRow", "NoOrder", "NoNames", "NoRim", "NoTaking", "NoText", "NoLine", "NoDeed", "TooGreat"] [] "LayError" K && Lf.lamB us K && (Lf.smB K && (Lf.noB ["NoStack", "NoNumber", "NoPart", "NoLot", "NoRow", "NoOrder", "NoNames", "NoRim", "NoTaking", "NoText", "NoLine", "NoDeed", "TooGreat"] K && Lf.oexB K (He.ga K "TooGreat")))
abbrev R : PySem.W.OpenRow := PySem.W.OpenLaw.row PySem.Challenge.rw_layfaces_k80_other_names
abbrev hk : PySem.W.Hook := Lf.hookT 4 fa fn ex
def ob (s : PySem.W.SharedT) : He.AlD × Bool := Lf.obsT 4 fa fn ex (HandSHeadRun.getT s)
theorem ob_eq (s : PySem.W.SharedT) : ob s = hk.obs s.abs := Lf.obsT_eq (HandSHeadRun.getT_eq s)
def loose0 : List PySem.Str := ["LayError", "NoStack", "NoNumber", "NoPart", "NoLot", "NoRow", "NoOrder", "NoNames", "NoRim", "NoTaking", "NoText", "NoLine", "NoDeed", "TooGreat", "MOST_POINTS", "MOST_TAKEN", "MOST_FACES", "is_whole", "is_from", "are_rising", "are_faces", "is_stack", "must_stack", "must_names", "renamed", "named", "named_back", "_law_cell", "_law_pen", "_law_draw"]
def loose1 : List PySem.Str := ["_law_same", "_law_kind_of", "_law_every", "_law_size", "_law_made", "_law_drawn", "_law_common", "_law_may", "_law_grown", "_law_pairs", "_law_kindly", "_law_stack", "_law_no_stack", "_law_names", "_law_no_names", "_law_came"]
def loose : List PySem.Str := loose0 ++ loose1
theorem run (w : World) : HandSHeadRun.RunEq R (PySem.W.view R.prog vw) hk ob 16000 loose w := by
  intro os
  kernel_rfl
end Hd
set_option Elab.async false
set_option linter.all false
set_option maxRecDepth 100000
set_option maxHeartbeats 0
namespace Lw
open PySem PySem.Spec PyProof.Rows L2 Lf Hd
structure Gb (K : PySem.W.Frag) (mg : Str → Option Value) : Prop where
  g_ValueError : mg "ValueError" = none
  g_all : mg "all" = none
  g_bool : mg "bool" = none
  g_int : mg "int" = none
  g_isinstance : mg "isinstance" = none
  g_len : mg "len" = none
  g_list : mg "list" = none
  g_max : mg "max" = none
  g_min : mg "min" = none
  g_range : mg "range" = none
  g_repr : mg "repr" = none
  g_sorted : mg "sorted" = none
  g_str : mg "str" = none
  g_tuple : mg "tuple" = none
  g_zip : mg "zip" = none
  i_MOST_POINTS : ∃ t, mg "MOST_POINTS" = some (.int 8 t)
  i_MOST_TAKEN : ∃ t, mg "MOST_TAKEN" = some (.int 4 t)
  i_MOST_FACES : ∃ t, mg "MOST_FACES" = some (.int 70 t)
  c_LayError : mg "LayError" = some (.ref (He.ga K "LayError"))
  c_NoStack : mg "NoStack" = some (.ref (He.ga K "NoStack"))
  c_NoNumber : mg "NoNumber" = some (.ref (He.ga K "NoNumber"))
  c_NoPart : mg "NoPart" = some (.ref (He.ga K "NoPart"))
  c_NoLot : mg "NoLot" = some (.ref (He.ga K "NoLot"))
  c_NoRow : mg "NoRow" = some (.ref (He.ga K "NoRow"))
  c_NoOrder : mg "NoOrder" = some (.ref (He.ga K "NoOrder"))
  c_NoNames : mg "NoNames" = some (.ref (He.ga K "NoNames"))
  c_NoRim : mg "NoRim" = some (.ref (He.ga K "NoRim"))
  c_NoTaking : mg "NoTaking" = some (.ref (He.ga K "NoTaking"))
  c_NoText : mg "NoText" = some (.ref (He.ga K "NoText"))
  c_NoLine : mg "NoLine" = some (.ref (He.ga K "NoLine"))
  c_NoDeed : mg "NoDeed" = some (.ref (He.ga K "NoDeed"))
  c_TooGreat : mg "TooGreat" = some (.ref (He.ga K "TooGreat"))
  e_NoStack : ExK K mg "NoStack"
  e_NoNames : ExK K mg "NoNames"
  ki : KiF kcs kmore "LayError" K
  sm : smB K = true
  nf : ∀ c ∈ kcs, PySem.W.findIn K (.ref (He.ga K c)) "many" = some none ∧ PySem.W.findIn K (.ref (He.ga K c)) "most" = some none
theorem uH {k : Nat} {A : Around} (hr : L2H.RoomH k A) : A.units + 65 < cLine := by have := hr.un; omega
theorem uH64 {k : Nat} {A : Around} (hr : L2H.RoomH k A) : A.units + 64 < cLine := by have := hr.un; omega
section
variable {P : Program} {w : World} {K : PySem.W.Frag} {mg : Str → Option Value} {base : Heap}
theorem sc_is_whole : FnScope ["thing"] ["thing"] (defScope s_is_whole) := ⟨rfl, rfl, rfl, by decide +kernel, rfl, by decide +kernel, by decide +kernel⟩
theorem ok_is_whole {f : Addr} {fd : FuncData} (F : FunD K "is_whole" "is_whole" (defArgs s_is_whole) (defBody s_is_whole) (defScope s_is_whole) [] [] f fd) (hm : mg "is_whole" = some (.ref f)) (B : Gb K mg)  : ClX P w K mg base 1 "is_whole" F_is_whole := by
  have S := sc_is_whole
  exact ClX.mk' (k := 0) (N := ["thing"]) (ps := ["thing"]) F S hm (fun _ _ _ _ _ _ us hl => match us, hl with | [_], _ => rfl) fun cdv hcv A outer s H E hr hgd tk po =>
    (s_one (s_ret (d_and (d_isi (T := "int") (by decide) B.g_isinstance rfl B.g_int (by decide +kernel) (dv 0)) (d_one (d_not (d_isi (T := "bool") (by decide) B.g_isinstance rfl B.g_bool (by decide +kernel) (dv 0)))))))
theorem sc_is_from : FnScope ["thing", "low", "high"] ["thing", "low", "high"] (defScope s_is_from) := ⟨rfl, rfl, rfl, by decide +kernel, rfl, by decide +kernel, by decide +kernel⟩
theorem ok_is_from {f : Addr} {fd : FuncData} (F : FunD K "is_from" "is_from" (defArgs s_is_from) (defBody s_is_from) (defScope s_is_from) [] [] f fd) (hm : mg "is_from" = some (.ref f)) (B : Gb K mg) (c_is_whole : ClX P w K mg base 1 "is_whole" F_is_whole) : ClX P w K mg base 2 "is_from" F_is_from := by
  have S := sc_is_from
  exact ClX.mk' (k := 1) (N := ["thing", "low", "high"]) (ps := ["thing", "low", "high"]) F S hm (fun _ _ _ _ _ _ us hl => match us, hl with | [_, _, _], _ => rfl) fun cdv hcv A outer s H E hr hgd tk po =>
    (s_one (s_ret (d_and (d_callT tk hgd c_is_whole hr (by decide) (a_cons (dv 0) a_nil)) (d_one (d_chain op_le op_le od_le od_le (dv 1) (dv 0) (dv 2))))))
theorem sc_are_rising : FnScope ["many", "thing", "one", "other"] ["many", "thing"] (defScope s_are_rising) := ⟨rfl, rfl, rfl, by decide +kernel, rfl, by decide +kernel, by decide +kernel⟩
theorem ok_are_rising {f : Addr} {fd : FuncData} (F : FunD K "are_rising" "are_rising" (defArgs s_are_rising) (defBody s_are_rising) (defScope s_are_rising) [] [] f fd) (hm : mg "are_rising" = some (.ref f)) (B : Gb K mg) (c_is_from : ClX P w K mg base 2 "is_from" F_is_from) : ClX P w K mg base 3 "are_rising" F_are_rising := by
  have S := sc_are_rising
  exact ClX.mk' (k := 2) (N := ["many", "thing", "one", "other"]) (ps := ["many", "thing"]) F S hm (fun _ _ _ _ _ _ us hl => match us, hl with | [_, _], _ => rfl) fun cdv hcv A outer s H E hr hgd tk po =>
    (s_cons (s_if (PW.pt (w_or (t_not (t_val (d_isi (T := "tuple") (by decide) B.g_isinstance rfl B.g_tuple (by decide +kernel) (dv 1)))) (w_or1 (t_not (t_val (d_all rfl B.g_all (a_cons (d_lc rfl S.nd (own := [("one", 2)]) (blkOk_by (by kernel_rfl)) tg_name (by decide) (i_seq (dv 1)) (fun _ _ _ _ _ => (gn 2 S.nd)) (fun _ _ _ _ _ => ts_nil) (fun _ _ _ _ _ => (d_callN hgd c_is_from hr (by decide) (a_cons (dv 2) (a_cons d_int (a_cons (d_sub (dv 0) d_int) a_nil)))))) a_nil))))))) (s_one (s_ret d_bl)) s_nil)
    (s_one (s_ret (d_all rfl B.g_all (a_cons (d_lc rfl S.nd (own := [("one", 2), ("other", 3)]) (blkOk_by (by kernel_rfl)) (tg_tup (js := [2, 3]) rfl) (by decide) (i_zip B.g_zip (a_cons (dv 1) (a_cons (d_sl (dv 1) (p_yes d_int) p_no) a_nil))) (fun _ _ _ _ _ => (pg_tup rfl (pgs_cons (gn 2 S.nd) (pgs_cons (gn 3 S.nd) pgs_nil)))) (fun _ _ _ _ _ => ts_nil) (fun _ _ _ _ _ => (d_lt hr (dv 2) (dv 3)))) a_nil)))))
theorem sc_are_faces : FnScope ["n", "k", "thing", "face", "one", "other"] ["n", "k", "thing"] (defScope s_are_faces) := ⟨rfl, rfl, rfl, by decide +kernel, rfl, by decide +kernel, by decide +kernel⟩
theorem ok_are_faces {f : Addr} {fd : FuncData} (F : FunD K "are_faces" "are_faces" (defArgs s_are_faces) (defBody s_are_faces) (defScope s_are_faces) [] [] f fd) (hm : mg "are_faces" = some (.ref f)) (B : Gb K mg) (c_are_rising : ClX P w K mg base 3 "are_rising" F_are_rising) : ClX P w K mg base 4 "are_faces" F_are_faces := by
  have S := sc_are_faces
  exact ClX.mk' (k := 3) (N := ["n", "k", "thing", "face", "one", "other"]) (ps := ["n", "k", "thing"]) F S hm (fun _ _ _ _ _ _ us hl => match us, hl with | [_, _, _], _ => rfl) fun cdv hcv A outer s H E hr hgd tk po =>
    (s_cons (s_if (PW.pt (w_or (t_not (t_val (d_isi (T := "tuple") (by decide) B.g_isinstance rfl B.g_tuple (by decide +kernel) (dv 2)))) (w_or1 (t_not (t_chain op_le op_le od_le od_le d_int (d_len B.g_len (a_cons (dv 2) a_nil)) (d_gint rfl B.i_MOST_FACES)))))) (s_one (s_ret d_bl)) s_nil)
    (s_cons (s_if (t_not (t_val (d_all rfl B.g_all (a_cons (d_lc rfl S.nd (own := [("face", 3)]) (blkOk_by (by kernel_rfl)) tg_name (by decide) (i_seq (dv 2)) (fun _ _ _ _ _ => (gn 3 S.nd)) (fun _ _ _ _ _ => ts_nil) (fun _ _ _ _ _ => (d_and (d_callN hgd c_are_rising hr (by decide) (a_cons (dv 0) (a_cons (dv 3) a_nil))) (d_one (d_eq hr (d_len B.g_len (a_cons (dv 3) a_nil)) (dv 1)))))) a_nil)))) (s_one (s_ret d_bl)) s_nil)
    (s_one (s_ret (d_all rfl B.g_all (a_cons (d_lc rfl S.nd (own := [("one", 4), ("other", 5)]) (blkOk_by (by kernel_rfl)) (tg_tup (js := [4, 5]) rfl) (by decide) (i_zip B.g_zip (a_cons (dv 2) (a_cons (d_sl (dv 2) (p_yes d_int) p_no) a_nil))) (fun _ _ _ _ _ => (pg_tup rfl (pgs_cons (gn 4 S.nd) (pgs_cons (gn 5 S.nd) pgs_nil)))) (fun _ _ _ _ _ => ts_nil) (fun _ _ _ _ _ => (d_lt hr (dv 4) (dv 5)))) a_nil))))))
theorem sc_is_stack : FnScope ["thing", "n", "k", "faces"] ["thing"] (defScope s_is_stack) := ⟨rfl, rfl, rfl, by decide +kernel, rfl, by decide +kernel, by decide +kernel⟩
theorem ok_is_stack {f : Addr} {fd : FuncData} (F : FunD K "is_stack" "is_stack" (defArgs s_is_stack) (defBody s_is_stack) (defScope s_is_stack) [] [] f fd) (hm : mg "is_stack" = some (.ref f)) (B : Gb K mg) (c_is_from : ClX P w K mg base 2 "is_from" F_is_from) (c_are_faces : ClX P w K mg base 4 "are_faces" F_are_faces) : ClX P w K mg base 5 "is_stack" F_is_stack := by
  have S := sc_is_stack
  exact ClX.mk' (k := 4) (N := ["thing", "n", "k", "faces"]) (ps := ["thing"]) F S hm (fun _ _ _ _ _ _ us hl => match us, hl with | [_], _ => rfl) fun cdv hcv A outer s H E hr hgd tk po =>
    (s_cons (s_if (PW.pt (w_or (t_not (t_val (d_isi (T := "tuple") (by decide) B.g_isinstance rfl B.g_tuple (by decide +kernel) (dv 0)))) (w_or1 (t_ne hr (d_len B.g_len (a_cons (dv 0) a_nil)) d_int)))) (s_one (s_ret d_bl)) s_nil)
    (s_cons (s_asgT (tg_tup (js := [1, 2, 3]) rfl) (dv 0) (pg_tup rfl (pgs_cons (gn 1 S.nd) (pgs_cons (gn 2 S.nd) (pgs_cons (gn 3 S.nd) pgs_nil)))))
    (s_cons (s_if (PW.pt (w_or (t_not (t_val (d_callT tk hgd c_is_from hr (by decide) (a_cons (dv 1) (a_cons d_int (a_cons (d_gint rfl B.i_MOST_POINTS) a_nil)))))) (w_or1 (t_not (t_val (d_callT tk hgd c_is_from hr (by decide) (a_cons (dv 2) (a_cons d_int (a_cons (d_min2 rfl B.g_min (a_cons (dv 1) (a_cons (d_gint rfl B.i_MOST_TAKEN) a_nil))) a_nil))))))))) (s_one (s_ret d_bl)) s_nil)
    (s_one (s_ret (d_callT tk hgd c_are_faces hr (by decide) (a_cons (dv 1) (a_cons (dv 2) (a_cons (dv 3) a_nil)))))))))
theorem sc_must_stack : FnScope ["stack"] ["stack"] (defScope s_must_stack) := ⟨rfl, rfl, rfl, by decide +kernel, rfl, by decide +kernel, by decide +kernel⟩
theorem ok_must_stack {f : Addr} {fd : FuncData} (F : FunD K "must_stack" "must_stack" (defArgs s_must_stack) (defBody s_must_stack) (defScope s_must_stack) [] [] f fd) (hm : mg "must_stack" = some (.ref f)) (B : Gb K mg) (c_is_stack : ClX P w K mg base 5 "is_stack" F_is_stack) : ClX P w K mg base 6 "must_stack" F_must_stack := by
  have S := sc_must_stack
  exact ClX.mk' (k := 5) (N := ["stack"]) (ps := ["stack"]) F S hm (fun _ _ _ _ _ _ us hl => match us, hl with | [_], _ => rfl) fun cdv hcv A outer s H E hr hgd tk po =>
    (s_one (s_if (t_not (t_val (d_callT tk hgd c_is_stack hr (by decide) (a_cons (dv 0) a_nil)))) (s_one (s_raise0 rfl tk B.e_NoStack)) s_nil))
theorem sc_must_names : FnScope ["n", "names", "one"] ["n", "names"] (defScope s_must_names) := ⟨rfl, rfl, rfl, by decide +kernel, rfl, by decide +kernel, by decide +kernel⟩
theorem ok_must_names {f : Addr} {fd : FuncData} (F : FunD K "must_names" "must_names" (defArgs s_must_names) (defBody s_must_names) (defScope s_must_names) [] [] f fd) (hm : mg "must_names" = some (.ref f)) (B : Gb K mg) (c_is_whole : ClX P w K mg base 1 "is_whole" F_is_whole) : ClX P w K mg base 2 "must_names" F_must_names := by
  have S := sc_must_names
  exact ClX.mk' (k := 1) (N := ["n", "names", "one"]) (ps := ["n", "names"]) F S hm (fun _ _ _ _ _ _ us hl => match us, hl with | [_, _], _ => rfl) fun cdv hcv A outer s H E hr hgd tk po =>
    (s_cons (s_if (PW.pt (w_or (t_not (t_val (d_isi (T := "tuple") (by decide) B.g_isinstance rfl B.g_tuple (by decide +kernel) (dv 1)))) (w_or1 (t_not (t_val (d_all rfl B.g_all (a_cons (d_lc rfl S.nd (own := [("one", 2)]) (blkOk_by (by kernel_rfl)) tg_name (by decide) (i_seq (dv 1)) (fun _ _ _ _ _ => (gn 2 S.nd)) (fun _ _ _ _ _ => ts_nil) (fun _ _ _ _ _ => (d_callN hgd c_is_whole hr (by decide) (a_cons (dv 2) a_nil)))) a_nil))))))) (s_one (s_raise0 rfl tk B.e_NoNames)) s_nil)
    (s_one (s_if (t_ne hr (d_sorted rfl hr B.g_sorted (a_cons (dv 1) a_nil)) (d_lstRg rfl B.g_list B.g_range (dv 0))) (s_one (s_raise0 rfl tk B.e_NoNames)) s_nil)))
theorem sc_renamed : FnScope ["face", "names", "point"] ["face", "names"] (defScope s_renamed) := ⟨rfl, rfl, rfl, by decide +kernel, rfl, by decide +kernel, by decide +kernel⟩
theorem ok_renamed {f : Addr} {fd : FuncData} (F : FunD K "renamed" "renamed" (defArgs s_renamed) (defBody s_renamed) (defScope s_renamed) [] [] f fd) (hm : mg "renamed" = some (.ref f)) (B : Gb K mg)  : ClX P w K mg base 1 "renamed" F_renamed := by
  have S := sc_renamed
  exact ClX.mk' (k := 0) (N := ["face", "names", "point"]) (ps := ["face", "names"]) F S hm (fun _ _ _ _ _ _ us hl => match us, hl with | [_, _], _ => rfl) fun cdv hcv A outer s H E hr hgd tk po =>
    (s_one (s_ret (d_tuple B.g_tuple (a_cons (d_sorted rfl hr B.g_sorted (a_cons (d_lc rfl S.nd (own := [("point", 2)]) (blkOk_by (by kernel_rfl)) tg_name (by decide) (i_seq (dv 0)) (fun _ _ _ _ _ => (gn 2 S.nd)) (fun _ _ _ _ _ => ts_nil) (fun _ _ _ _ _ => (d_ix (dv 1) (dv 2)))) a_nil)) a_nil))))
theorem sc_named : FnScope ["stack", "names", "face"] ["stack", "names"] (defScope s_named) := ⟨rfl, rfl, rfl, by decide +kernel, rfl, by decide +kernel, by decide +kernel⟩
theorem ok_named {f : Addr} {fd : FuncData} (F : FunD K "named" "named" (defArgs s_named) (defBody s_named) (defScope s_named) [] [] f fd) (hm : mg "named" = some (.ref f)) (B : Gb K mg) (c_must_stack : ClX P w K mg base 6 "must_stack" F_must_stack) (c_must_names : ClX P w K mg base 2 "must_names" F_must_names) (c_renamed : ClX P w K mg base 1 "renamed" F_renamed) : ClX P w K mg base 7 "named" F_named := by
  have S := sc_named
  exact ClX.mk' (k := 6) (N := ["stack", "names", "face"]) (ps := ["stack", "names"]) F S hm (fun _ _ _ _ _ _ us hl => match us, hl with | [_, _], _ => rfl) fun cdv hcv A outer s H E hr hgd tk po =>
    (s_cons (s_drop (d_callT tk hgd c_must_stack hr (by decide) (a_cons (dv 0) a_nil)))
    (s_cons (s_drop (d_callT tk hgd c_must_names hr (by decide) (a_cons (d_ix (dv 0) d_int) (a_cons (dv 1) a_nil))))
    (s_one (s_ret (d_tup (a_cons (d_ix (dv 0) d_int) (a_cons (d_ix (dv 0) d_int) (a_cons (d_tuple B.g_tuple (a_cons (d_sorted rfl hr B.g_sorted (a_cons (d_lc rfl S.nd (own := [("face", 2)]) (blkOk_by (by kernel_rfl)) tg_name (by decide) (i_seq (d_ix (dv 0) d_int)) (fun _ _ _ _ _ => (gn 2 S.nd)) (fun _ _ _ _ _ => ts_nil) (fun _ _ _ _ _ => (d_callN hgd c_renamed hr (by decide) (a_cons (dv 2) (a_cons (dv 1) a_nil))))) a_nil)) a_nil)) a_nil))))))))
theorem sc_named_back : FnScope ["stack", "names", "point"] ["stack", "names"] (defScope s_named_back) := ⟨rfl, rfl, rfl, by decide +kernel, rfl, by decide +kernel, by decide +kernel⟩
theorem ok_named_back {f : Addr} {fd : FuncData} (F : FunD K "named_back" "named_back" (defArgs s_named_back) (defBody s_named_back) (defScope s_named_back) [] [] f fd) (hm : mg "named_back" = some (.ref f)) (B : Gb K mg) (c_must_stack : ClX P w K mg base 6 "must_stack" F_must_stack) (c_must_names : ClX P w K mg base 2 "must_names" F_must_names) : ClX P w K mg base 7 "named_back" F_named_back := by
  have S := sc_named_back
  exact ClX.mk' (k := 6) (N := ["stack", "names", "point"]) (ps := ["stack", "names"]) F S hm (fun _ _ _ _ _ _ us hl => match us, hl with | [_, _], _ => rfl) fun cdv hcv A outer s H E hr hgd tk po =>
    (s_cons (s_drop (d_callT tk hgd c_must_stack hr (by decide) (a_cons (dv 0) a_nil)))
    (s_cons (s_drop (d_callT tk hgd c_must_names hr (by decide) (a_cons (d_ix (dv 0) d_int) (a_cons (dv 1) a_nil))))
    (s_one (s_ret (d_tuple B.g_tuple (a_cons (d_lc rfl S.nd (own := [("point", 2)]) (blkOk_by (by kernel_rfl)) tg_name (by decide) (i_range B.g_range (d_ix (dv 0) d_int)) (fun _ _ _ _ _ => (gn 2 S.nd)) (fun _ _ _ _ _ => ts_nil) (fun _ _ _ _ _ => (d_tindex (units65 hr) (dv 1) (a_cons (dv 2) a_nil)))) a_nil))))))
theorem sc_law_cell : FnScope ["_law_script", "_law_k"] ["_law_script", "_law_k"] (defScope s_law_cell) := ⟨rfl, rfl, rfl, by decide +kernel, rfl, by decide +kernel, by decide +kernel⟩
theorem ok_law_cell {f : Addr} {fd : FuncData} (F : FunD K "_law_cell" "_law_cell" (defArgs s_law_cell) (defBody s_law_cell) (defScope s_law_cell) [] [] f fd) (hm : mg "_law_cell" = some (.ref f)) (B : Gb K mg)  : ClX P w K mg base 1 "_law_cell" F_law_cell := by
  have S := sc_law_cell
  exact ClX.mk' (k := 0) (N := ["_law_script", "_law_k"]) (ps := ["_law_script", "_law_k"]) F S hm (fun _ _ _ _ _ _ us hl => match us, hl with | [_, _], _ => rfl) fun cdv hcv A outer s H E hr hgd tk po =>
    (s_cons (s_if (t_lt hr (dv 1) (d_len B.g_len (a_cons (dv 0) a_nil))) (s_one (s_ret (d_ix (dv 0) (dv 1)))) s_nil)
    (s_one (s_ret d_int)))
theorem sc_law_pen : FnScope ["_law_cell_here"] ["_law_cell_here"] (defScope s_law_pen) := ⟨rfl, rfl, rfl, by decide +kernel, rfl, by decide +kernel, by decide +kernel⟩
theorem ok_law_pen {f : Addr} {fd : FuncData} (F : FunD K "_law_pen" "_law_pen" (defArgs s_law_pen) (defBody s_law_pen) (defScope s_law_pen) [] [] f fd) (hm : mg "_law_pen" = some (.ref f)) (B : Gb K mg)  : ClX P w K mg base 1 "_law_pen" F_law_pen := by
  have S := sc_law_pen
  exact ClX.mk' (k := 0) (N := ["_law_cell_here"]) (ps := ["_law_cell_here"]) F S hm (fun _ _ _ _ _ _ us hl => match us, hl with | [_], _ => rfl) fun cdv hcv A outer s H E hr hgd tk po =>
    (s_one (s_ret (d_lst (a_cons (dv 0) (a_cons (d_intc B.g_int (a_cons (d_ge (dv 0) (d_pow d_int d_int)) a_nil)) a_nil)))))
theorem sc_law_draw : FnScope ["_law_pen_here", "_law_many", "_law_found"] ["_law_pen_here", "_law_many"] (defScope s_law_draw) := ⟨rfl, rfl, rfl, by decide +kernel, rfl, by decide +kernel, by decide +kernel⟩
theorem ok_law_draw {f : Addr} {fd : FuncData} (F : FunD K "_law_draw" "_law_draw" (defArgs s_law_draw) (defBody s_law_draw) (defScope s_law_draw) [] [] f fd) (hm : mg "_law_draw" = some (.ref f)) (B : Gb K mg)  : ClX P w K mg base 1 "_law_draw" F_law_draw := by
  have S := sc_law_draw
  exact ClX.mk' (k := 0) (N := ["_law_pen_here", "_law_many", "_law_found"]) (ps := ["_law_pen_here", "_law_many"]) F S hm (fun _ _ _ _ _ _ us hl => match us, hl with | [_, _], _ => rfl) fun cdv hcv A outer s H E hr hgd tk po =>
    (s_cons (s_if (t_eq hr (d_ix (dv 0) d_int) d_int) (s_cons (s_asg (j := 2) (al := false) S.nd rfl (by first | exact Or.inl rfl | exact Or.inr rfl) (d_mod (d_ix (dv 0) d_int) (dv 1)))
    (s_cons (s_set hr (d_fdiv (d_ix (dv 0) d_int) (dv 1)) (dv 0) d_int)
    (s_one (s_ret (dv 2))))) s_nil)
    (s_cons (s_set hr (d_mod (d_add (d_mul (d_mod (d_ix (dv 0) d_int) d_int) d_int) d_int) d_int) (dv 0) d_int)
    (s_one (s_ret (d_mod (d_fdiv (d_mod (d_add (d_mul (d_ix (dv 0) d_int) (d_ix (dv 0) d_int)) (d_mul d_int (d_ix (dv 0) d_int))) d_int) d_int) (dv 1))))))
theorem sc_law_same_v2 : FnScope ["_law_found", "_law_due", "_law_one", "_law_other"] ["_law_found", "_law_due"] (defScope s_law_same_v2) := ⟨rfl, rfl, rfl, by decide +kernel, rfl, by decide +kernel, by decide +kernel⟩
theorem ok_law_same_v2 {f : Addr} {fd : FuncData} (F : FunD K "_law_same" "_law_same" (defArgs s_law_same_v2) (defBody s_law_same_v2) (defScope s_law_same_v2) [] [] f fd) (hm : mg "_law_same" = some (.ref f)) (B : Gb K mg)  : ∀ n, ClX P w K mg base (0 + n + 1) "_law_same" (F_law_same_v2 n)
  | 0 => clX_bad (ps := ["_law_found", "_law_due"]) F hm (fun _ _ _ _ _ _ us hl => match us, hl with | [_, _], _ => rfl)
  | n + 1 => by
    have ih := ok_law_same_v2 F hm B  n
    have S := sc_law_same_v2
    exact ClX.mk' (k := 0 + n + 1) (N := ["_law_found", "_law_due", "_law_one", "_law_other"]) (ps := ["_law_found", "_law_due"]) F S hm (fun _ _ _ _ _ _ us hl => match us, hl with | [_, _], _ => rfl) fun cdv hcv A outer s H E hr hgd tk po =>
    (s_cons (s_if (t_isN (dv 1)) (s_one (s_ret (d_isN (dv 0)))) s_nil)
    (s_cons (s_if (PW.pt (w_or (t_val (d_isi (T := "tuple") (by decide) B.g_isinstance rfl B.g_tuple (by decide +kernel) (dv 1))) (w_or1 (t_val (d_isi (T := "list") (by decide) B.g_isinstance rfl B.g_list (by decide +kernel) (dv 1)))))) (s_cons (s_if (PW.pt (w_or (t_ne hr (d_isi (T := "tuple") (by decide) B.g_isinstance rfl B.g_tuple (by decide +kernel) (dv 0)) (d_isi (T := "tuple") (by decide) B.g_isinstance rfl B.g_tuple (by decide +kernel) (dv 1))) (w_or1 (t_ne hr (d_isi (T := "list") (by decide) B.g_isinstance rfl B.g_list (by decide +kernel) (dv 0)) (d_isi (T := "list") (by decide) B.g_isinstance rfl B.g_list (by decide +kernel) (dv 1)))))) (s_one (s_ret d_bl)) s_nil)
    (s_cons (s_if (t_ne hr (d_len B.g_len (a_cons (dv 0) a_nil)) (d_len B.g_len (a_cons (dv 1) a_nil))) (s_one (s_ret d_bl)) s_nil)
    (s_cons (s_for po rfl (tg_tup (js := [2, 3]) rfl) (i_zip B.g_zip (a_cons (dv 0) (a_cons (dv 1) a_nil))) (pg_tup rfl (pgs_cons (gn 2 S.nd) (pgs_cons (gn 3 S.nd) pgs_nil))) (s_one (s_if (t_not (t_val (d_callT tk hgd ih hr (Nat.le_refl _) (a_cons (dv 2) (a_cons (dv 3) a_nil))))) (s_one (s_ret d_bl)) s_nil)))
    (s_one (s_ret d_bl))))) s_nil)
    (s_cons (s_if (t_val (d_isi (T := "str") (by decide) B.g_isinstance rfl B.g_str (by decide +kernel) (dv 1))) (s_one (s_ret (d_and (d_isi (T := "str") (by decide) B.g_isinstance rfl B.g_str (by decide +kernel) (dv 0)) (d_one (d_eq hr (dv 0) (dv 1)))))) s_nil)
    (s_one (s_ret (d_and (d_eq hr (d_isi (T := "bool") (by decide) B.g_isinstance rfl B.g_bool (by decide +kernel) (dv 0)) (d_isi (T := "bool") (by decide) B.g_isinstance rfl B.g_bool (by decide +kernel) (dv 1))) (d_and (d_isi (T := "int") (by decide) B.g_isinstance rfl B.g_int (by decide +kernel) (dv 0)) (d_one (d_eq hr (dv 0) (dv 1))))))))))
theorem sc_law_kind_of : FnScope ["_law_e", "_law_marks", "_law_words"] ["_law_e"] (defScope s_law_kind_of) := ⟨rfl, rfl, rfl, by decide +kernel, rfl, by decide +kernel, by decide +kernel⟩
theorem ok_law_kind_of {f : Addr} {fd : FuncData} (F : FunD K "_law_kind_of" "_law_kind_of" (defArgs s_law_kind_of) (defBody s_law_kind_of) (defScope s_law_kind_of) [] [] f fd) (hm : mg "_law_kind_of" = some (.ref f)) (B : Gb K mg)  : ClE P w K mg base 1 "_law_kind_of" kcs F_law_kind_of := by
  have S := sc_law_kind_of
  exact ClE.mk' (k := 0) (N := ["_law_e", "_law_marks", "_law_words"]) F S hm (fun _ _ _ _ _ _ us hl => match us, hl with | [_], _ => rfl) fun cdv A outer s H p d x hr hp hz hf hc hx =>
    (s_cons (s_asg (j := 1) (al := true) S.nd rfl (by first | exact Or.inl rfl | exact Or.inr rfl) (d_lst (a_cons (d_isE 0 hp (B.ki.ec _ hc) hz hf B.g_isinstance B.c_NoStack (B.ki.kit _ hc _ (by decide))) (a_cons (d_isE 0 hp (B.ki.ec _ hc) hz hf B.g_isinstance B.c_NoNumber (B.ki.kit _ hc _ (by decide))) (a_cons (d_isE 0 hp (B.ki.ec _ hc) hz hf B.g_isinstance B.c_NoPart (B.ki.kit _ hc _ (by decide))) (a_cons (d_isE 0 hp (B.ki.ec _ hc) hz hf B.g_isinstance B.c_NoLot (B.ki.kit _ hc _ (by decide))) a_nil))))))
    (s_cons (s_asg (j := 1) (al := true) S.nd rfl (by first | exact Or.inl rfl | exact Or.inr rfl) (d_add (dv 1) (d_lst (a_cons (d_isE 0 hp (B.ki.ec _ hc) hz hf B.g_isinstance B.c_NoRow (B.ki.kit _ hc _ (by decide))) (a_cons (d_isE 0 hp (B.ki.ec _ hc) hz hf B.g_isinstance B.c_NoOrder (B.ki.kit _ hc _ (by decide))) (a_cons (d_isE 0 hp (B.ki.ec _ hc) hz hf B.g_isinstance B.c_NoNames (B.ki.kit _ hc _ (by decide))) (a_cons (d_isE 0 hp (B.ki.ec _ hc) hz hf B.g_isinstance B.c_NoRim (B.ki.kit _ hc _ (by decide))) a_nil)))))))
    (s_cons (s_asg (j := 1) (al := true) S.nd rfl (by first | exact Or.inl rfl | exact Or.inr rfl) (d_add (dv 1) (d_lst (a_cons (d_isE 0 hp (B.ki.ec _ hc) hz hf B.g_isinstance B.c_NoTaking (B.ki.kit _ hc _ (by decide))) (a_cons (d_isE 0 hp (B.ki.ec _ hc) hz hf B.g_isinstance B.c_NoText (B.ki.kit _ hc _ (by decide))) (a_cons (d_isE 0 hp (B.ki.ec _ hc) hz hf B.g_isinstance B.c_NoLine (B.ki.kit _ hc _ (by decide))) (a_cons (d_isE 0 hp (B.ki.ec _ hc) hz hf B.g_isinstance B.c_NoDeed (B.ki.kit _ hc _ (by decide))) a_nil)))))))
    (s_cons (s_drop (d_append (dv 1) (a_cons (d_isE 0 hp (B.ki.ec _ hc) hz hf B.g_isinstance B.c_TooGreat (B.ki.kit _ hc _ (by decide))) a_nil)))
    (s_cons (s_if (PW.pt (w_or (t_not (t_val (d_isEB 0 hp (B.ki.ec _ hc) hz hf B.g_isinstance B.g_ValueError (by decide +kernel) (B.ki.kv _ hc)))) (w_or1 (t_neU (uH64 hr) (d_count (uH hr) (dv 1) (a_cons d_bl a_nil)) d_int)))) (s_one (s_ret d_str)) s_nil)
    (s_cons (s_if (t_val (d_ix (dv 1) d_int)) (s_one (s_ret (d_lst (a_cons d_str (a_cons (d_xf 0 hp (B.ki.ec _ hc).xf (B.nf _ hc).1 hz hf) (a_cons (d_xf 0 hp (B.ki.ec _ hc).xf (B.nf _ hc).2 hz hf) a_nil)))))) s_nil)
    (s_cons (s_asg (j := 2) (al := false) S.nd rfl (by first | exact Or.inl rfl | exact Or.inr rfl) (d_lst (a_cons d_str (a_cons d_str (a_cons d_str (a_cons d_str (a_cons d_str (a_cons d_str (a_cons d_str (a_cons d_str (a_cons d_str (a_cons d_str (a_cons d_str (a_cons d_str a_nil))))))))))))))
    (s_one (s_ret (d_ix (dv 2) (d_index (uH hr) (dv 1) (a_cons d_bl a_nil))))))))))))
theorem sc_law_every : FnScope ["_law_n", "_law_k", "_law_found", "_law_point", "_law_one"] ["_law_n", "_law_k"] (defScope s_law_every) := ⟨rfl, rfl, rfl, by decide +kernel, rfl, by decide +kernel, by decide +kernel⟩
theorem ok_law_every {f : Addr} {fd : FuncData} (F : FunD K "_law_every" "_law_every" (defArgs s_law_every) (defBody s_law_every) (defScope s_law_every) [] [] f fd) (hm : mg "_law_every" = some (.ref f)) (B : Gb K mg)  : ClX P w K mg base 1 "_law_every" F_law_every := by
  have S := sc_law_every
  exact ClX.mk' (k := 0) (N := ["_law_n", "_law_k", "_law_found", "_law_point", "_law_one"]) (ps := ["_law_n", "_law_k"]) F S hm (fun _ _ _ _ _ _ us hl => match us, hl with | [_, _], _ => rfl) fun cdv hcv A outer s H E hr hgd tk po =>
    (s_cons (s_asg (j := 2) (al := false) S.nd rfl (by first | exact Or.inl rfl | exact Or.inr rfl) (d_lst (a_cons (d_tup a_nil) a_nil)))
    (s_cons (s_for po rfl tg_name (i_range B.g_range (dv 0)) (gn 3 S.nd) (s_one (s_asg (j := 2) (al := false) S.nd rfl (by first | exact Or.inl rfl | exact Or.inr rfl) (d_add (dv 2) (d_lc rfl S.nd (own := [("_law_one", 4)]) (blkOk_by (by kernel_rfl)) tg_name (by decide) (i_seq (dv 2)) (fun _ _ _ _ _ => (gn 4 S.nd)) (fun _ _ _ _ _ => ts_nil) (fun _ _ _ _ _ => (d_add (dv 4) (d_tup (a_cons (dv 3) a_nil)))))))))
    (s_one (s_ret (d_sorted rfl hr B.g_sorted (a_cons (d_lc rfl S.nd (own := [("_law_one", 4)]) (blkOk_by (by kernel_rfl)) tg_name (by decide) (i_seq (dv 2)) (fun _ _ _ _ _ => (gn 4 S.nd)) (fun _ _ _ _ _ => (ts_one (t_eq hr (d_len B.g_len (a_cons (dv 4) a_nil)) (dv 1)))) (fun _ _ _ _ _ => (dv 4))) a_nil))))))
theorem sc_law_size : FnScope ["_law_pen_here", "_law_k"] ["_law_pen_here"] (defScope s_law_size) := ⟨rfl, rfl, rfl, by decide +kernel, rfl, by decide +kernel, by decide +kernel⟩
theorem ok_law_size {f : Addr} {fd : FuncData} (F : FunD K "_law_size" "_law_size" (defArgs s_law_size) (defBody s_law_size) (defScope s_law_size) [] [] f fd) (hm : mg "_law_size" = some (.ref f)) (B : Gb K mg) (c_law_draw : ClX P w K mg base 1 "_law_draw" F_law_draw) : ClX P w K mg base 2 "_law_size" F_law_size := by
  have S := sc_law_size
  exact ClX.mk' (k := 1) (N := ["_law_pen_here", "_law_k"]) (ps := ["_law_pen_here"]) F S hm (fun _ _ _ _ _ _ us hl => match us, hl with | [_], _ => rfl) fun cdv hcv A outer s H E hr hgd tk po =>
    (s_cons (s_asg (j := 1) (al := false) S.nd rfl (by first | exact Or.inl rfl | exact Or.inr rfl) (d_ix (d_lst (a_cons d_int (a_cons d_int (a_cons d_int (a_cons d_int (a_cons d_int (a_cons d_int (a_cons d_int (a_cons d_int a_nil))))))))) (d_callT tk hgd c_law_draw hr (by decide) (a_cons (dv 0) (a_cons d_int a_nil)))))
    (s_one (s_ret (d_tup (a_cons (d_add (d_max2 rfl B.g_max (a_cons d_int (a_cons (dv 1) a_nil))) (d_callT tk hgd c_law_draw hr (by decide) (a_cons (dv 0) (a_cons (d_sub d_int (d_max2 rfl B.g_max (a_cons d_int (a_cons (dv 1) a_nil)))) a_nil)))) (a_cons (dv 1) a_nil))))))
theorem sc_law_made : FnScope ["_law_n", "_law_k", "_law_faces"] ["_law_n", "_law_k", "_law_faces"] (defScope s_law_made) := ⟨rfl, rfl, rfl, by decide +kernel, rfl, by decide +kernel, by decide +kernel⟩
theorem ok_law_made {f : Addr} {fd : FuncData} (F : FunD K "_law_made" "_law_made" (defArgs s_law_made) (defBody s_law_made) (defScope s_law_made) [] [] f fd) (hm : mg "_law_made" = some (.ref f)) (B : Gb K mg)  : ClX P w K mg base 1 "_law_made" F_law_made := by
  have S := sc_law_made
  exact ClX.mk' (k := 0) (N := ["_law_n", "_law_k", "_law_faces"]) (ps := ["_law_n", "_law_k", "_law_faces"]) F S hm (fun _ _ _ _ _ _ us hl => match us, hl with | [_, _, _], _ => rfl) fun cdv hcv A outer s H E hr hgd tk po =>
    (s_one (s_ret (d_tup (a_cons (dv 0) (a_cons (dv 1) (a_cons (d_tuple B.g_tuple (a_cons (d_sorted rfl hr B.g_sorted (a_cons (dv 2) a_nil)) a_nil)) a_nil))))))
theorem sc_law_drawn : FnScope ["_law_pen_here", "_law_n", "_law_k", "_law_most", "_law_left", "_law_many", "_law_turn"] ["_law_pen_here", "_law_n", "_law_k", "_law_most"] (defScope s_law_drawn) := ⟨rfl, rfl, rfl, by decide +kernel, rfl, by decide +kernel, by decide +kernel⟩
theorem ok_law_drawn {f : Addr} {fd : FuncData} (F : FunD K "_law_drawn" "_law_drawn" (defArgs s_law_drawn) (defBody s_law_drawn) (defScope s_law_drawn) [] [] f fd) (hm : mg "_law_drawn" = some (.ref f)) (B : Gb K mg) (c_law_every : ClX P w K mg base 1 "_law_every" F_law_every) (c_law_draw : ClX P w K mg base 1 "_law_draw" F_law_draw) : ClX P w K mg base 2 "_law_drawn" F_law_drawn := by
  have S := sc_law_drawn
  exact ClX.mk' (k := 1) (N := ["_law_pen_here", "_law_n", "_law_k", "_law_most", "_law_left", "_law_many", "_law_turn"]) (ps := ["_law_pen_here", "_law_n", "_law_k", "_law_most"]) F S hm (fun _ _ _ _ _ _ us hl => match us, hl with | [_, _, _, _], _ => rfl) fun cdv hcv A outer s H E hr hgd tk po =>
    (s_cons (s_asg (j := 4) (al := true) S.nd rfl (by first | exact Or.inl rfl | exact Or.inr rfl) (d_callT tk hgd c_law_every hr (by decide) (a_cons (dv 1) (a_cons (dv 2) a_nil))))
    (s_cons (s_asg (j := 5) (al := false) S.nd rfl (by first | exact Or.inl rfl | exact Or.inr rfl) (d_add d_int (d_callT tk hgd c_law_draw hr (by decide) (a_cons (dv 0) (a_cons (d_min2 rfl B.g_min (a_cons (dv 3) (a_cons (d_len B.g_len (a_cons (dv 4) a_nil)) a_nil))) a_nil)))))
    (s_one (s_ret (d_lc rfl S.nd (own := [("_law_turn", 6)]) (blkOk_by (by kernel_rfl)) tg_name (by decide) (i_range B.g_range (dv 5)) (fun _ _ _ _ _ => (gn 6 S.nd)) (fun _ _ _ _ _ => ts_nil) (fun _ _ _ _ _ => (d_popAt (dv 4) (a_cons (d_callN hgd c_law_draw hr (by decide) (a_cons (dv 0) (a_cons (d_len B.g_len (a_cons (dv 4) a_nil)) a_nil))) a_nil))))))))
theorem sc_law_common : FnScope ["_law_one", "_law_other", "_law_point"] ["_law_one", "_law_other"] (defScope s_law_common) := ⟨rfl, rfl, rfl, by decide +kernel, rfl, by decide +kernel, by decide +kernel⟩
theorem ok_law_common {f : Addr} {fd : FuncData} (F : FunD K "_law_common" "_law_common" (defArgs s_law_common) (defBody s_law_common) (defScope s_law_common) [] [] f fd) (hm : mg "_law_common" = some (.ref f)) (B : Gb K mg)  : ClX P w K mg base 1 "_law_common" F_law_common := by
  have S := sc_law_common
  exact ClX.mk' (k := 0) (N := ["_law_one", "_law_other", "_law_point"]) (ps := ["_law_one", "_law_other"]) F S hm (fun _ _ _ _ _ _ us hl => match us, hl with | [_, _], _ => rfl) fun cdv hcv A outer s H E hr hgd tk po =>
    (s_one (s_ret (d_lc rfl S.nd (own := [("_law_point", 2)]) (blkOk_by (by kernel_rfl)) tg_name (by decide) (i_seq (dv 0)) (fun _ _ _ _ _ => (gn 2 S.nd)) (fun _ _ _ _ _ => (ts_one (t_inX hr (dv 2) (dv 1)))) (fun _ _ _ _ _ => (dv 2)))))
theorem sc_law_may_v2 : FnScope ["_law_laid", "_law_face", "_law_beside", "_law_other", "_law_both", "_law_one"] ["_law_laid", "_law_face"] (defScope s_law_may_v2) := ⟨rfl, rfl, rfl, by decide +kernel, rfl, by decide +kernel, by decide +kernel⟩
theorem ok_law_may_v2 {f : Addr} {fd : FuncData} (F : FunD K "_law_may" "_law_may" (defArgs s_law_may_v2) (defBody s_law_may_v2) (defScope s_law_may_v2) [] [] f fd) (hm : mg "_law_may" = some (.ref f)) (B : Gb K mg) (c_law_common : ClX P w K mg base 1 "_law_common" F_law_common) : ClX P w K mg base 2 "_law_may" F_law_may_v2 := by
  have S := sc_law_may_v2
  exact ClX.mk' (k := 1) (N := ["_law_laid", "_law_face", "_law_beside", "_law_other", "_law_both", "_law_one"]) (ps := ["_law_laid", "_law_face"]) F S hm (fun _ _ _ _ _ _ us hl => match us, hl with | [_, _], _ => rfl) fun cdv hcv A outer s H E hr hgd tk po =>
    (s_cons (s_asgLc (j := 2) (al := false) rfl S.nd rfl rfl rfl (own := [("_law_one", 5)]) (blkOk_by (by kernel_rfl)) tg_name (by decide) (i_seq (dv 0)) (fun _ _ _ _ _ => (gn 5 S.nd)) (fun _ _ _ _ _ => (ts_one (t_eq hr (d_len B.g_len (a_cons (d_callN hgd c_law_common hr (by decide) (a_cons (dv 1) (a_cons (dv 5) a_nil))) a_nil)) (d_sub (d_len B.g_len (a_cons (dv 1) a_nil)) d_int)))) (fun _ _ _ _ _ => (dv 5)))
    (s_cons (s_for po rfl tg_name (i_seq (dv 0)) (gn 3 S.nd) (s_cons (s_asg (j := 4) (al := false) S.nd rfl (by first | exact Or.inl rfl | exact Or.inr rfl) (d_callT tk hgd c_law_common hr (by decide) (a_cons (dv 1) (a_cons (dv 3) a_nil))))
    (s_one (s_if (t_eq hr (d_lc rfl S.nd (own := [("_law_one", 5)]) (blkOk_by (by kernel_rfl)) tg_name (by decide) (i_seq (dv 2)) (fun _ _ _ _ _ => (gn 5 S.nd)) (fun _ _ _ _ _ => (ts_one (t_eq hr (d_len B.g_len (a_cons (d_callN hgd c_law_common hr (by decide) (a_cons (dv 4) (a_cons (dv 5) a_nil))) a_nil)) (d_len B.g_len (a_cons (dv 4) a_nil))))) (fun _ _ _ _ _ => (dv 5))) (d_lst a_nil)) (s_one (s_ret d_bl)) s_nil))))
    (s_one (s_ret d_bl))))
theorem sc_law_grown : FnScope ["_law_pen_here", "_law_n", "_law_k", "_law_most", "_law_left", "_law_many", "_law_laid", "_law_turn", "_law_face"] ["_law_pen_here", "_law_n", "_law_k", "_law_most"] (defScope s_law_grown) := ⟨rfl, rfl, rfl, by decide +kernel, rfl, by decide +kernel, by decide +kernel⟩
theorem ok_law_grown {f : Addr} {fd : FuncData} (F : FunD K "_law_grown" "_law_grown" (defArgs s_law_grown) (defBody s_law_grown) (defScope s_law_grown) [] [] f fd) (hm : mg "_law_grown" = some (.ref f)) (B : Gb K mg) (c_law_every : ClX P w K mg base 1 "_law_every" F_law_every) (c_law_draw : ClX P w K mg base 1 "_law_draw" F_law_draw) (c_law_may_v2 : ClX P w K mg base 2 "_law_may" F_law_may_v2) : ClX P w K mg base 3 "_law_grown" F_law_grown := by
  have S := sc_law_grown
  exact ClX.mk' (k := 2) (N := ["_law_pen_here", "_law_n", "_law_k", "_law_most", "_law_left", "_law_many", "_law_laid", "_law_turn", "_law_face"]) (ps := ["_law_pen_here", "_law_n", "_law_k", "_law_most"]) F S hm (fun _ _ _ _ _ _ us hl => match us, hl with | [_, _, _, _], _ => rfl) fun cdv hcv A outer s H E hr hgd tk po =>
    (s_cons (s_asg (j := 4) (al := true) S.nd rfl (by first | exact Or.inl rfl | exact Or.inr rfl) (d_callT tk hgd c_law_every hr (by decide) (a_cons (dv 1) (a_cons (dv 2) a_nil))))
    (s_cons (s_asg (j := 5) (al := false) S.nd rfl (by first | exact Or.inl rfl | exact Or.inr rfl) (d_add d_int (d_callT tk hgd c_law_draw hr (by decide) (a_cons (dv 0) (a_cons (dv 3) a_nil)))))
    (s_cons (s_asg (j := 6) (al := true) S.nd rfl (by first | exact Or.inl rfl | exact Or.inr rfl) (d_lst (a_cons (d_popAt (dv 4) (a_cons (d_callT tk hgd c_law_draw hr (by decide) (a_cons (dv 0) (a_cons (d_len B.g_len (a_cons (dv 4) a_nil)) a_nil))) a_nil)) a_nil)))
    (s_cons (s_for po rfl tg_name (i_range B.g_range (d_mul d_int (dv 3))) (gn 7 S.nd) (s_one (s_if (PW.pt (w_and (t_ne hr (dv 4) (d_lst a_nil)) (w_and1 (t_lt hr (d_len B.g_len (a_cons (dv 6) a_nil)) (dv 5))))) (s_cons (s_asg (j := 8) (al := false) S.nd rfl (by first | exact Or.inl rfl | exact Or.inr rfl) (d_popAt (dv 4) (a_cons (d_callT tk hgd c_law_draw hr (by decide) (a_cons (dv 0) (a_cons (d_len B.g_len (a_cons (dv 4) a_nil)) a_nil))) a_nil)))
    (s_one (s_if (t_val (d_callT tk hgd c_law_may_v2 hr (by decide) (a_cons (dv 6) (a_cons (dv 8) a_nil)))) (s_one (s_drop (d_append (dv 6) (a_cons (dv 8) a_nil)))) s_nil))) s_nil)))
    (s_one (s_ret (dv 6)))))))
theorem sc_law_pairs : FnScope ["_law_d", "_law_found", "_law_place", "_law_one"] ["_law_d"] (defScope s_law_pairs) := ⟨rfl, rfl, rfl, by decide +kernel, rfl, by decide +kernel, by decide +kernel⟩
theorem ok_law_pairs {f : Addr} {fd : FuncData} (F : FunD K "_law_pairs" "_law_pairs" (defArgs s_law_pairs) (defBody s_law_pairs) (defScope s_law_pairs) [] [] f fd) (hm : mg "_law_pairs" = some (.ref f)) (B : Gb K mg)  : ClX P w K mg base 1 "_law_pairs" F_law_pairs := by
  have S := sc_law_pairs
  exact ClX.mk' (k := 0) (N := ["_law_d", "_law_found", "_law_place", "_law_one"]) (ps := ["_law_d"]) F S hm (fun _ _ _ _ _ _ us hl => match us, hl with | [_], _ => rfl) fun cdv hcv A outer s H E hr hgd tk po =>
    (s_cons (s_asg (j := 1) (al := false) S.nd rfl (by first | exact Or.inl rfl | exact Or.inr rfl) (d_lst (a_cons (d_tup a_nil) a_nil)))
    (s_cons (s_for po rfl tg_name (i_range B.g_range (dv 0)) (gn 2 S.nd) (s_one (s_asg (j := 1) (al := false) S.nd rfl (by first | exact Or.inl rfl | exact Or.inr rfl) (d_add (d_lc rfl S.nd (own := [("_law_one", 3)]) (blkOk_by (by kernel_rfl)) tg_name (by decide) (i_seq (dv 1)) (fun _ _ _ _ _ => (gn 3 S.nd)) (fun _ _ _ _ _ => ts_nil) (fun _ _ _ _ _ => (d_add (dv 3) (d_tup (a_cons (d_mul d_int (dv 2)) a_nil))))) (d_lc rfl S.nd (own := [("_law_one", 3)]) (blkOk_by (by kernel_rfl)) tg_name (by decide) (i_seq (dv 1)) (fun _ _ _ _ _ => (gn 3 S.nd)) (fun _ _ _ _ _ => ts_nil) (fun _ _ _ _ _ => (d_add (dv 3) (d_tup (a_cons (d_add (d_mul d_int (dv 2)) d_int) a_nil)))))))))
    (s_one (s_ret (d_sorted rfl hr B.g_sorted (a_cons (dv 1) a_nil))))))
theorem sc_law_kindly : FnScope ["_law_pen_here", "_law_most", "_law_way", "_law_more", "_law_n", "_law_k", "_law_ties", "_law_point"] ["_law_pen_here", "_law_most"] (defScope s_law_kindly) := ⟨rfl, rfl, rfl, by decide +kernel, rfl, by decide +kernel, by decide +kernel⟩
theorem ok_law_kindly {f : Addr} {fd : FuncData} (F : FunD K "_law_kindly" "_law_kindly" (defArgs s_law_kindly) (defBody s_law_kindly) (defScope s_law_kindly) [] [] f fd) (hm : mg "_law_kindly" = some (.ref f)) (B : Gb K mg) (c_law_draw : ClX P w K mg base 1 "_law_draw" F_law_draw) (c_law_made : ClX P w K mg base 1 "_law_made" F_law_made) (c_law_every : ClX P w K mg base 1 "_law_every" F_law_every) (c_law_pairs : ClX P w K mg base 1 "_law_pairs" F_law_pairs) : ClX P w K mg base 2 "_law_kindly" F_law_kindly := by
  have S := sc_law_kindly
  exact ClX.mk' (k := 1) (N := ["_law_pen_here", "_law_most", "_law_way", "_law_more", "_law_n", "_law_k", "_law_ties", "_law_point"]) (ps := ["_law_pen_here", "_law_most"]) F S hm (fun _ _ _ _ _ _ us hl => match us, hl with | [_, _], _ => rfl) fun cdv hcv A outer s H E hr hgd tk po =>
    (s_cons (s_par (i := 2) (j := 3) (al := false) (bl := false) rfl S.nd (by decide) (d_callT tk hgd c_law_draw hr (by decide) (a_cons (dv 0) (a_cons d_int a_nil))) (d_callT tk hgd c_law_draw hr (by decide) (a_cons (dv 0) (a_cons d_int a_nil))))
    (s_cons (s_if (t_eq hr (dv 2) d_int) (s_cons (s_asgT (tg_tup (js := [4, 5]) rfl) (d_ix (d_lst (a_cons (d_tup (a_cons d_int (a_cons d_int a_nil))) (a_cons (d_tup (a_cons d_int (a_cons d_int a_nil))) (a_cons (d_tup (a_cons d_int (a_cons d_int a_nil))) (a_cons (d_tup (a_cons d_int (a_cons d_int a_nil))) (a_cons (d_tup (a_cons d_int (a_cons d_int a_nil))) (a_cons (d_tup (a_cons d_int (a_cons d_int a_nil))) a_nil))))))) (dv 3)) (pg_tup rfl (pgs_cons (gn 4 S.nd) (pgs_cons (gn 5 S.nd) pgs_nil))))
    (s_one (s_ret (d_callT tk hgd c_law_made hr (by decide) (a_cons (dv 4) (a_cons (dv 5) (a_cons (d_sl (d_callT tk hgd c_law_every hr (by decide) (a_cons (dv 4) (a_cons (dv 5) a_nil))) p_no (p_yes (dv 1))) a_nil))))))) s_nil)
    (s_cons (s_if (t_eq hr (dv 2) d_int) (s_one (s_ret (d_callT tk hgd c_law_made hr (by decide) (a_cons (d_add d_int (d_mul d_int (d_mod (dv 3) d_int))) (a_cons (d_add d_int (d_mod (dv 3) d_int)) (a_cons (d_sl (d_callT tk hgd c_law_pairs hr (by decide) (a_cons (d_add d_int (d_mod (dv 3) d_int)) a_nil)) p_no (p_yes (dv 1))) a_nil)))))) s_nil)
    (s_cons (s_asgLc (j := 6) (al := false) rfl S.nd rfl rfl rfl (own := [("_law_point", 7)]) (blkOk_by (by kernel_rfl)) tg_name (by decide) (i_range B.g_range (d_add d_int (dv 3))) (fun _ _ _ _ _ => (gn 7 S.nd)) (fun _ _ _ _ _ => ts_nil) (fun _ _ _ _ _ => (d_tup (a_cons (dv 7) (a_cons (d_add (dv 7) d_int) a_nil)))))
    (s_cons (s_if (t_eq hr (dv 2) d_int) (s_one (s_asg (j := 6) (al := false) S.nd rfl (by first | exact Or.inl rfl | exact Or.inr rfl) (d_sorted rfl hr B.g_sorted (a_cons (d_add (dv 6) (d_lst (a_cons (d_tup (a_cons d_int (a_cons (d_add d_int (dv 3)) a_nil))) a_nil))) a_nil)))) s_nil)
    (s_one (s_ret (d_callT tk hgd c_law_made hr (by decide) (a_cons (d_add d_int (dv 3)) (a_cons d_int (a_cons (d_sl (dv 6) p_no (p_yes (dv 1))) a_nil)))))))))))
theorem sc_law_stack_v2 : FnScope ["_law_pen_here", "_law_most", "_law_way", "_law_n", "_law_k"] ["_law_pen_here", "_law_most"] (defScope s_law_stack_v2) := ⟨rfl, rfl, rfl, by decide +kernel, rfl, by decide +kernel, by decide +kernel⟩
theorem ok_law_stack_v2 {f : Addr} {fd : FuncData} (F : FunD K "_law_stack" "_law_stack" (defArgs s_law_stack_v2) (defBody s_law_stack_v2) (defScope s_law_stack_v2) [] [] f fd) (hm : mg "_law_stack" = some (.ref f)) (B : Gb K mg) (c_law_draw : ClX P w K mg base 1 "_law_draw" F_law_draw) (c_law_size : ClX P w K mg base 2 "_law_size" F_law_size) (c_law_kindly : ClX P w K mg base 2 "_law_kindly" F_law_kindly) (c_law_made : ClX P w K mg base 1 "_law_made" F_law_made) (c_law_drawn : ClX P w K mg base 2 "_law_drawn" F_law_drawn) (c_law_grown : ClX P w K mg base 3 "_law_grown" F_law_grown) : ClX P w K mg base 4 "_law_stack" F_law_stack_v2 := by
  have S := sc_law_stack_v2
  exact ClX.mk' (k := 3) (N := ["_law_pen_here", "_law_most", "_law_way", "_law_n", "_law_k"]) (ps := ["_law_pen_here", "_law_most"]) F S hm (fun _ _ _ _ _ _ us hl => match us, hl with | [_, _], _ => rfl) fun cdv hcv A outer s H E hr hgd tk po =>
    (s_cons (s_asg (j := 2) (al := false) S.nd rfl (by first | exact Or.inl rfl | exact Or.inr rfl) (d_callT tk hgd c_law_draw hr (by decide) (a_cons (dv 0) (a_cons d_int a_nil))))
    (s_cons (s_asgT (tg_tup (js := [3, 4]) rfl) (d_callT tk hgd c_law_size hr (by decide) (a_cons (dv 0) a_nil)) (pg_tup rfl (pgs_cons (gn 3 S.nd) (pgs_cons (gn 4 S.nd) pgs_nil))))
    (s_cons (s_if (t_eq hr (dv 2) d_int) (s_one (s_ret (d_callT tk hgd c_law_kindly hr (by decide) (a_cons (dv 0) (a_cons (dv 1) a_nil))))) s_nil)
    (s_cons (s_if (t_lt hr (dv 2) d_int) (s_one (s_ret (d_callT tk hgd c_law_made hr (by decide) (a_cons (dv 3) (a_cons (dv 4) (a_cons (d_callT tk hgd c_law_drawn hr (by decide) (a_cons (dv 0) (a_cons (dv 3) (a_cons (dv 4) (a_cons (dv 1) a_nil))))) a_nil)))))) s_nil)
    (s_one (s_ret (d_callT tk hgd c_law_made hr (by decide) (a_cons (dv 3) (a_cons (dv 4) (a_cons (d_callT tk hgd c_law_grown hr (by decide) (a_cons (dv 0) (a_cons (dv 3) (a_cons (dv 4) (a_cons (dv 1) a_nil))))) a_nil))))))))))
theorem sc_law_no_stack : FnScope ["_law_pen_here", "_law_stack_here", "_law_n", "_law_k", "_law_faces", "_law_way", "_law_spot", "_law_at", "_law_odd", "_law_face", "_law_ahead", "_law_behind", "_law_bent", "_law_some"] ["_law_pen_here", "_law_stack_here"] (defScope s_law_no_stack) := ⟨rfl, rfl, rfl, by decide +kernel, rfl, by decide +kernel, by decide +kernel⟩
theorem ok_law_no_stack {f : Addr} {fd : FuncData} (F : FunD K "_law_no_stack" "_law_no_stack" (defArgs s_law_no_stack) (defBody s_law_no_stack) (defScope s_law_no_stack) [] [] f fd) (hm : mg "_law_no_stack" = some (.ref f)) (B : Gb K mg) (c_law_draw : ClX P w K mg base 1 "_law_draw" F_law_draw) : ClX P w K mg base 2 "_law_no_stack" F_law_no_stack := by
  have S := sc_law_no_stack
  exact ClX.mk' (k := 1) (N := ["_law_pen_here", "_law_stack_here", "_law_n", "_law_k", "_law_faces", "_law_way", "_law_spot", "_law_at", "_law_odd", "_law_face", "_law_ahead", "_law_behind", "_law_bent", "_law_some"]) (ps := ["_law_pen_here", "_law_stack_here"]) F S hm (fun _ _ _ _ _ _ us hl => match us, hl with | [_, _], _ => rfl) fun cdv hcv A outer s H E hr hgd tk po =>
    (s_cons (s_asgT (tg_tup (js := [2, 3, 4]) rfl) (dv 1) (pg_tup rfl (pgs_cons (gn 2 S.nd) (pgs_cons (gn 3 S.nd) (pgs_cons (gn 4 S.nd) pgs_nil)))))
    (s_cons (s_par3 (i := 5) (j := 6) (l := 7) rfl S.nd (by decide) (by decide) (by decide) (a_cons (d_callT tk hgd c_law_draw hr (by decide) (a_cons (dv 0) (a_cons d_int a_nil))) (a_cons (d_callT tk hgd c_law_draw hr (by decide) (a_cons (dv 0) (a_cons (d_len B.g_len (a_cons (dv 4) a_nil)) a_nil))) (a_cons (d_callT tk hgd c_law_draw hr (by decide) (a_cons (dv 0) (a_cons (d_max2 rfl B.g_max (a_cons d_int (a_cons (dv 3) a_nil))) a_nil))) a_nil))))
    (s_cons (s_asg (j := 8) (al := false) S.nd rfl (by first | exact Or.inl rfl | exact Or.inr rfl) (d_ix (d_lst (a_cons d_non (a_cons d_bl (a_cons (d_neg d_int) (a_cons (dv 2) (a_cons d_str (a_cons (d_tup (a_cons d_int a_nil)) (a_cons (d_pow d_int d_int) a_nil)))))))) (d_callT tk hgd c_law_draw hr (by decide) (a_cons (dv 0) (a_cons d_int a_nil)))))
    (s_cons (s_asg (j := 9) (al := false) S.nd rfl (by first | exact Or.inl rfl | exact Or.inr rfl) (d_ix (dv 4) (dv 6)))
    (s_cons (s_par (i := 10) (j := 11) (al := false) (bl := false) rfl S.nd (by decide) (d_sl (dv 4) p_no (p_yes (dv 6))) (d_sl (dv 4) (p_yes (d_add (dv 6) d_int)) p_no))
    (s_cons (s_asg (j := 12) (al := false) S.nd rfl (by first | exact Or.inl rfl | exact Or.inr rfl) (d_add (d_add (d_sl (dv 9) p_no (p_yes (dv 7))) (d_tup (a_cons (dv 8) a_nil))) (d_sl (dv 9) (p_yes (d_add (dv 7) d_int)) p_no)))
    (s_cons (s_asg (j := 13) (al := false) S.nd rfl (by first | exact Or.inl rfl | exact Or.inr rfl) (d_lst (a_cons (d_tup (a_cons (dv 2) (a_cons (dv 3) (a_cons (d_add (d_add (dv 10) (d_tup (a_cons (dv 12) a_nil))) (dv 11)) a_nil)))) (a_cons (d_tup (a_cons (dv 2) (a_cons (dv 3) (a_cons (d_add (d_add (dv 10) (d_tup (a_cons (d_list B.g_list (a_cons (dv 9) a_nil)) a_nil))) (dv 11)) a_nil)))) a_nil))))
    (s_cons (s_asg (j := 13) (al := false) S.nd rfl (by first | exact Or.inl rfl | exact Or.inr rfl) (d_add (dv 13) (d_lst (a_cons (d_tup (a_cons (dv 2) (a_cons (dv 3) (a_cons (d_add (d_add (dv 10) (d_tup (a_cons (dv 9) (a_cons (dv 9) a_nil)))) (dv 11)) a_nil)))) (a_cons (d_tup (a_cons (dv 2) (a_cons (dv 3) (a_cons (d_add (dv 4) (d_sl (dv 4) p_no (p_yes d_int))) a_nil)))) (a_cons (d_tup (a_cons (dv 2) (a_cons (dv 3) (a_cons (d_list B.g_list (a_cons (dv 4) a_nil)) a_nil)))) a_nil))))))
    (s_cons (s_asg (j := 13) (al := false) S.nd rfl (by first | exact Or.inl rfl | exact Or.inr rfl) (d_add (dv 13) (d_lst (a_cons (d_tup (a_cons (dv 2) (a_cons (dv 3) (a_cons (d_tup a_nil) a_nil)))) (a_cons (d_tup (a_cons d_int (a_cons (dv 3) (a_cons (dv 4) a_nil)))) (a_cons (d_tup (a_cons d_int (a_cons (dv 3) (a_cons (dv 4) a_nil)))) a_nil))))))
    (s_cons (s_asg (j := 13) (al := false) S.nd rfl (by first | exact Or.inl rfl | exact Or.inr rfl) (d_add (dv 13) (d_lst (a_cons (d_tup (a_cons (dv 2) (a_cons d_int (a_cons (dv 4) a_nil)))) (a_cons (d_tup (a_cons (dv 2) (a_cons (d_add (dv 3) d_int) (a_cons (dv 4) a_nil)))) (a_cons (d_tup (a_cons (dv 2) (a_cons (d_sub (dv 3) d_int) (a_cons (dv 4) a_nil)))) (a_cons (d_tup (a_cons d_bl (a_cons (dv 3) (a_cons (dv 4) a_nil)))) (a_cons (d_tup (a_cons (dv 2) (a_cons d_non (a_cons (dv 4) a_nil)))) a_nil))))))))
    (s_one (s_ret (d_ix (d_add (dv 13) (d_lst (a_cons (d_lst (a_cons (dv 2) (a_cons (dv 3) (a_cons (dv 4) a_nil)))) (a_cons (d_tup (a_cons (dv 2) (a_cons (dv 3) a_nil))) (a_cons d_non (a_cons (d_tup (a_cons (dv 2) (a_cons (dv 3) (a_cons (dv 4) (a_cons d_int a_nil))))) (a_cons d_int (a_cons d_str (a_cons d_dict a_nil))))))))) (dv 5))))))))))))))
theorem sc_law_names : FnScope ["_law_pen_here", "_law_n", "_law_left", "_law_point"] ["_law_pen_here", "_law_n"] (defScope s_law_names) := ⟨rfl, rfl, rfl, by decide +kernel, rfl, by decide +kernel, by decide +kernel⟩
theorem ok_law_names {f : Addr} {fd : FuncData} (F : FunD K "_law_names" "_law_names" (defArgs s_law_names) (defBody s_law_names) (defScope s_law_names) [] [] f fd) (hm : mg "_law_names" = some (.ref f)) (B : Gb K mg) (c_law_draw : ClX P w K mg base 1 "_law_draw" F_law_draw) : ClX P w K mg base 2 "_law_names" F_law_names := by
  have S := sc_law_names
  exact ClX.mk' (k := 1) (N := ["_law_pen_here", "_law_n", "_law_left", "_law_point"]) (ps := ["_law_pen_here", "_law_n"]) F S hm (fun _ _ _ _ _ _ us hl => match us, hl with | [_, _], _ => rfl) fun cdv hcv A outer s H E hr hgd tk po =>
    (s_cons (s_asg (j := 2) (al := true) S.nd rfl (by first | exact Or.inl rfl | exact Or.inr rfl) (d_lstRg rfl B.g_list B.g_range (dv 1)))
    (s_one (s_ret (d_tuple B.g_tuple (a_cons (d_lc rfl S.nd (own := [("_law_point", 3)]) (blkOk_by (by kernel_rfl)) tg_name (by decide) (i_range B.g_range (dv 1)) (fun _ _ _ _ _ => (gn 3 S.nd)) (fun _ _ _ _ _ => ts_nil) (fun _ _ _ _ _ => (d_popAt (dv 2) (a_cons (d_callN hgd c_law_draw hr (by decide) (a_cons (dv 0) (a_cons (d_len B.g_len (a_cons (dv 2) a_nil)) a_nil))) a_nil)))) a_nil)))))
theorem sc_law_no_names : FnScope ["_law_pen_here", "_law_names_here", "_law_way", "_law_at", "_law_odd", "_law_some", "_law_twice"] ["_law_pen_here", "_law_names_here"] (defScope s_law_no_names) := ⟨rfl, rfl, rfl, by decide +kernel, rfl, by decide +kernel, by decide +kernel⟩
theorem ok_law_no_names {f : Addr} {fd : FuncData} (F : FunD K "_law_no_names" "_law_no_names" (defArgs s_law_no_names) (defBody s_law_no_names) (defScope s_law_no_names) [] [] f fd) (hm : mg "_law_no_names" = some (.ref f)) (B : Gb K mg) (c_law_draw : ClX P w K mg base 1 "_law_draw" F_law_draw) : ClX P w K mg base 2 "_law_no_names" F_law_no_names := by
  have S := sc_law_no_names
  exact ClX.mk' (k := 1) (N := ["_law_pen_here", "_law_names_here", "_law_way", "_law_at", "_law_odd", "_law_some", "_law_twice"]) (ps := ["_law_pen_here", "_law_names_here"]) F S hm (fun _ _ _ _ _ _ us hl => match us, hl with | [_, _], _ => rfl) fun cdv hcv A outer s H E hr hgd tk po =>
    (s_cons (s_par (i := 2) (j := 3) (al := false) (bl := false) rfl S.nd (by decide) (d_callT tk hgd c_law_draw hr (by decide) (a_cons (dv 0) (a_cons d_int a_nil))) (d_callT tk hgd c_law_draw hr (by decide) (a_cons (dv 0) (a_cons (d_len B.g_len (a_cons (dv 1) a_nil)) a_nil))))
    (s_cons (s_asg (j := 4) (al := false) S.nd rfl (by first | exact Or.inl rfl | exact Or.inr rfl) (d_ix (d_lst (a_cons (d_len B.g_len (a_cons (dv 1) a_nil)) (a_cons (d_neg d_int) (a_cons d_non (a_cons d_bl (a_cons d_str (a_cons (d_tup (a_cons d_int a_nil)) (a_cons (d_pow d_int d_int) a_nil)))))))) (d_callT tk hgd c_law_draw hr (by decide) (a_cons (dv 0) (a_cons d_int a_nil)))))
    (s_cons (s_asg (j := 5) (al := false) S.nd rfl (by first | exact Or.inl rfl | exact Or.inr rfl) (d_lst (a_cons (d_add (d_add (d_sl (dv 1) p_no (p_yes (dv 3))) (d_tup (a_cons (dv 4) a_nil))) (d_sl (dv 1) (p_yes (d_add (dv 3) d_int)) p_no)) (a_cons (d_sl (dv 1) p_no (p_yes (d_neg d_int))) (a_cons (d_add (dv 1) (d_tup (a_cons (d_len B.g_len (a_cons (dv 1) a_nil)) a_nil))) (a_cons (d_list B.g_list (a_cons (dv 1) a_nil)) (a_cons (d_add (dv 1) (d_sl (dv 1) p_no (p_yes d_int))) a_nil)))))))
    (s_cons (s_asg (j := 6) (al := false) S.nd rfl (by first | exact Or.inl rfl | exact Or.inr rfl) (d_if (t_gt (d_len B.g_len (a_cons (dv 1) a_nil)) d_int) (d_add (d_sl (dv 1) (p_yes (d_neg d_int)) p_no) (d_sl (dv 1) (p_yes d_int) p_no)) (d_tup a_nil)))
    (s_cons (s_asg (j := 5) (al := false) S.nd rfl (by first | exact Or.inl rfl | exact Or.inr rfl) (d_add (dv 5) (d_lst (a_cons d_non (a_cons d_int (a_cons d_dict (a_cons d_str (a_cons (dv 6) (a_cons (d_tup (a_cons (dv 1) a_nil)) (a_cons (d_lst (a_cons (dv 1) a_nil)) a_nil))))))))))
    (s_one (s_ret (d_ix (dv 5) (dv 2)))))))))
theorem sc_law_came_v21 : FnScope ["_law_way", "_law_stack_here", "_law_names_here", "_law_e"] ["_law_way", "_law_stack_here", "_law_names_here"] (defScope s_law_came_v21) := ⟨rfl, rfl, rfl, by decide +kernel, rfl, by decide +kernel, by decide +kernel⟩
theorem ok_law_came_v21 {f : Addr} {fd : FuncData} (F : FunD K "_law_came" "_law_came" (defArgs s_law_came_v21) (defBody s_law_came_v21) (defScope s_law_came_v21) [] [] f fd) (hm : mg "_law_came" = some (.ref f)) (B : Gb K mg) (c_named : ClX P w K mg base 7 "named" F_named) (c_named_back : ClX P w K mg base 7 "named_back" F_named_back) (c_law_kind_of : ClE P w K mg base 1 "_law_kind_of" kcs F_law_kind_of) : ClX P w K mg base 8 "_law_came" F_law_came_v21 := by
  have S := sc_law_came_v21
  exact ClX.mk' (k := 7) (N := ["_law_way", "_law_stack_here", "_law_names_here", "_law_e"]) (ps := ["_law_way", "_law_stack_here", "_law_names_here"]) F S hm (fun _ _ _ _ _ _ us hl => match us, hl with | [_, _, _], _ => rfl) fun cdv hcv A outer s H E hr hgd tk po =>
    (s_one (s_tryK (j := 3) rfl rfl S.nd tk hr (by decide) c_law_kind_of B.c_LayError B.ki.exm kd_law_kind_of fun W2 pn2 xe2 tk po => (s_one (s_ret (d_tab tk hgd (.cons c_named (by decide) rfl (by decide) (.cons c_named_back (by decide) rfl (by decide) .nil)) (by decide) hr (Nat.le_refl _) (dv 0) (a_cons (dv 1) (a_cons (dv 2) a_nil)))))))
theorem sc_law : FnScope ["_law_script", "_law_cell_here", "_law_pen_here", "_law_stack_here", "_law_names_here", "_law_faces", "_law_due", "_law_bad", "_law_odd", "_law_kept", "_law_way", "_law_turn", "_law_some", "_law_face", "_law_point", "_law_name", "_law_none"] ["_law_script"] (defScope s_law) := ⟨rfl, rfl, rfl, by decide +kernel, rfl, by decide +kernel, by decide +kernel⟩
theorem ok_law {f : Addr} {fd : FuncData} (F : FunD K "law" "law" (defArgs s_law) (defBody s_law) (defScope s_law) [] [] f fd) (hm : mg "law" = some (.ref f)) (B : Gb K mg) (c_law_cell : ClX P w K mg base 1 "_law_cell" F_law_cell) (c_law_pen : ClX P w K mg base 1 "_law_pen" F_law_pen) (c_law_stack_v2 : ClX P w K mg base 4 "_law_stack" F_law_stack_v2) (c_law_names : ClX P w K mg base 2 "_law_names" F_law_names) (c_law_made : ClX P w K mg base 1 "_law_made" F_law_made) (c_law_no_stack : ClX P w K mg base 2 "_law_no_stack" F_law_no_stack) (c_law_no_names : ClX P w K mg base 2 "_law_no_names" F_law_no_names) (c_law_same_v2 : ClX P w K mg base 9 "_law_same" (F_law_same_v2 8)) (c_law_came_v21 : ClX P w K mg base 8 "_law_came" F_law_came_v21) : FnG P w K mg base CX0 10 f fd ["_law_script"] (spD K F_law) := by
  have S := sc_law
  exact fn_okL (k := 9) (N := ["_law_script", "_law_cell_here", "_law_pen_here", "_law_stack_here", "_law_names_here", "_law_faces", "_law_due", "_law_bad", "_law_odd", "_law_kept", "_law_way", "_law_turn", "_law_some", "_law_face", "_law_point", "_law_name", "_law_none"]) (ps := ["_law_script"]) F hm S fun cdv hcv A outer s H E hr hgd tk po =>
    (s_cons (s_for po rfl tg_name (i_seq (d_add (d_lst (a_cons (d_callT tk hgd c_law_cell hr (by decide) (a_cons (dv 0) (a_cons d_int a_nil))) a_nil)) (d_sl (dv 0) (p_yes d_int) (p_yes d_int)))) (gn 1 S.nd) (s_cons (s_asg (j := 2) (al := true) S.nd rfl (by first | exact Or.inl rfl | exact Or.inr rfl) (d_callT tk hgd c_law_pen hr (by decide) (a_cons (dv 1) a_nil)))
    (s_cons (s_asg (j := 3) (al := false) S.nd rfl (by first | exact Or.inl rfl | exact Or.inr rfl) (d_callT tk hgd c_law_stack_v2 hr (by decide) (a_cons (dv 2) (a_cons d_int a_nil))))
    (s_cons (s_asg (j := 4) (al := false) S.nd rfl (by first | exact Or.inl rfl | exact Or.inr rfl) (d_callT tk hgd c_law_names hr (by decide) (a_cons (dv 2) (a_cons (d_ix (dv 3) d_int) a_nil))))
    (s_cons (s_asgLc (j := 5) (al := false) rfl S.nd rfl rfl rfl (own := [("_law_face", 13)]) (blkOk_by (by kernel_rfl)) tg_name (by decide) (i_seq (d_ix (dv 3) d_int)) (fun _ _ _ _ _ => (gn 13 S.nd)) (fun _ _ _ _ _ => ts_nil) (fun _ _ _ _ _ => (d_tuple B.g_tuple (a_cons (d_sorted rfl hr B.g_sorted (a_cons (d_lc rfl S.nd (own := [("_law_point", 14)]) (blkOk_by (by kernel_rfl)) tg_name (by decide) (i_seq (dv 13)) (fun _ _ _ _ _ => (gn 14 S.nd)) (fun _ _ _ _ _ => ts_nil) (fun _ _ _ _ _ => (d_ix (dv 4) (dv 14)))) a_nil)) a_nil))))
    (s_cons (s_asg (j := 6) (al := false) S.nd rfl (by first | exact Or.inl rfl | exact Or.inr rfl) (d_lst (a_cons (d_callT tk hgd c_law_made hr (by decide) (a_cons (d_ix (dv 3) d_int) (a_cons (d_ix (dv 3) d_int) (a_cons (dv 5) a_nil)))) (a_cons (d_tuple B.g_tuple (a_cons (d_lc rfl S.nd (own := [("_law_point", 14)]) (blkOk_by (by kernel_rfl)) tg_name (by decide) (i_range B.g_range (d_ix (dv 3) d_int)) (fun _ _ _ _ _ => (gn 14 S.nd)) (fun _ _ _ _ _ => ts_nil) (fun _ _ _ _ _ => (d_tindex (units65 hr) (dv 4) (a_cons (dv 14) a_nil)))) a_nil)) a_nil))))
    (s_cons (s_par3 (i := 7) (j := 8) (l := 9) rfl S.nd (by decide) (by decide) (by decide) (a_cons (d_callT tk hgd c_law_no_stack hr (by decide) (a_cons (dv 2) (a_cons (dv 3) a_nil))) (a_cons (d_callT tk hgd c_law_no_names hr (by decide) (a_cons (dv 2) (a_cons (dv 4) a_nil))) (a_cons (d_repr hgd (units65 hr) B.sm B.g_repr (a_cons (d_lst (a_cons (dv 3) (a_cons (dv 4) a_nil))) a_nil)) a_nil))))
    (s_one (s_for po rfl tg_name (i_range B.g_range d_int) (gn 10 S.nd) (s_cons (s_for po rfl tg_name (i_range B.g_range d_int) (gn 11 S.nd) (s_one (s_if (PW.pt (w_or (t_not (t_val (d_callT tk hgd c_law_same_v2 hr (by decide) (a_cons (d_callT tk hgd c_law_came_v21 hr (by decide) (a_cons (dv 10) (a_cons (dv 3) (a_cons (dv 4) a_nil)))) (a_cons (d_ix (dv 6) (dv 10)) a_nil))))) (w_or1 (t_ne hr (d_repr hgd (units65 hr) B.sm B.g_repr (a_cons (d_lst (a_cons (dv 3) (a_cons (dv 4) a_nil))) a_nil)) (dv 9))))) (s_one (s_ret d_bl)) s_nil)))
    (s_cons (s_asg (j := 12) (al := true) S.nd rfl (by first | exact Or.inl rfl | exact Or.inr rfl) (d_lst (a_cons (dv 8) (a_cons (d_add (d_sl (dv 4) (p_yes d_int) p_no) (d_tup (a_cons (d_lst (a_cons d_int a_nil)) a_nil))) (a_cons (d_add (d_sl (dv 4) (p_yes d_int) p_no) (d_tup (a_cons d_dict a_nil))) a_nil)))))
    (s_cons (s_drop (d_append (dv 12) (a_cons (d_tuple B.g_tuple (a_cons (d_lc rfl S.nd (own := [("_law_name", 15)]) (blkOk_by (by kernel_rfl)) tg_name (by decide) (i_seq (dv 4)) (fun _ _ _ _ _ => (gn 15 S.nd)) (fun _ _ _ _ _ => ts_nil) (fun _ _ _ _ _ => (d_ix (d_lst (a_cons (dv 15) (a_cons d_bl a_nil))) (d_intc B.g_int (a_cons (d_eq hr (dv 15) d_int) a_nil))))) a_nil)) a_nil)))
    (s_cons (s_if (t_ne hr (d_lc rfl S.nd (own := [("_law_none", 16)]) (blkOk_by (by kernel_rfl)) tg_name (by decide) (i_seq (dv 12)) (fun _ _ _ _ _ => (gn 16 S.nd)) (fun _ _ _ _ _ => ts_nil) (fun _ _ _ _ _ => (d_callN hgd c_law_came_v21 hr (by decide) (a_cons (dv 10) (a_cons (dv 3) (a_cons (dv 16) a_nil)))))) (d_mul (d_lst (a_cons d_str a_nil)) d_int)) (s_one (s_ret d_bl)) s_nil)
    (s_one (s_if (t_ne hr (d_lst (a_cons (d_callT tk hgd c_law_came_v21 hr (by decide) (a_cons (dv 10) (a_cons (dv 7) (a_cons (dv 4) a_nil)))) (a_cons (d_callT tk hgd c_law_came_v21 hr (by decide) (a_cons (dv 10) (a_cons (dv 7) (a_cons (dv 8) a_nil)))) a_nil))) (d_mul (d_lst (a_cons d_str a_nil)) d_int)) (s_one (s_ret d_bl)) s_nil)))))))))))))))
    (s_one (s_ret d_bl)))
end
end Lw
set_option Elab.async false
set_option linter.all false
set_option maxRecDepth 100000
set_option maxHeartbeats 2000000
namespace Lf
open PySem PySem.Spec PyProof.Rows L2
inductive VV where
  | d (x : PyData)
  | k (xs : List PyData)
  | f (a : Addr)
  | m (x : PyData)
  | p (x : PyData)
inductive VR where
  | d (x : PyData)
  | o (x : PyData)
  | k (xs : List PyData)
  | f (a : Addr)
  | ref (j : Nat)
abbrev VE := List (Option VV)
inductive Rs (A : Type) where
  | ok (a : A) (e : VE)
  | ex (x : Xn) (e : VE)
  | bad
@[simp] def Rs.bind {A B : Type} (r : Rs A) (k : A → VE → Rs B) : Rs B := match r with
  | .ok a e => k a e
  | .ex x e => .ex x e
  | .bad => .bad
inductive VS where
  | next (e : VE)
  | ret (r : VR) (e : VE)
  | brk (e : VE)
  | cont (e : VE)
  | ex (x : Xn) (e : VE)
  | bad
@[simp] def Rs.go {A : Type} (r : Rs A) (k : A → VE → VS) : VS := match r with
  | .ok a e => k a e
  | .ex x e => .ex x e
  | .bad => .bad
abbrev VD := VE → Rs VR
abbrev VDT := VE → Rs Bool
abbrev VDA := VE → Rs (List VR)
abbrev VDS := VE → VS
abbrev VF := List VV → Rs VR
@[simp] theorem unlO_n : unlO none = none := rfl
theorem unlO_ok {x : PyData} (h : isLk x = false) : unlO (some x) = some x := by unfold unlO; simp only [h]; rfl
@[simp] theorem unlO_l (ds : List PyData) : unlO (some (.list ds)) = some (.list ds) := rfl
@[simp] theorem unlO_d (ds : List (PyData × PyData)) : unlO (some (.dict ds)) = some (.dict ds) := rfl
@[simp] def VR.fz : VR → VR
  | .o x => .d x
  | r => r
@[simp] def slotM (e : VE) (j : Nat) : Option PyData := match e[j]? with
  | some (some (.m x)) => some x
  | some (some (.p x)) => some x
  | _ => none
@[simp] def VR.rd (e : VE) : VR → Option PyData
  | .d x => some x
  | .o x => some x
  | .ref j => unlO (slotM e j)
  | .k _ => none
  | .f _ => none
@[simp] def VR.rdK (e : VE) : VR → Option PyData
  | .d x => some x
  | .o x => some x
  | .ref j => unlO (slotM e j)
  | .k xs => some (.list xs)
  | .f _ => none
@[simp] def VR.of : Rv → Option VR
  | .w (.d x) => some (.d x)
  | .own x => some (.o x)
  | _ => none
structure Fr where
  n0 : Nat
  pin : Nat → Option Nat
  fz : Nat → Option PyData
def At (Γ : Fr) (M : Mem) (j : Nat) : VV → Wv → Prop
  | .d x, w => w = .d x
  | .k x, w => w = .k x
  | .f x, w => w = .f x
  | .m x, w => ∃ l, w = .r l ∧ M[l]? = some x ∧ Γ.fz l = none ∧ Γ.n0 ≤ l
  | .p x, w => ∃ l, w = .r l ∧ M[l]? = some x ∧ Γ.fz l = none ∧ Γ.pin j = some l
structure Rel (Γ : Fr) (ve : VE) (e : En) (M : Mem) : Prop where
  len : ve.length = e.length
  at_ : ∀ j v, ve[j]? = some (some v) → ∃ w, e[j]? = some (some w) ∧ At Γ M j v w
  inj : ∀ (j j' l : Nat), (slotM ve j).isSome = true → (slotM ve j').isSome = true → e[j]? = some (some (.r l)) → e[j']? = some (some (.r l)) → j = j'
  n0 : Γ.n0 ≤ M.length
  fz : ∀ l c, Γ.fz l = some c → M[l]? = some c
  wf : ∀ (j l : Nat), e[j]? = some (some (.r l)) → l < M.length
def RR (e : En) : VR → Rv → Prop
  | .d x, r => r = .w (.d x)
  | .o x, r => r = .own x
  | .k x, r => r = .w (.k x)
  | .f x, r => r = .w (.f x)
  | .ref j, r => ∃ l, r = .w (.r l) ∧ e[j]? = some (some (.r l))
def RW (e : En) : VR → Wv → Prop
  | .d x, r => r = .d x
  | .o x, r => False
  | .k x, r => r = .k x
  | .f x, r => r = .f x
  | .ref j, r => ∃ l, r = .r l ∧ e[j]? = some (some (.r l))
def OutA {A A' : Type} (Γ : Fr) (RA : En → A' → A → Prop) (e : En) : Rs A' → Ans A → Prop
  | .ok a' ve, o => ∃ a M, o = .val a M ∧ RA e a' a ∧ Rel Γ ve e M
  | .ex x ve, o => ∃ M, o = .exc x M ∧ Rel Γ ve e M
  | .bad, _ => True
def JG {A A' : Type} (RA : En → A' → A → Prop) (f : En → Mem → Ans A) (v : VE → Rs A') : Prop := ∀ Γ ve e M, Rel Γ ve e M → OutA Γ RA e (v ve) (f e M)
abbrev JE (f : Den) (v : VD) : Prop := JG RR f v
abbrev JT (f : DenT) (v : VDT) : Prop := JG (fun _ a b => a = b) f v
inductive RWs (e : En) : List VR → List Wv → Prop
  | nil : RWs e [] []
  | cons {r w rs ws} : RW e r w → RWs e rs ws → RWs e (r :: rs) (w :: ws)
abbrev JA (f : En → Mem → Ans (List Wv)) (v : VDA) : Prop := JG RWs f v
def OutS (Γ : Fr) : VS → SAns → Prop
  | .next ve, o => ∃ e M, o = .next e M ∧ Rel Γ ve e M
  | .ret r ve, o => ∃ e r' M, o = .ret r' M ∧ RR e r r' ∧ Rel Γ ve e M
  | .brk ve, o => ∃ e M, o = .brk e M ∧ Rel Γ ve e M
  | .cont ve, o => ∃ e M, o = .cont e M ∧ Rel Γ ve e M
  | .ex x ve, o => ∃ e M, o = .exc x e M ∧ Rel Γ ve e M
  | .bad, _ => True
def JS (f : DenS) (v : VDS) : Prop := ∀ Γ ve e M, Rel Γ ve e M → OutS Γ (v ve) (f e M)
section
variable {Γ : Fr} {ve : VE} {e : En} {M : Mem}
theorem OutA.bind {A A' B B' : Type} {RA : En → A' → A → Prop} {RB : En → B' → B → Prop} {r : Rs A'} {o : Ans A} {k' : A' → VE → Rs B'} {k : A → Mem → Ans B} (h : OutA Γ RA e r o)
    (hk : ∀ a' ve a M, RA e a' a → Rel Γ ve e M → OutA Γ RB e (k' a' ve) (k a M)) : OutA Γ RB e (r.bind k') (o.bind k) := by
  cases r with
  | ok a' ve => obtain ⟨a, M, rfl, h1, h2⟩ := h; exact hk a' ve a M h1 h2
  | ex x ve => obtain ⟨M, rfl, h1⟩ := h; exact ⟨M, rfl, h1⟩
  | bad => trivial
theorem OutA.go {A A' : Type} {RA : En → A' → A → Prop} {r : Rs A'} {o : Ans A} {k' : A' → VE → VS} {k : A → Mem → SAns} (h : OutA Γ RA e r o)
    (hk : ∀ a' ve a M, RA e a' a → Rel Γ ve e M → OutS Γ (k' a' ve) (k a M)) : OutS Γ (r.go k') (o.go e k) := by
  cases r with
  | ok a' ve => obtain ⟨a, M, rfl, h1, h2⟩ := h; exact hk a' ve a M h1 h2
  | ex x ve => obtain ⟨M, rfl, h1⟩ := h; exact ⟨e, M, rfl, h1⟩
  | bad => trivial
theorem RR.fz {r : VR} {r' : Rv} (h : RR e r r') : RW e r.fz r'.fz := by
  cases r <;> first | (cases h; rfl) | skip
  obtain ⟨l, rfl, h2⟩ := h
  exact ⟨l, rfl, h2⟩
theorem Rel.slot {j : Nat} {x : PyData} {l : Nat} (R : Rel Γ ve e M) (h : slotM ve j = some x) (hl : e[j]? = some (some (.r l))) : M[l]? = some x ∧ Γ.fz l = none := by
  unfold slotM at h
  cases z : ve[j]? with
  | none => simp [z] at h
  | some o =>
    cases o with
    | none => simp [z] at h
    | some v =>
      obtain ⟨w, h1, h2⟩ := R.at_ j v z
      rw [hl] at h1
      cases h1
      cases v <;> simp [z] at h
      · subst h; obtain ⟨l', q1, q2, q3, _⟩ := h2; cases q1; exact ⟨q2, q3⟩
      · subst h; obtain ⟨l', q1, q2, q3, _⟩ := h2; cases q1; exact ⟨q2, q3⟩
theorem Rel.slotEx {j : Nat} {x : PyData} (R : Rel Γ ve e M) (h : slotM ve j = some x) : ∃ l, e[j]? = some (some (.r l)) := by
  unfold slotM at h
  cases z : ve[j]? with
  | none => simp [z] at h
  | some o =>
    cases o with
    | none => simp [z] at h
    | some v =>
      obtain ⟨w, h1, h2⟩ := R.at_ j v z
      cases v <;> simp [z] at h
      · obtain ⟨l', q1, _⟩ := h2; exact ⟨l', by rw [h1, q1]⟩
      · obtain ⟨l', q1, _⟩ := h2; exact ⟨l', by rw [h1, q1]⟩
theorem RW.rd {r : VR} {w : Wv} {x : PyData} (h : RW e r w) (R : Rel Γ ve e M) (q : r.rd ve = some x) : w.rd M = some x := by
  cases r with
  | d y => cases h; exact q
  | o y => exact h.elim
  | k y => cases q
  | f y => cases q
  | ref j =>
    obtain ⟨l, rfl, hl⟩ := h
    obtain ⟨q1, q2⟩ := unlkO_some q
    show unlO M[l]? = some x
    rw [(R.slot q1 hl).1]
    exact unlO_ok q2
theorem RW.rdK {r : VR} {w : Wv} {x : PyData} (h : RW e r w) (R : Rel Γ ve e M) (q : r.rdK ve = some x) : w.rdK M = some x := by
  cases r with
  | d y => cases h; exact q
  | o y => exact h.elim
  | k y => cases h; exact q
  | f y => cases q
  | ref j =>
    obtain ⟨l, rfl, hl⟩ := h
    obtain ⟨q1, q2⟩ := unlkO_some q
    show unlO M[l]? = some x
    rw [(R.slot q1 hl).1]
    exact unlO_ok q2
theorem VR.rd_fz (r : VR) : r.fz.rd ve = r.rd ve := by cases r <;> rfl
theorem VR.rdK_fz (r : VR) : r.fz.rdK ve = r.rdK ve := by cases r <;> rfl
theorem of_ok {r : Rv} {v : VR} (h : VR.of r = some v) : RR e v r := by
  cases r with
  | w x => cases x <;> first | (cases h; rfl) | cases h
  | own x => cases h; rfl
theorem get_set {A : Type} {l : List A} {j m : Nat} {x y : A} (h : (l.set j x)[m]? = some y) : (m = j ∧ y = x) ∨ (m ≠ j ∧ l[m]? = some y) := by
  by_cases hm : j = m
  · subst hm
    have hl : j < l.length := by
      have := (List.getElem?_eq_some_iff.mp h).1
      rwa [List.length_set] at this
    rw [List.getElem?_set_self hl] at h
    cases h
    exact .inl ⟨rfl, rfl⟩
  · rw [List.getElem?_set_ne hm] at h
    exact .inr ⟨fun q => hm q.symm, h⟩
theorem slot_set_none {j m : Nat} (h : (slotM (ve.set j none) m).isSome = true) : m ≠ j ∧ (slotM ve m).isSome = true := by
  unfold slotM at h ⊢
  by_cases hm : j = m
  · subst hm
    by_cases hl : j < ve.length
    · rw [List.getElem?_set_self hl] at h; simp at h
    · rw [List.getElem?_eq_none (by rw [List.length_set]; omega)] at h; simp at h
  · rw [List.getElem?_set_ne hm] at h
    exact ⟨fun q => hm q.symm, h⟩
theorem Rel.drop1 (R : Rel Γ ve e M) (j : Nat) : Rel Γ (ve.set j none) e M := by
  refine ⟨by rw [List.length_set]; exact R.len, fun m v h => ?_, fun a b l h1 h2 h3 h4 => ?_, R.n0, R.fz, R.wf⟩
  · rcases get_set h with ⟨_, q⟩ | ⟨_, q⟩
    · cases q
    · exact R.at_ m v q
  · exact R.inj a b l (slot_set_none h1).2 (slot_set_none h2).2 h3 h4
theorem At.mono {j : Nat} {v : VV} {w : Wv} {M' : Mem} (hM : ∀ (l : Nat) (x : PyData), M[l]? = some x → M'[l]? = some x) (h : At Γ M j v w) : At Γ M' j v w := by
  cases v with
  | d x => exact h
  | k x => exact h
  | f x => exact h
  | m x => obtain ⟨l, h1, h2, h3⟩ := h; exact ⟨l, h1, hM l x h2, h3⟩
  | p x => obtain ⟨l, h1, h2, h3⟩ := h; exact ⟨l, h1, hM l x h2, h3⟩
def still : VV → Bool
  | .d _ => true
  | .k _ => true
  | .f _ => true
  | _ => false
theorem Rel.setS (R : Rel Γ ve e M) (j : Nat) {v : VV} {w : Wv} (hs : still v = true) (h : At Γ M j v w) : Rel Γ (ve.set j (some v)) (e.set j (some w)) M := by
  refine ⟨by rw [List.length_set, List.length_set]; exact R.len, fun m u q => ?_, fun a b l h1 h2 h3 h4 => ?_, R.n0, R.fz, fun m l q => ?_⟩
  · have hl : m < ve.length := by
      have := (List.getElem?_eq_some_iff.mp q).1
      rwa [List.length_set] at this
    rcases get_set q with ⟨rfl, q'⟩ | ⟨hm, q⟩
    · cases q'
      exact ⟨w, by rw [List.getElem?_set_self (R.len ▸ hl)], h⟩
    · obtain ⟨w', q1, q2⟩ := R.at_ m u q
      exact ⟨w', by rw [List.getElem?_set_ne (fun z => hm z.symm)]; exact q1, q2⟩
  · have key : ∀ m, (slotM (ve.set j (some v)) m).isSome = true → m ≠ j ∧ (slotM ve m).isSome = true := fun m hm => by
      unfold slotM at hm ⊢
      by_cases z : j = m
      · subst z
        by_cases hl : j < ve.length
        · rw [List.getElem?_set_self hl] at hm; cases v <;> first | (cases hs; done) | (simp at hm; done)
        · rw [List.getElem?_eq_none (by rw [List.length_set]; omega)] at hm; simp at hm
      · rw [List.getElem?_set_ne z] at hm
        exact ⟨fun q => z q.symm, hm⟩
    obtain ⟨a1, a2⟩ := key a h1
    obtain ⟨b1, b2⟩ := key b h2
    rw [List.getElem?_set_ne (fun z => a1 z.symm)] at h3
    rw [List.getElem?_set_ne (fun z => b1 z.symm)] at h4
    exact R.inj a b l a2 b2 h3 h4
  · rcases get_set q with ⟨_, z⟩ | ⟨_, z⟩
    · have z := (Option.some.inj z).symm
      subst z
      cases v <;> first | (cases hs; done) | cases h
    · exact R.wf m l z
end
end Lf
set_option Elab.async false
set_option linter.all false
set_option maxRecDepth 100000
set_option maxHeartbeats 2000000
namespace Lf
open PySem PySem.Spec PyProof.Rows L2
section
variable {Γ : Fr} {ve : VE} {e : En} {M : Mem}
theorem Rel.fzlt (R : Rel Γ ve e M) : Γ.fz M.length = none := by
  cases h : Γ.fz M.length with
  | none => rfl
  | some c =>
    have := R.fz _ _ h
    rw [List.getElem?_eq_none (Nat.le_refl _)] at this
    cases this
theorem get_app {A : Type} {M : List A} {l : Nat} {x c : A} (h : M[l]? = some x) : (M ++ [c])[l]? = some x := by
  rw [List.getElem?_append_left (List.getElem?_eq_some_iff.mp h).1]; exact h
theorem Rel.grow (R : Rel Γ ve e M) (c : PyData) : Rel Γ ve e (M ++ [c]) :=
  ⟨R.len, fun j v h => let ⟨w, a, b⟩ := R.at_ j v h; ⟨w, a, b.mono fun _ _ => get_app⟩, R.inj, by rw [List.length_append]; exact Nat.le_trans R.n0 (Nat.le_add_right _ _), fun l c h => get_app (R.fz l c h), fun j l h => by rw [List.length_append]; exact Nat.lt_of_lt_of_le (R.wf j l h) (Nat.le_add_right _ _)⟩
theorem slot_set {j m : Nat} {v : VV} (h : (slotM (ve.set j (some v)) m).isSome = true) : m = j ∨ (m ≠ j ∧ (slotM ve m).isSome = true) := by
  by_cases z : m = j
  · exact .inl z
  · refine .inr ⟨z, ?_⟩
    unfold slotM at h ⊢
    rw [List.getElem?_set_ne (fun q => z q.symm)] at h
    exact h
theorem slot_lt {j : Nat} {l : Nat} (R : Rel Γ ve e M) (h : (slotM ve j).isSome = true) (hl : e[j]? = some (some (.r l))) : l < M.length := by
  obtain ⟨x, hx⟩ := Option.isSome_iff_exists.mp h
  exact (List.getElem?_eq_some_iff.mp (R.slot hx hl).1).1
theorem Rel.setM (R : Rel Γ ve e M) (j : Nat) {x : PyData} {l : Nat} (h1 : M[l]? = some x) (h2 : Γ.fz l = none) (h3 : Γ.n0 ≤ l) (h4 : ∀ m, m ≠ j → (slotM ve m).isSome = true → e[m]? ≠ some (some (.r l))) :
    Rel Γ (ve.set j (some (.m x))) (e.set j (some (.r l))) M := by
  refine ⟨by rw [List.length_set, List.length_set]; exact R.len, fun m u q => ?_, fun a b l' q1 q2 q3 q4 => ?_, R.n0, R.fz, fun m l' q => ?_⟩
  · have hl : m < ve.length := by
      have := (List.getElem?_eq_some_iff.mp q).1
      rwa [List.length_set] at this
    rcases get_set q with ⟨rfl, q'⟩ | ⟨hm, q'⟩
    · cases q'
      exact ⟨.r l, by rw [List.getElem?_set_self (R.len ▸ hl)], l, rfl, h1, h2, h3⟩
    · obtain ⟨w', q1, q2⟩ := R.at_ m u q'
      exact ⟨w', by rw [List.getElem?_set_ne (fun z => hm z.symm)]; exact q1, q2⟩
  · have own : ∀ a : Nat, a ≠ j → (slotM ve a).isSome = true → (e.set j (some (.r l)))[a]? = some (some (.r l')) → (e.set j (some (.r l)))[j]? = some (some (.r l')) → False := fun a ha hs h5 h6 => by
      rcases get_set h6 with ⟨_, z⟩ | ⟨z, _⟩
      · cases z
        rw [List.getElem?_set_ne (fun z => ha z.symm)] at h5
        exact h4 a ha hs h5
      · exact z rfl
    rcases slot_set q1 with rfl | ⟨ha, sa⟩
    · rcases slot_set q2 with rfl | ⟨hb, sb⟩
      · rfl
      · exact (own b hb sb q4 q3).elim
    · rcases slot_set q2 with rfl | ⟨hb, sb⟩
      · exact (own a ha sa q3 q4).elim
      · rw [List.getElem?_set_ne (fun z => ha z.symm)] at q3
        rw [List.getElem?_set_ne (fun z => hb z.symm)] at q4
        exact R.inj a b l' sa sb q3 q4
  · rcases get_set q with ⟨_, z⟩ | ⟨_, z⟩
    · cases z; exact (List.getElem?_eq_some_iff.mp h1).1
    · exact R.wf m l' z
theorem Rel.alloc (R : Rel Γ ve e M) (j : Nat) (c : PyData) : Rel Γ (ve.set j (some (.m c))) (e.set j (some (.r M.length))) (M ++ [c]) := by
  refine (R.grow c).setM j (by simp) R.fzlt R.n0 fun m hm hs q => ?_
  have := slot_lt R hs q
  omega
@[simp] def VE.wr (ve : VE) (j : Nat) (x : PyData) : VE := match ve[j]? with
  | some (some (.m _)) => ve.set j (some (.m x))
  | some (some (.p _)) => ve.set j (some (.p x))
  | _ => ve
theorem Rel.write (R : Rel Γ ve e M) {j l : Nat} {y : PyData} (h : slotM ve j = some y) (hl : e[j]? = some (some (.r l))) (x : PyData) : Rel Γ (ve.wr j x) e (M.set l x) := by
  obtain ⟨g1, g2⟩ := R.slot h hl
  have hlt := (List.getElem?_eq_some_iff.mp g1).1
  have hsj : (slotM ve j).isSome = true := by rw [h]; rfl
  have hjl : j < ve.length := by
    rw [R.len]; exact (List.getElem?_eq_some_iff.mp hl).1
  have sl : ∀ m, (slotM (ve.wr j x) m).isSome = true → (slotM ve m).isSome = true := fun m hm => by
    by_cases z : m = j
    · subst z; exact hsj
    · unfold VE.wr at hm
      split at hm
      · rcases slot_set hm with q | ⟨_, q⟩; exact absurd q z; exact q
      · rcases slot_set hm with q | ⟨_, q⟩; exact absurd q z; exact q
      · exact hm
  have len : (ve.wr j x).length = ve.length := by
    unfold VE.wr
    split <;> simp
  refine ⟨by rw [len]; exact R.len, fun m u q => ?_, fun a b l' q1 q2 q3 q4 => R.inj a b l' (sl a q1) (sl b q2) q3 q4, by rw [List.length_set]; exact R.n0, fun l' c hc => ?_, fun m l' q => by rw [List.length_set]; exact R.wf m l' q⟩
  · by_cases z : m = j
    · subst z
      cases hv : ve[m]? with
      | none => simp [hv] at h
      | some o =>
        cases o with
        | none => simp [hv] at h
        | some v =>
          obtain ⟨w, e1, e2⟩ := R.at_ m v hv
          rw [hl] at e1
          cases e1
          cases v with
          | d y => simp [hv] at h
          | k y => simp [hv] at h
          | f y => simp [hv] at h
          | m y =>
            simp only [VE.wr, hv] at q
            rw [List.getElem?_set_self hjl] at q
            cases q
            obtain ⟨l2, p1, p2, p3⟩ := e2
            cases p1
            exact ⟨_, hl, l, rfl, by rw [List.getElem?_set_self hlt], p3⟩
          | p y =>
            simp only [VE.wr, hv] at q
            rw [List.getElem?_set_self hjl] at q
            cases q
            obtain ⟨l2, p1, p2, p3⟩ := e2
            cases p1
            exact ⟨_, hl, l, rfl, by rw [List.getElem?_set_self hlt], p3⟩
  -- another slot
    · have q' : ve[m]? = some (some u) := by
        unfold VE.wr at q
        split at q
        · rwa [List.getElem?_set_ne (fun k => z k.symm)] at q
        · rwa [List.getElem?_set_ne (fun k => z k.symm)] at q
        · exact q
      obtain ⟨w, e1, e2⟩ := R.at_ m u q'
      refine ⟨w, e1, ?_⟩
      have ne : ∀ l2, w = .r l2 → (slotM ve m).isSome = true → l ≠ l2 := fun l2 hw hs hh => by
        subst hh; subst hw
        exact z (R.inj m j l hs hsj e1 hl)
      cases u with
      | d y => exact e2
      | k y => exact e2
      | f y => exact e2
      | m y =>
        obtain ⟨l2, p1, p2, p3⟩ := e2
        exact ⟨l2, p1, by rw [List.getElem?_set_ne (ne l2 p1 (by simp [q']))]; exact p2, p3⟩
      | p y =>
        obtain ⟨l2, p1, p2, p3⟩ := e2
        exact ⟨l2, p1, by rw [List.getElem?_set_ne (ne l2 p1 (by simp [q']))]; exact p2, p3⟩
  · have : l ≠ l' := fun z => by subst z; rw [g2] at hc; cases hc
    rw [List.getElem?_set_ne this]
    exact R.fz l' c hc
def maskF (ks : List Nat) : Nat → VE → VE
  | _, [] => []
  | n, v :: r => (if ks.contains n then v else none) :: maskF ks (n + 1) r
@[simp] def mask (ks : List Nat) (ve : VE) : VE := maskF ks 0 ve
theorem maskF_get (ks : List Nat) : ∀ (ve : VE) (n j : Nat) (v : VV), (maskF ks n ve)[j]? = some (some v) → ve[j]? = some (some v)
  | [], n, j, v, h => by simp [maskF] at h
  | x :: r, n, 0, v, h => by
    simp only [maskF, List.getElem?_cons_zero] at h ⊢
    split at h
    · exact h
    · cases h
  | x :: r, n, j + 1, v, h => by
    simp only [maskF, List.getElem?_cons_succ] at h ⊢
    exact maskF_get ks r (n + 1) j v h
theorem maskF_len (ks : List Nat) : ∀ (ve : VE) (n : Nat), (maskF ks n ve).length = ve.length
  | [], n => rfl
  | x :: r, n => by simp [maskF, maskF_len ks r]
theorem Rel.weak (R : Rel Γ ve e M) {ve' : VE} (hl : ve'.length = ve.length) (h : ∀ (j : Nat) (v : VV), ve'[j]? = some (some v) → ve[j]? = some (some v)) : Rel Γ ve' e M := by
  have sl : ∀ m, (slotM ve' m).isSome = true → (slotM ve m).isSome = true := fun m hm => by
    unfold slotM at hm ⊢
    cases z : ve'[m]? with
    | none => simp [z] at hm
    | some o =>
      cases o with
      | none => simp [z] at hm
      | some v => rw [z] at hm; rw [h m v z]; exact hm
  exact ⟨by rw [hl]; exact R.len, fun j v q => R.at_ j v (h j v q), fun a b l h1 h2 => R.inj a b l (sl a h1) (sl b h2), R.n0, R.fz, R.wf⟩
theorem Rel.mask (R : Rel Γ ve e M) (ks : List Nat) : Rel Γ (mask ks ve) e M := R.weak (maskF_len ks ve 0) (maskF_get ks ve 0)
@[simp] def wipeV (ve : VE) : List Nat → VE
  | [] => ve
  | v :: vs => (wipeV ve vs).set v none
theorem Rel.wipe (R : Rel Γ ve e M) : ∀ vs, Rel Γ (wipeV ve vs) (wipeE e vs) M
  | [] => R
  | v :: vs => by
    have r := R.wipe vs
    refine ⟨by simp [r.len], fun m u q => ?_, fun a b l q1 q2 q3 q4 => ?_, r.n0, r.fz, fun m l q => ?_⟩
    · rcases get_set q with ⟨_, z⟩ | ⟨hm, q'⟩
      · cases z
      · obtain ⟨w, e1, e2⟩ := r.at_ m u q'
        exact ⟨w, by simp only [wipeE]; rw [List.getElem?_set_ne (fun z => hm z.symm)]; exact e1, e2⟩
    · obtain ⟨ha, sa⟩ := slot_set_none q1
      obtain ⟨hb, sb⟩ := slot_set_none q2
      simp only [wipeE] at q3 q4
      rw [List.getElem?_set_ne (fun z => ha z.symm)] at q3
      rw [List.getElem?_set_ne (fun z => hb z.symm)] at q4
      exact r.inj a b l sa sb q3 q4
    · rcases get_set q with ⟨_, z⟩ | ⟨_, z⟩
      · cases z
      · exact r.wf m l z
end
end Lf
set_option Elab.async false
set_option linter.all false
set_option maxRecDepth 100000
set_option maxHeartbeats 2000000
namespace Lf
open PySem PySem.Spec PyProof.Rows L2
@[simp] def vdVar (j : Nat) : VD := fun e => match e[j]? with
  | some (some (.d x)) => .ok (.d x) e
  | some (some (.k x)) => .ok (.k x) e
  | some (some (.f x)) => .ok (.f x) e
  | some (some (.m _)) => .ok (.ref j) e
  | some (some (.p _)) => .ok (.ref j) e
  | _ => .bad
@[simp] def vdC (x : PyData) : VD := fun e => .ok (.d x) e
@[simp] def vdF (x : Addr) : VD := fun e => .ok (.f x) e
@[simp] def vaNil : VDA := fun e => .ok [] e
@[simp] def vaCons (f : VD) (g : VDA) : VDA := fun e => (f e).bind fun r e1 => (g e1).bind fun rs e2 => .ok (r.fz :: rs) e2
@[simp] def VR.dat : VR → Option PyData
  | .d x => some x
  | _ => none
@[simp] def vdats : List VR → Option (List PyData)
  | [] => some []
  | w :: ws => match w.dat, vdats ws with
    | some x, some xs => some (x :: xs)
    | _, _ => none
@[simp] def vtupR (ws : List VR) (e : VE) : Rs VR := match vdats ws with
  | some ds => if ds.length ≤ sizeLine then .ok (.d (.tuple ds)) e else .bad
  | none => .bad
@[simp] def vlstR (ws : List VR) (e : VE) : Rs VR := match vdats ws with
  | some ds => if ds.length ≤ sizeLine then .ok (.o (.list ds)) e else .bad
  | none => .bad
@[simp] def vdTup (f : VDA) : VD := fun e => (f e).bind vtupR
@[simp] def vdLst (f : VDA) : VD := fun e => (f e).bind vlstR
@[simp] def vofR (r : Option Rv) (e : VE) : Rs VR := match r with
  | some r => (match VR.of r with
    | some v => .ok v e
    | none => .bad)
  | none => .bad
@[simp] def vopR (F : PyData → PyData → Option Rv) (x y : VR) (e : VE) : Rs VR := match x.rd e, y.rd e with
  | some a, some b => vofR (F a b) e
  | _, _ => .bad
@[simp] def vdBin (F : PyData → PyData → Option Rv) (f g : VD) : VD := fun e => (f e).bind fun x e1 => (g e1).bind fun y e2 => vopR F x y e2
@[simp] def vdNeg (f : VD) : VD := fun e => (f e).bind fun x e1 => match x with
  | .d (.int n) => .ok (.d (.int (-n))) e1
  | _ => .bad
@[simp] def vasB (r : VR) (e : VE) : Rs Bool := match r with
  | .d (.bool b) => .ok b e
  | _ => .bad
@[simp] def vdChain (F F' : PyData → PyData → Option Rv) (f g h : VD) : VD := fun e => (f e).bind fun x e1 => (g e1).bind fun y e2 => (vopR F x y e2).bind fun z e3 => (vasB z e3).bind fun b e4 => if b = true then (h e4).bind fun w e5 => vopR F' y w e5 else .ok (.d (.bool false)) e4
@[simp] def VR.isN : VR → Bool
  | .d .none => true
  | .o .none => true
  | _ => false
@[simp] def vdIsN (f : VD) : VD := fun e => (f e).bind fun x e1 => .ok (.d (.bool x.isN)) e1
@[simp] def vdNotN (f : VD) : VD := fun e => (f e).bind fun x e1 => .ok (.d (.bool (!x.isN))) e1
@[simp] def vtst (f : VD) : VDT := fun e => (f e).bind vasB
@[simp] def vdAnd (f g : VD) : VD := fun e => (f e).bind fun x e1 => (vasB x e1).bind fun b e2 => if b = true then g e2 else .ok (.d (.bool false)) e2
@[simp] def vdOr (f g : VD) : VD := fun e => (f e).bind fun x e1 => (vasB x e1).bind fun b e2 => if b = true then .ok (.d (.bool true)) e2 else g e2
@[simp] def vdNot (f : VD) : VD := fun e => (f e).bind fun x e1 => (vasB x e1).bind fun b e2 => .ok (.d (.bool (!b))) e2
@[simp] def vtAndD (f g : VDT) : VDT := fun e => (f e).bind fun b e1 => if b = true then g e1 else .ok false e1
@[simp] def vtOrD (f g : VDT) : VDT := fun e => (f e).bind fun b e1 => if b = true then .ok true e1 else g e1
@[simp] def vtNotD (f : VDT) : VDT := fun e => (f e).bind fun b e1 => .ok (!b) e1
@[simp] def vtTrue : VDT := fun e => .ok true e
@[simp] def vdIf (t : VDT) (f g : VD) : VD := fun e => (t e).bind fun b e1 => if b = true then f e1 else g e1
def ixV : PyData → PyData → Option PyData
  | .list ds, .int n => atI ds n
  | .tuple ds, .int n => atI ds n
  | .str z, .int n => if z.length ≤ sizeLine then (match atI z.cps.toList n with
    | some c => some (.str ⟨#[c]⟩)
    | none => none) else none
  | _, _ => none
@[simp] def vixR (x y : VR) (e : VE) : Rs VR := match x.rdK e, y.fz with
  | some a, .d n => (match ixV a n with
    | some d => .ok (.d d) e
    | none => .bad)
  | _, _ => .bad
@[simp] def vdIx (f g : VD) : VD := fun e => (f e).bind fun x e1 => (g e1).bind fun y e2 => vixR x y e2
@[simp] def vone (F : PyData → Option Rv) : List VR → VE → Option Rv
  | [w], e => (w.rdK e).bind F
  | _, _ => none
@[simp] def vtwo (F : Int → Int → Rv) : List VR → VE → Option Rv
  | [.d (.int a), .d (.int b)], _ => some (F a b)
  | _, _ => none
@[simp] def vdCB (F : List VR → VE → Option Rv) (f : VDA) : VD := fun e => (f e).bind fun ws e1 => vofR (F ws e1) e1
def isV (Ts : List String) (d : PyData) : Bool := Ts.any fun T => isD d T
@[simp] def vdIsi (Ts : List String) (f : VD) : VD := fun e => (f e).bind fun x e1 => match x.rdK e1 with
  | some d => .ok (.d (.bool (isV Ts d))) e1
  | none => .bad
@[simp] def vasI (r : VR) (e : VE) : Rs Int := match r with
  | .d (.int b) => .ok b e
  | _ => .bad
@[simp] def vdTupRg (f : VD) : VD := fun e => (f e).bind fun x e1 => (vasI x e1).bind fun n e2 => if rgOk 0 n = true then .ok (.d (.tuple (rgD 0 n))) e2 else .bad
@[simp] def vdLstRg (f : VD) : VD := fun e => (f e).bind fun x e1 => (vasI x e1).bind fun n e2 => if rgOk 0 n = true then .ok (.o (.list (rgD 0 n))) e2 else .bad
@[simp] def vpNo : VE → Rs (Option Int) := fun e => .ok none e
@[simp] def vpYes (f : VD) : VE → Rs (Option Int) := fun e => (f e).bind fun x e1 => (vasI x e1).bind fun n e2 => .ok (some n) e2
def slV (lo hi : Option Int) : PyData → Option Rv
  | .list ds => some (.own (.list (Lf.cutD ds lo hi)))
  | .tuple ds => some (.w (.d (.tuple (Lf.cutD ds lo hi))))
  | .str z => if z.length ≤ sizeLine then some (.w (.d (.str (cutS z lo hi)))) else none
  | _ => none
@[simp] def vslR (x : VR) (lo hi : Option Int) (e : VE) : Rs VR := match x.rdK e with
  | some d => vofR (slV lo hi d) e
  | none => .bad
@[simp] def vdSl (f : VD) (lo hi : VE → Rs (Option Int)) : VD := fun e => (f e).bind fun x e1 => (lo e1).bind fun l e2 => (hi e2).bind fun h e3 => vslR x l h e3
@[simp] def vdDict : VD := fun e => .ok (.o (.dict [])) e
section
variable {Γ : Fr} {ve : VE} {e : En} {M : Mem} {f g h : Den} {f' g' h' : VD}
theorem OutA.ofR {r : Option Rv} {a : Ans Rv} (R : Rel Γ ve e M) (h : ∀ x, r = some x → a = .val x M) : OutA Γ RR e (vofR r ve) a := by
  cases r with
  | none => trivial
  | some x =>
    unfold vofR
    cases z : VR.of x with
    | none => simp only [z]; trivial
    | some v => simp only [z]; exact ⟨x, M, h x rfl, of_ok z, R⟩
theorem OutA.val {A A' : Type} {RA : En → A' → A → Prop} {a' : A'} {a : A} (R : Rel Γ ve e M) (h : RA e a' a) : OutA Γ RA e (.ok a' ve) (.val a M) := ⟨a, M, rfl, h, R⟩
theorem j_var (j : Nat) : JE (dVar j) (vdVar j) := fun Γ ve e M R => by
  unfold vdVar
  cases z : ve[j]? with
  | none => trivial
  | some o =>
    cases o with
    | none => trivial
    | some v =>
      obtain ⟨w, h1, h2⟩ := R.at_ j v z
      have hd : dVar j e M = .val (.w w) M := by simp [dVar, h1]
      rw [hd]
      cases v with
      | d x => cases h2; exact .val R rfl
      | k x => cases h2; exact .val R rfl
      | f x => cases h2; exact .val R rfl
      | m x => obtain ⟨l, rfl, _⟩ := h2; exact .val R ⟨l, rfl, h1⟩
      | p x => obtain ⟨l, rfl, _⟩ := h2; exact .val R ⟨l, rfl, h1⟩
theorem j_c (x : PyData) : JE (dC x) (vdC x) := fun Γ ve e M R => .val R rfl
theorem j_nil : JA aNil vaNil := fun Γ ve e M R => .val R .nil
theorem j_cons {g : En → Mem → Ans (List Wv)} {g' : VDA} (hf : JE f f') (hg : JA g g') : JA (aCons f g) (vaCons f' g') := fun Γ ve e M R =>
  (hf Γ ve e M R).bind fun r ve1 r' M1 h1 R1 => (hg Γ ve1 e M1 R1).bind fun rs ve2 rs' M2 h2 R2 => .val R2 (.cons h1.fz h2)
theorem RWs.dats {rs : List VR} {ws : List Wv} {ds : List PyData} (h : RWs e rs ws) (q : vdats rs = some ds) : Lf.dats ws = some ds := by
  induction h generalizing ds with
  | nil => exact q
  | @cons r w rs ws h t ih =>
    unfold vdats at q
    cases r with
    | d x =>
      cases h
      cases z : vdats rs with
      | none => simp [z] at q
      | some xs => simp [z] at q; subst q; simp [Lf.dats, ih z]
    | o x => exact h.elim
    | k x => simp at q
    | f x => simp at q
    | ref x => simp at q
theorem j_tup {f : En → Mem → Ans (List Wv)} {f' : VDA} (hf : JA f f') : JE (dTup f) (vdTup f') := fun Γ ve e M R =>
  (hf Γ ve e M R).bind fun r ve1 r' M1 h1 R1 => by
    unfold vtupR
    cases z : vdats r with
    | none => trivial
    | some ds =>
      simp only []
      split
      · rename_i hl; refine ⟨_, M1, ?_, rfl, R1⟩; unfold tupR; rw [h1.dats z]; simp [hl]
      · trivial
theorem j_lst {f : En → Mem → Ans (List Wv)} {f' : VDA} (hf : JA f f') : JE (dLst f) (vdLst f') := fun Γ ve e M R =>
  (hf Γ ve e M R).bind fun r ve1 r' M1 h1 R1 => by
    unfold vlstR
    cases z : vdats r with
    | none => trivial
    | some ds =>
      simp only []
      split
      · rename_i hl; refine ⟨_, M1, ?_, rfl, R1⟩; unfold lstR; rw [h1.dats z]; simp [hl]
      · trivial
theorem OutA.op {F : PyData → PyData → Option Rv} {x y : VR} {u w : Wv} (R : Rel Γ ve e M) (h1 : RW e x.fz u) (h2 : RW e y.fz w) : OutA Γ RR e (vopR F x y ve) (opR F u w M) := by
  unfold vopR
  cases z1 : x.rd ve with
  | none => trivial
  | some a =>
    cases z2 : y.rd ve with
    | none => trivial
    | some b =>
      have e1 := h1.rd R (by rw [VR.rd_fz]; exact z1)
      have e2 := h2.rd R (by rw [VR.rd_fz]; exact z2)
      refine .ofR R fun r hr => ?_
      simp only [opR, e1, e2, hr]
theorem j_bin {F : PyData → PyData → Option Rv} (hf : JE f f') (hg : JE g g') : JE (dBin F f g) (vdBin F f' g') := fun Γ ve e M R =>
  (hf Γ ve e M R).bind fun x ve1 u M1 h1 R1 => (hg Γ ve1 e M1 R1).bind fun y ve2 w M2 h2 R2 => .op R2 h1.fz h2.fz
theorem j_neg (hf : JE f f') : JE (dNeg f) (vdNeg f') := fun Γ ve e M R =>
  (hf Γ ve e M R).bind fun x ve1 u M1 h1 R1 => by
    cases x with
    | d x => cases x <;> first | trivial | (cases h1; exact .val R1 rfl)
    | _ => trivial
theorem OutA.asB {x : VR} {u : Rv} (R : Rel Γ ve e M) (h1 : RR e x u) : OutA Γ (fun _ a b => a = b) e (vasB x ve) (Lf.asB u M) := by
  cases x with
  | d x => cases x <;> first | trivial | (cases h1; exact .val R rfl)
  | _ => trivial
theorem OutA.asI {x : VR} {u : Rv} (R : Rel Γ ve e M) (h1 : RR e x u) : OutA Γ (fun _ a b => a = b) e (vasI x ve) (Lf.asI u M) := by
  cases x with
  | d x => cases x <;> first | trivial | (cases h1; exact .val R rfl)
  | _ => trivial
theorem j_chain {F F' : PyData → PyData → Option Rv} (hf : JE f f') (hg : JE g g') (hh : JE h h') : JE (dChain F F' f g h) (vdChain F F' f' g' h') := fun Γ ve e M R =>
  (hf Γ ve e M R).bind fun x ve1 u M1 h1 R1 => (hg Γ ve1 e M1 R1).bind fun y ve2 w M2 h2 R2 => (OutA.op R2 h1.fz h2.fz).bind fun z ve3 z' M3 h3 R3 => by
    cases z with
    | d z =>
      cases h3
      cases z with
      | bool b =>
        cases b with
        | true => exact (hh Γ ve3 e M3 R3).bind fun w ve5 w' M5 h5 R5 => .op R5 h2.fz h5.fz
        | false => exact .val R3 rfl
      | _ => trivial
    | _ => trivial
theorem RR.isN {x : VR} {u : Rv} (h : RR e x u) : x.isN = u.fz.isN := by
  cases x with
  | d y => cases h; cases y <;> rfl
  | o y => cases h; cases y <;> rfl
  | k y => cases h; rfl
  | f y => cases h; rfl
  | ref j => obtain ⟨l, rfl, _⟩ := h; rfl
theorem j_isN (hf : JE f f') : JE (dIsN f) (vdIsN f') := fun Γ ve e M R =>
  (hf Γ ve e M R).bind fun x ve1 u M1 h1 R1 => by rw [h1.isN]; exact .val R1 rfl
theorem j_tst (hf : JE f f') : JT (tst f) (vtst f') := fun Γ ve e M R =>
  (hf Γ ve e M R).bind fun x ve1 u M1 h1 R1 => .asB R1 h1
theorem j_and (hf : JE f f') (hg : JE g g') : JE (dAnd f g) (vdAnd f' g') := fun Γ ve e M R =>
  (hf Γ ve e M R).bind fun x ve1 u M1 h1 R1 => (OutA.asB R1 h1).bind fun b ve2 b' M2 h2 R2 => by
    subst h2; split; exact hg Γ ve2 e M2 R2; exact .val R2 rfl
theorem j_not (hf : JE f f') : JE (dNot f) (vdNot f') := fun Γ ve e M R =>
  (hf Γ ve e M R).bind fun x ve1 u M1 h1 R1 => (OutA.asB R1 h1).bind fun b ve2 b' M2 h2 R2 => by
    subst h2; exact .val R2 rfl
theorem j_tand {f g : DenT} {f' g' : VDT} (hf : JT f f') (hg : JT g g') : JT (tAndD f g) (vtAndD f' g') := fun Γ ve e M R =>
  (hf Γ ve e M R).bind fun b ve2 b' M2 h2 R2 => by
    subst h2; split; exact hg Γ ve2 e M2 R2; exact .val R2 rfl
theorem j_tor {f g : DenT} {f' g' : VDT} (hf : JT f f') (hg : JT g g') : JT (tOrD f g) (vtOrD f' g') := fun Γ ve e M R =>
  (hf Γ ve e M R).bind fun b ve2 b' M2 h2 R2 => by
    subst h2; split; exact .val R2 rfl; exact hg Γ ve2 e M2 R2
theorem j_tnot {f : DenT} {f' : VDT} (hf : JT f f') : JT (tNotD f) (vtNotD f') := fun Γ ve e M R =>
  (hf Γ ve e M R).bind fun b ve2 b' M2 h2 R2 => by subst h2; exact .val R2 rfl
theorem j_true : JT tTrue vtTrue := fun Γ ve e M R => .val R rfl
theorem j_if {t : DenT} {t' : VDT} (ht : JT t t') (hf : JE f f') (hg : JE g g') : JE (dIf t f g) (vdIf t' f' g') := fun Γ ve e M R =>
  (ht Γ ve e M R).bind fun b ve2 b' M2 h2 R2 => by
    subst h2; split; exact hf Γ ve2 e M2 R2; exact hg Γ ve2 e M2 R2
theorem OutA.ix {x y : VR} {u w : Wv} (R : Rel Γ ve e M) (h1 : RW e x.fz u) (h2 : RW e y.fz w) : OutA Γ RR e (vixR x y ve) (ixR u w M) := by
  unfold vixR
  cases z1 : x.rdK ve with
  | none => trivial
  | some a =>
    have e1 := h1.rdK R (by rw [VR.rdK_fz]; exact z1)
    cases hy : y.fz with
    | d y =>
      rw [hy] at h2
      cases h2
      cases y with
      | int n =>
        cases a with
        | list ds =>
          simp only [ixR, e1, ixV]
          cases atI ds n with
          | none => trivial
          | some d => exact .val R rfl
        | tuple ds =>
          simp only [ixR, e1, ixV]
          cases atI ds n with
          | none => trivial
          | some d => exact .val R rfl
        | str z =>
          simp only [ixR, e1, ixV]
          by_cases hz : z.length ≤ sizeLine
          · simp only [hz, if_true]
            cases atI z.cps.toList n with
            | none => trivial
            | some d => exact .val R rfl
          · simp only [hz, if_false]; trivial
        | _ => trivial
      | _ => cases a <;> trivial
    | _ => cases a <;> trivial
theorem j_ix (hf : JE f f') (hg : JE g g') : JE (dIx f g) (vdIx f' g') := fun Γ ve e M R =>
  (hf Γ ve e M R).bind fun x ve1 u M1 h1 R1 => (hg Γ ve1 e M1 R1).bind fun y ve2 w M2 h2 R2 => .ix R2 h1.fz h2.fz
def CbR (F : List Wv → Mem → Option Rv) (F' : List VR → VE → Option Rv) : Prop := ∀ Γ ve e M rs ws r, Rel Γ ve e M → RWs e rs ws → F' rs ve = some r → F ws M = some r
theorem cb_one (F : PyData → Option Rv) : CbR (one F) (vone F) := fun Γ ve e M rs ws r R h q => by
  cases h with
  | nil => cases q
  | cons h t =>
    cases t with
    | nil =>
      unfold vone at q
      obtain ⟨x, h1, h2⟩ := Option.bind_eq_some_iff.mp q
      show (Wv.rdK M _).bind F = some r
      rw [h.rdK R h1]
      exact h2
    | cons h2 t => cases q
theorem cb_two (F : Int → Int → Rv) : CbR (two F) (vtwo F) := fun Γ ve e M rs ws r R h q => by
  unfold vtwo at q
  split at q
  · cases h with
    | cons h1 t =>
      cases h1
      cases t with
      | cons h2 t => cases h2; cases t; exact q
  · cases q
theorem j_cb {F : List Wv → Mem → Option Rv} {F' : List VR → VE → Option Rv} {f : En → Mem → Ans (List Wv)} {f' : VDA} (hF : CbR F F') (hf : JA f f') : JE (dCB F f) (vdCB F' f') := fun Γ ve e M R =>
  (hf Γ ve e M R).bind fun r ve1 r' M1 h1 R1 => .ofR R1 fun x hx => by simp only [cbR, hF Γ ve1 e M1 r r' x R1 h1 hx]
theorem j_isi {Ts : List String} (hf : JE f f') : JE (dIsi Ts f) (vdIsi Ts f') := fun Γ ve e M R =>
  (hf Γ ve e M R).bind fun x ve1 u M1 h1 R1 => by
    cases z : x.rdK ve1 with
    | none => trivial
    | some d =>
      have e1 := h1.fz.rdK R1 (by rw [VR.rdK_fz]; exact z)
      simp only [isiR, e1]
      exact .val R1 rfl
theorem j_lstRg (hf : JE f f') : JE (dLstRg f) (vdLstRg f') := fun Γ ve e M R =>
  (hf Γ ve e M R).bind fun x ve1 u M1 h1 R1 => (OutA.asI R1 h1).bind fun b ve2 b' M2 h2 R2 => by
    subst h2; split; exact .val R2 rfl; trivial
abbrev JO (f : En → Mem → Ans (Option Int)) (v : VE → Rs (Option Int)) : Prop := JG (fun _ a b => a = b) f v
theorem j_pno : JO pNo vpNo := fun Γ ve e M R => .val R rfl
theorem j_pyes (hf : JE f f') : JO (pYes f) (vpYes f') := fun Γ ve e M R =>
  (hf Γ ve e M R).bind fun x ve1 u M1 h1 R1 => (OutA.asI R1 h1).bind fun b ve2 b' M2 h2 R2 => by subst h2; exact .val R2 rfl
theorem j_sl {lo hi : En → Mem → Ans (Option Int)} {lo' hi' : VE → Rs (Option Int)} (hf : JE f f') (hl : JO lo lo') (hh : JO hi hi') : JE (dSl f lo hi) (vdSl f' lo' hi') := fun Γ ve e M R =>
  (hf Γ ve e M R).bind fun x ve1 u M1 h1 R1 => (hl Γ ve1 e M1 R1).bind fun l ve2 l' M2 h2 R2 => (hh Γ ve2 e M2 R2).bind fun k ve3 k' M3 h3 R3 => by
    subst h2 h3
    unfold vslR
    cases z : x.rdK ve3 with
    | none => trivial
    | some d =>
      have e1 := h1.fz.rdK R3 (by rw [VR.rdK_fz]; exact z)
      simp only [slR, e1]
      refine .ofR R3 fun r hr => ?_
      cases d with
      | list ds => cases hr; rfl
      | tuple ds => cases hr; rfl
      | str z =>
        unfold slV at hr
        simp only [] at hr ⊢
        split at hr
        · rename_i hz; rw [if_pos hz]; cases hr; rfl
        · cases hr
      | _ => cases hr
theorem j_dict : JE dDict vdDict := fun Γ ve e M R => .val R rfl
end
end Lf
set_option Elab.async false
set_option linter.all false
set_option maxRecDepth 100000
set_option maxHeartbeats 2000000
namespace Lf
open PySem PySem.Spec PyProof.Rows L2
abbrev VMt := PyData → List VR → VE → Option (Rv × PyData)
def isLst : PyData → Bool
  | .list _ => true
  | _ => false
@[simp] def vmtR (F : VMt) (o : VR) (ws : List VR) (e : VE) : Rs VR := match o with
  | .ref j => (match slotM e j with
    | some c => (match F c ws e with
      | some (r, c') => vofR (some r) (e.wr j c')
      | none => .bad)
    | _ => .bad)
  | _ => .bad
@[simp] def visL (o : VR) (e : VE) : Bool := match o with
  | .ref j => (match slotM e j with
    | some c => isLst c
    | _ => false)
  | _ => false
@[simp] def vdMt (F : VMt) (f : VD) (fa : VDA) : VD := fun e => (f e).bind fun o e1 => if visL o e1 = true then (fa e1).bind fun ws e2 => vmtR F o ws e2 else .bad
def vappF : VMt := fun c ws _ => match c, ws with
  | .list ds, [.d x] => if ds.length < sizeLine then some (.w (.d .none), .list (ds ++ [x])) else none
  | _, _ => none
def vextF : VMt := fun c ws e => match c, ws with
  | .list ds, [w] => (match w.rd e with
    | some (.list es) => if ds.length + es.length ≤ sizeLine then some (.w (.d .none), .list (ds ++ es)) else none
    | _ => none)
  | _, _ => none
def vpopF : VMt := fun c ws _ => match c, ws with
  | .list ds, [.d (.int n)] => if n.natAbs < 2 ^ 63 then (match seqIndex? n ds.length with
    | some k => (match ds[k]? with
      | some x => some (.w (.d x), .list (ds.eraseIdx k))
      | none => none)
    | none => none) else none
  | _, _ => none
def MtR (F : List PyData → List Wv → Mem → Option (Rv × List PyData)) (F' : VMt) : Prop := ∀ Γ ve e M rs ws c r c', Rel Γ ve e M → RWs e rs ws → F' c rs ve = some (r, c') → ∃ ds ds', c = .list ds ∧ c' = .list ds' ∧ F ds ws M = some (r, ds')
section
variable {Γ : Fr} {ve : VE} {e : En} {M : Mem} {f g h : Den} {f' g' h' : VD}
theorem mt_app : MtR appF vappF := fun Γ ve e M rs ws c r c' R h q => by
  unfold vappF at q
  split at q
  · rename_i ds x
    split at q
    · rename_i hl
      cases q
      cases h with | cons h1 t => cases h1; cases t; exact ⟨_, _, rfl, rfl, by simp [appF, hl]⟩
    · cases q
  · cases q
theorem mt_pop : MtR popF vpopF := fun Γ ve e M rs ws c r c' R h q => by
  unfold vpopF at q
  split at q
  · rename_i ds n
    split at q
    · rename_i hl
      split at q
      · rename_i k hk
        split at q
        · rename_i x hx
          cases q
          cases h with | cons h1 t => cases h1; cases t; exact ⟨_, _, rfl, rfl, by simp only [popF, hl, if_true, hk, hx]⟩
        · cases q
      · cases q
    · cases q
  · cases q
theorem j_mt {F : List PyData → List Wv → Mem → Option (Rv × List PyData)} {F' : VMt} {fa : En → Mem → Ans (List Wv)} {fa' : VDA} (hF : MtR F F') (hf : JE f f') (ha : JA fa fa') : JE (dMt F f fa) (vdMt F' f' fa') := fun Γ ve e M R =>
  (hf Γ ve e M R).bind fun o ve1 o' M1 h1 R1 => by
    split
    · rename_i hL
      cases o with
      | ref j =>
        obtain ⟨l, rfl, hl⟩ := h1
        have : isL (Rv.w (Wv.r l)).fz M1 = true := by
          cases z : slotM ve1 j with
          | none => unfold visL at hL; simp only [z] at hL; cases hL
          | some x =>
            unfold visL at hL; simp only [z] at hL
            have := (R1.slot z hl).1
            cases x with
            | list ds => simp [isL, this]
            | _ => cases hL
        rw [if_pos this]
        refine (ha Γ ve1 e M1 R1).bind fun ws ve2 ws' M2 h2 R2 => ?_
        simp only [vmtR, mtR, Rv.fz]
        cases z : slotM ve2 j with
        | none => trivial
        | some x =>
          have hx := (R2.slot z hl).1
          simp only []
          cases q : F' x ws ve2 with
          | none => trivial
          | some p =>
            obtain ⟨r, c'⟩ := p
            obtain ⟨ds, ds', rfl, rfl, e1⟩ := hF Γ ve2 e M2 ws ws' x r c' R2 h2 q
            simp only [hx, e1]
            exact .ofR (R2.write z hl (.list ds')) fun x hx => by cases hx; rfl
      | _ => cases hL
    · trivial
abbrev VItems := List PyData × Option (Nat × List PyData)
@[simp] def vchk (a : VItems) (e : VE) : Bool := match a.2 with
  | none => true
  | some p => (match slotM e p.1 with
    | some c => beqD c (.list p.2)
    | none => false)
def RI (e : En) (a : VItems) (b : Items) : Prop := a.1 = b.1 ∧ ∀ Γ ve e' M, (∀ p, a.2 = some p → e'[p.1]? = e[p.1]?) → Rel Γ ve e' M → vchk a ve = true → b.2 M = true
abbrev JI (f : En → Mem → Ans Items) (v : VE → Rs VItems) : Prop := JG RI f v
@[simp] def vitR (x : VR) (e : VE) : Rs VItems := match x with
  | .d (.list ds) => .ok (ds, none) e
  | .d (.tuple ds) => .ok (ds, none) e
  | .o (.list ds) => .ok (ds, none) e
  | .k ds => .ok (ds, none) e
  | .ref j => (match slotM e j with
    | some (.list ds) => .ok (ds, some (j, ds)) e
    | _ => .bad)
  | _ => .bad
@[simp] def viSeq (f : VD) : VE → Rs VItems := fun e => (f e).bind vitR
theorem RI.none {ds : List PyData} {c : Mem → Bool} (h : ∀ M, c M = true) : RI e (ds, Option.none) (ds, c) := ⟨rfl, fun _ _ _ M _ _ _ => h M⟩
theorem RI.ref {j l : Nat} {ds : List PyData} (hl : e[j]? = some (some (.r l))) : RI e (ds, some (j, ds)) (ds, fun M' => match M'[l]? with
      | some c => beqD c (.list ds)
      | .none => false) := ⟨rfl, fun Γ ve e' M he R hc => by
  unfold vchk at hc
  simp only [] at hc
  cases z : slotM ve j with
  | none => simp only [z] at hc; cases hc
  | some c =>
    simp only [z] at hc
    have := (R.slot z ((he (j, ds) rfl).trans hl)).1
    simp only [this]
    exact hc⟩
theorem j_seq (hf : JE f f') : JI (iSeq f) (viSeq f') := fun Γ ve e M R =>
  (hf Γ ve e M R).bind fun x ve1 u M1 h1 R1 => by
    cases x with
    | d x => cases h1; cases x <;> first | trivial | exact .val R1 (.none fun _ => rfl)
    | o x => cases h1; cases x <;> first | trivial | exact .val R1 (.none fun _ => rfl)
    | k x => cases h1; exact .val R1 (.none fun _ => rfl)
    | f x => trivial
    | ref j =>
      obtain ⟨l, rfl, hl⟩ := h1
      unfold vitR
      simp only []
      cases z : slotM ve1 j with
      | none => trivial
      | some x =>
        have hx := (R1.slot z hl).1
        cases x with
        | list ds => simp only [itR, Rv.fz, hx]; exact .val R1 (.ref hl)
        | _ => trivial
@[simp] def viRange (f : VD) : VE → Rs VItems := fun e => (f e).bind fun x e1 => (vasI x e1).bind fun n e2 => if n.natAbs < 2 ^ 62 then .ok (rgD 0 n, none) e2 else .bad
@[simp] def viRange2 (f g : VD) : VE → Rs VItems := fun e => (f e).bind fun x e1 => (vasI x e1).bind fun a e2 => (g e2).bind fun y e3 => (vasI y e3).bind fun b e4 => if a.natAbs < 2 ^ 62 ∧ b.natAbs < 2 ^ 62 then .ok (rgD a b, none) e4 else .bad
theorem j_range (hf : JE f f') : JI (iRange f) (viRange f') := fun Γ ve e M R =>
  (hf Γ ve e M R).bind fun x ve1 u M1 h1 R1 => (OutA.asI R1 h1).bind fun b ve2 b' M2 h2 R2 => by
    subst h2; split; exact .val R2 (.none fun _ => rfl); trivial
@[simp] def vseqC (x : VR) (e : VE) : Option (Bool × VItems) := match x with
  | .d (.list ds) => some (false, ds, none)
  | .d (.tuple ds) => some (true, ds, none)
  | .k ds => some (false, ds, none)
  | .ref j => (match slotM e j with
    | some (.list ds) => some (false, ds, some (j, ds))
    | _ => none)
  | _ => none
theorem RW.seqC {x : VR} {w : Wv} {b : Bool} {a : VItems} (h : RW e x w) (R : Rel Γ ve e M) (q : vseqC x ve = some (b, a)) : ∃ c, Lf.seqC w M = some (b, a.1, c) ∧ RI e a (a.1, c) := by
  cases x with
  | d x => cases h; cases x <;> first | cases q | skip
           · exact ⟨_, rfl, .none fun _ => rfl⟩
           · exact ⟨_, rfl, .none fun _ => rfl⟩
  | o x => exact h.elim
  | k x => cases h; cases q; exact ⟨_, rfl, .none fun _ => rfl⟩
  | f x => cases q
  | ref j =>
    obtain ⟨l, rfl, hl⟩ := h
    unfold vseqC at q
    simp only [] at q
    cases z : slotM ve j with
    | none => simp only [z] at q; cases q
    | some x =>
      have hx := (R.slot z hl).1
      simp only [z] at q
      cases x <;> first | cases q | skip
      exact ⟨_, by (simp only [Lf.seqC, hx]) <;> rfl, .ref hl⟩
@[simp] def vzipR (ws : List VR) (e : VE) : Rs VItems := match ws with
  | [x, y] => (match vseqC x e, vseqC y e with
    | some (_, ds, o), some (_, es, none) => .ok (List.zipWith pairD ds es, o) e
    | some (_, ds, none), some (_, es, o) => .ok (List.zipWith pairD ds es, o) e
    | _, _ => .bad)
  | _ => .bad
@[simp] def viZip (f : VDA) : VE → Rs VItems := fun e => (f e).bind vzipR
theorem RI.all {ds : List PyData} {c : Mem → Bool} (h : RI e (ds, Option.none) (ds, c)) (R : Rel Γ ve e M) : ∀ Γ' ve' e' M', Rel Γ' ve' e' M' → c M' = true := fun Γ' ve' e' M' R' => h.2 Γ' ve' e' M' (fun _ q => by cases q) R' rfl
theorem j_zip {f : En → Mem → Ans (List Wv)} {f' : VDA} (hf : JA f f') : JI (iZip f) (viZip f') := fun Γ ve e M R =>
  (hf Γ ve e M R).bind fun x ve1 u M1 h1 R1 => by
    unfold vzipR
    split
    · rename_i r1 r2
      cases h1 with
      | cons a t =>
        cases t with
        | cons b t =>
          cases t
          split
          · rename_i k1 ds o k2 es q1 q2
            obtain ⟨c1, e1, i1⟩ := a.seqC R1 q1
            obtain ⟨c2, e2, i2⟩ := b.seqC R1 q2
            simp only [zipR, e1, e2]
            exact .val R1 ⟨rfl, fun Γ' ve' e' M' hj R' hq => by show (c1 M' && c2 M') = true; rw [show c1 M' = true from i1.2 Γ' ve' e' M' hj R' hq, i2.all R1 Γ' ve' e' M' R']; rfl⟩
          · rename_i k1 ds k2 es o _ q1 q2
            obtain ⟨c1, e1, i1⟩ := a.seqC R1 q1
            obtain ⟨c2, e2, i2⟩ := b.seqC R1 q2
            simp only [zipR, e1, e2]
            exact .val R1 ⟨rfl, fun Γ' ve' e' M' hj R' hq => by show (c1 M' && c2 M') = true; rw [i1.all R1 Γ' ve' e' M' R', show c2 M' = true from i2.2 Γ' ve' e' M' hj R' hq]; rfl⟩
          · trivial
    · trivial
@[simp] def venR (ws : List VR) (e : VE) : Rs VItems := match ws with
  | [x] => (match vseqC x e with
    | some (_, ds, none) => .ok (enumD ds, none) e
    | _ => .bad)
  | _ => .bad
@[simp] def viEnum (f : VDA) : VE → Rs VItems := fun e => (f e).bind venR
end
end Lf
set_option Elab.async false
set_option linter.all false
set_option maxRecDepth 100000
set_option maxHeartbeats 2000000
namespace Lf
open PySem PySem.Spec PyProof.Rows L2
@[simp] def VE.free (e : VE) (j : Nat) : Bool := match e[j]? with
  | some (some (.p _)) => false
  | _ => true
@[simp] def vtgN (j : Nat) : PyData → VE → Option VE := fun d e => some (e.set j (some (.d d)))
@[simp] def vtgS : List Nat → List PyData → VE → Option VE
  | [], [], e => some e
  | j :: js, d :: ds, e => vtgS js ds (e.set j (some (.d d)))
  | _, _, _ => none
def unpV : PyData → Option (List PyData)
  | .tuple ds => some ds
  | _ => none
@[simp] def vtgT (js : List Nat) (x : PyData) (e : VE) : Option VE := match unpV x with
  | some ds => vtgS js ds e
  | none => none
def TgR (tg : PyData → En → Option En) (vtg : PyData → VE → Option VE) (js : List Nat) : Prop := ∀ Γ ve e M d ve', Rel Γ ve e M → vtg d ve = some ve' → ∃ e', tg d e = some e' ∧ Rel Γ ve' e' M ∧ (∀ j, j ∉ js → e'[j]? = e[j]?) ∧ e'.length = e.length
section
variable {Γ : Fr} {ve : VE} {e : En} {M : Mem} {f g h : Den} {f' g' h' : VD}
theorem tgr_n (j : Nat) : TgR (tgN j) (vtgN j) [j] := fun Γ ve e M d ve' R h => by
  cases h
  exact ⟨_, rfl, R.setS j rfl rfl, fun m hm => by rw [List.getElem?_set_ne (fun z => hm (by simp [z]))], by simp⟩
theorem tgr_s : ∀ (js : List Nat) (ds : List PyData) (ve ve' : VE) (e : En), Rel Γ ve e M → vtgS js ds ve = some ve' → ∃ e', tgS js ds e = some e' ∧ Rel Γ ve' e' M ∧ (∀ j, j ∉ js → e'[j]? = e[j]?) ∧ e'.length = e.length
  | [], [], ve, ve', e, R, h => by cases h; exact ⟨e, rfl, R, fun _ _ => rfl, rfl⟩
  | j :: js, d :: ds, ve, ve', e, R, h => by
    obtain ⟨e', h1, h2, h3, h4⟩ := tgr_s js ds _ ve' (e.set j (some (.d d))) (R.setS j (v := .d d) (w := .d d) rfl rfl) h
    exact ⟨e', h1, h2, fun m hm => by rw [h3 m (fun z => hm (List.mem_cons_of_mem _ z)), List.getElem?_set_ne (fun z => hm (by simp [z]))], by rw [h4, List.length_set]⟩
  | [], _ :: _, _, _, _, _, h => by cases h
  | _ :: _, [], _, _, _, _, h => by cases h
theorem tgr_t (js : List Nat) : TgR (tgT js) (vtgT js) js := fun Γ ve e M d ve' R h => by
  cases d with
  | tuple ds => exact tgr_s js ds ve ve' e R h
  | _ => cases h
@[simp] def vsNext : VDS := fun e => .next e
@[simp] def VS.then (a : VS) (g : VDS) : VS := match a with
  | .next e => g e
  | x => x
@[simp] def vsSeq (f g : VDS) : VDS := fun e => (f e).then g
@[simp] def vsIf (t : VDT) (f g : VDS) : VDS := fun e => (t e).go fun b e1 => if b = true then f e1 else g e1
@[simp] def vsRet (f : VD) : VDS := fun e => (f e).go fun r e1 => .ret r e1
@[simp] def vsRetN : VDS := fun e => .ret (.d .none) e
@[simp] def vsDrop (f : VD) : VDS := fun e => (f e).go fun _ e1 => .next e1
@[simp] def vsBad : VDS := fun _ => .bad
@[simp] def vsBrk : VDS := fun e => .brk e
@[simp] def vsCont : VDS := fun e => .cont e
@[simp] def vasgR (j : Nat) (al : Bool) (r : VR) (e : VE) : VS := if e.free j = true then (match r, al with
  | .d x, _ => .next (e.set j (some (.d x)))
  | .k x, _ => .next (e.set j (some (.k x)))
  | .f x, _ => .next (e.set j (some (.f x)))
  | .o x, true => .next (e.set j (some (.m x)))
  | .o x, false => .next (e.set j (some (.d x)))
  | .ref i, _ => if i = j then .bad else (match e[i]? with
    | some (some (.m x)) => .next ((e.set i none).set j (some (.m x)))
    | _ => .bad)) else .bad
@[simp] def vsAsg (j : Nat) (al : Bool) (f : VD) : VDS := fun e => (f e).go (vasgR j al)
@[simp] def vsAsgT (tg : PyData → VE → Option VE) (f : VD) : VDS := fun e => (f e).go fun r e1 => match r.fz with
  | .d x => (match tg x e1 with
    | some e2 => .next e2
    | none => .bad)
  | _ => .bad
theorem js_next : JS sNext vsNext := fun Γ ve e M R => ⟨e, M, rfl, R⟩
theorem OutS.then {r : VS} {o : SAns} {k' : VDS} {k : DenS} (h : OutS Γ r o) (hk : ∀ ve e M, Rel Γ ve e M → OutS Γ (k' ve) (k e M)) : OutS Γ (r.then k') (o.then k) := by
  cases r with
  | next ve => obtain ⟨e, M, rfl, R⟩ := h; exact hk ve e M R
  | ret r ve => obtain ⟨e, r', M, rfl, h2, R⟩ := h; exact ⟨e, r', M, rfl, h2, R⟩
  | brk ve => obtain ⟨e, M, rfl, R⟩ := h; exact ⟨e, M, rfl, R⟩
  | cont ve => obtain ⟨e, M, rfl, R⟩ := h; exact ⟨e, M, rfl, R⟩
  | ex x ve => obtain ⟨e, M, rfl, R⟩ := h; exact ⟨e, M, rfl, R⟩
  | bad => trivial
theorem js_seq {a b : DenS} {a' b' : VDS} (ha : JS a a') (hb : JS b b') : JS (sSeq a b) (vsSeq a' b') := fun Γ ve e M R => (ha Γ ve e M R).then fun ve e M R => hb Γ ve e M R
theorem js_if {t : DenT} {t' : VDT} {a b : DenS} {a' b' : VDS} (ht : JT t t') (ha : JS a a') (hb : JS b b') : JS (sIf t a b) (vsIf t' a' b') := fun Γ ve e M R =>
  (ht Γ ve e M R).go fun b ve2 b' M2 h2 R2 => by
    subst h2; split; exact ha Γ ve2 e M2 R2; exact hb Γ ve2 e M2 R2
theorem js_ret (hf : JE f f') : JS (sRet f) (vsRet f') := fun Γ ve e M R => (hf Γ ve e M R).go fun r ve2 r' M2 h2 R2 => ⟨e, r', M2, rfl, h2, R2⟩
theorem js_drop (hf : JE f f') : JS (sDrop f) (vsDrop f') := fun Γ ve e M R => (hf Γ ve e M R).go fun r ve2 r' M2 h2 R2 => ⟨e, M2, rfl, R2⟩
theorem Rel.move (R : Rel Γ ve e M) {i j l : Nat} {x : PyData} (hij : i ≠ j) (hi : ve[i]? = some (some (.m x))) (hl : e[i]? = some (some (.r l))) : Rel Γ ((ve.set i none).set j (some (.m x))) (e.set j (some (.r l))) M := by
  obtain ⟨w, h1, l', rfl, h2, h3, h4⟩ := R.at_ i _ hi
  rw [hl] at h1
  cases h1
  refine (R.drop1 i).setM j h2 h3 h4 fun m hm hs q => ?_
  obtain ⟨a, b⟩ := slot_set_none hs
  exact a (R.inj m i l b (by simp [hi]) q hl)
theorem OutS.asg {j : Nat} {al : Bool} {r : VR} {r' : Rv} (R : Rel Γ ve e M) (h : RR e r r') : OutS Γ (vasgR j al r ve) (asgR j al e r' M) := by
  unfold vasgR
  split
  · cases r with
    | d x => cases h; cases al <;> exact ⟨_, M, rfl, R.setS j rfl rfl⟩
    | k x => cases h; cases al <;> exact ⟨_, M, rfl, R.setS j rfl rfl⟩
    | f x => cases h; cases al <;> exact ⟨_, M, rfl, R.setS j rfl rfl⟩
    | o x =>
      cases h
      cases al with
      | true => exact ⟨_, _, rfl, R.alloc j x⟩
      | false => exact ⟨_, M, rfl, R.setS j rfl rfl⟩
    | ref i =>
      obtain ⟨l, rfl, hl⟩ := h
      simp only []
      split
      · trivial
      · rename_i hij
        split
        · rename_i x hx
          exact ⟨_, M, by cases al <;> rfl, R.move hij hx hl⟩
        · trivial
  · trivial
theorem js_asg {j : Nat} {al : Bool} (hf : JE f f') : JS (sAsg j al f) (vsAsg j al f') := fun Γ ve e M R => (hf Γ ve e M R).go fun r ve2 r' M2 h2 R2 => .asg R2 h2
theorem js_asgT {tg : PyData → En → Option En} {vtg : PyData → VE → Option VE} {js : List Nat} (ht : TgR tg vtg js) (hf : JE f f') : JS (sAsgT tg f) (vsAsgT vtg f') := fun Γ ve e M R => (hf Γ ve e M R).go fun r ve2 r' M2 h2 R2 => by
  have q := h2.fz
  cases hr : r.fz with
  | d x =>
    rw [hr] at q
    simp only [show r'.fz = Wv.d x from q]
    cases z : vtg x ve2 with
    | none => trivial
    | some ve3 =>
      obtain ⟨e', h3, R3, _⟩ := ht Γ ve2 e M2 x ve3 R2 z
      simp only [h3]
      exact ⟨e', M2, rfl, R3⟩
  | _ => trivial
@[simp] def vchkP (a : VItems) (e : VE) : Bool := match a.2 with
  | none => true
  | some p => (match e[p.1]? with
    | some (some (.p c)) => beqD c (.list p.2)
    | _ => false)
@[simp] def pinV (j : Nat) (e : VE) : VE := match e[j]? with
  | some (some (.m x)) => e.set j (some (.p x))
  | _ => e
@[simp] def unpinV (j : Nat) (e : VE) : VE := match e[j]? with
  | some (some (.p x)) => e.set j (some (.m x))
  | _ => e
@[simp] def unpinS (j : Nat) : VS → VS
  | .next e => .next (unpinV j e)
  | .ret r e => .ret r (unpinV j e)
  | .brk e => .brk (unpinV j e)
  | .cont e => .cont (unpinV j e)
  | .ex x e => .ex x (unpinV j e)
  | .bad => .bad
def forV (ks : List Nat) (chk : VE → Bool) (tg : PyData → VE → Option VE) (body : VDS) : List PyData → VDS
  | [], e => if chk e = true then .next e else .bad
  | x :: xs, e => if chk e = true then (match tg x e with
    | none => .bad
    | some e1 => (match body e1 with
      | .next e2 => forV ks chk tg body xs (mask ks e2)
      | .cont e2 => forV ks chk tg body xs (mask ks e2)
      | .brk e2 => .next (mask ks e2)
      | r => r)) else .bad
@[simp] def isOwn (e : VE) (j : Nat) : Bool := match e[j]? with
  | some (some (.m _)) => true
  | _ => false
def vsFor (ks : List Nat) (it : VE → Rs VItems) (tg : PyData → VE → Option VE) (body : VDS) : VDS := fun e => (it e).go fun a e1 => match a.2 with
  | none => forV ks (fun _ => true) tg body a.1 (mask ks e1)
  | some (j, _) => if isOwn e1 j = true then unpinS j (forV ks (vchkP a) tg body a.1 (mask ks (pinV j e1))) else forV ks (vchkP a) tg body a.1 (mask ks e1)
def Fr.at (Γ : Fr) (j l : Nat) : Fr := { Γ with pin := fun m => if m = j then some l else Γ.pin m }
theorem Rel.pin (R : Rel Γ ve e M) {j l : Nat} {x : PyData} (h : ve[j]? = some (some (.m x))) (hl : e[j]? = some (some (.r l))) : Rel (Γ.at j l) (pinV j ve) e M := by
  have hj : j < ve.length := (List.getElem?_eq_some_iff.mp h).1
  have hp : pinV j ve = ve.set j (some (.p x)) := by simp [h]
  have sl : ∀ m, (slotM (pinV j ve) m).isSome = true → (slotM ve m).isSome = true := fun m hm => by
    rw [hp] at hm
    rcases slot_set hm with rfl | ⟨_, q⟩
    · simp [h]
    · exact q
  refine ⟨by rw [hp, List.length_set]; exact R.len, fun m u q => ?_, fun a b l' q1 q2 => R.inj a b l' (sl a q1) (sl b q2), R.n0, R.fz, R.wf⟩
  rw [hp] at q
  rcases get_set q with ⟨rfl, q'⟩ | ⟨hm, q'⟩
  · cases q'
    obtain ⟨w, h1, l', h2, h3, h4, h5⟩ := R.at_ m _ h
    rw [hl] at h1
    cases h1
    cases h2
    exact ⟨_, hl, l, rfl, h3, h4, by simp [Fr.at]⟩
  · obtain ⟨w, h1, h2⟩ := R.at_ m u q'
    refine ⟨w, h1, ?_⟩
    cases u with
    | p y => obtain ⟨l2, p1, p2, p3, p4⟩ := h2; exact ⟨l2, p1, p2, p3, by simp [Fr.at, hm, p4]⟩
    | _ => exact h2
theorem Rel.unpin {j l : Nat} (hn : Γ.n0 ≤ l) (R : Rel (Γ.at j l) ve e M) : Rel Γ (unpinV j ve) e M := by
  have sl : ∀ m, (slotM (unpinV j ve) m).isSome = true → (slotM ve m).isSome = true := fun m hm => by
    unfold unpinV at hm
    split at hm
    · rename_i x hx
      rcases slot_set hm with rfl | ⟨_, q⟩
      · simp [hx]
      · exact q
    · exact hm
  refine ⟨by rw [← R.len]; unfold unpinV; split <;> simp, fun m u q => ?_, fun a b l' q1 q2 => R.inj a b l' (sl a q1) (sl b q2), R.n0, R.fz, R.wf⟩
  by_cases hm : m = j
  · subst hm
    cases hv : ve[m]? with
    | none => simp [hv] at q
    | some o =>
      cases o with
      | none => simp [hv] at q
      | some v =>
        obtain ⟨w, h1, h2⟩ := R.at_ m v hv
        have hl : m < ve.length := (List.getElem?_eq_some_iff.mp hv).1
        cases v with
        | p x =>
          obtain ⟨l2, p1, p2, p3, p4⟩ := h2
          have : l = l2 := by simpa [Fr.at] using p4
          subst this
          simp only [unpinV, hv] at q
          rw [List.getElem?_set_self hl] at q
          cases q
          exact ⟨w, h1, l, p1, p2, p3, hn⟩
        | d x => simp only [unpinV, hv] at q; cases q; exact ⟨w, h1, h2⟩
        | k x => simp only [unpinV, hv] at q; cases q; exact ⟨w, h1, h2⟩
        | f x => simp only [unpinV, hv] at q; cases q; exact ⟨w, h1, h2⟩
        | m x => simp only [unpinV, hv] at q; cases q; exact ⟨w, h1, h2⟩
  · have q' : ve[m]? = some (some u) := by
      unfold unpinV at q
      split at q
      · rwa [List.getElem?_set_ne (fun z => hm z.symm)] at q
      · exact q
    obtain ⟨w, h1, h2⟩ := R.at_ m u q'
    refine ⟨w, h1, ?_⟩
    cases u with
    | p y => obtain ⟨l2, p1, p2, p3, p4⟩ := h2; exact ⟨l2, p1, p2, p3, by simpa [Fr.at, hm] using p4⟩
    | _ => exact h2
theorem OutS.unpin {j l : Nat} {r : VS} {o : SAns} (hn : Γ.n0 ≤ l) (h : OutS (Γ.at j l) r o) : OutS Γ (unpinS j r) o := by
  cases r with
  | next ve => obtain ⟨e, M, rfl, R⟩ := h; exact ⟨e, M, rfl, R.unpin hn⟩
  | ret r ve => obtain ⟨e, r', M, rfl, h2, R⟩ := h; exact ⟨e, r', M, rfl, h2, R.unpin hn⟩
  | brk ve => obtain ⟨e, M, rfl, R⟩ := h; exact ⟨e, M, rfl, R.unpin hn⟩
  | cont ve => obtain ⟨e, M, rfl, R⟩ := h; exact ⟨e, M, rfl, R.unpin hn⟩
  | ex x ve => obtain ⟨e, M, rfl, R⟩ := h; exact ⟨e, M, rfl, R.unpin hn⟩
  | bad => trivial
theorem for_out {ks : List Nat} {chk : Mem → Bool} {chk' : VE → Bool} {tg : PyData → En → Option En} {vtg : PyData → VE → Option VE} {js : List Nat} {body : DenS} {body' : VDS} (hc : ∀ ve e M, Rel Γ ve e M → chk' ve = true → chk M = true)
    (ht : TgR tg vtg js) (hb : JS body body') : ∀ (xs : List PyData) (ve : VE) (e : En) (M : Mem), Rel Γ ve e M → OutS Γ (forV ks chk' vtg body' xs ve) (forD chk tg body xs e M)
  | [], ve, e, M, R => by
    unfold forV forD
    split
    · rename_i h; rw [if_pos (hc ve e M R h)]; exact ⟨e, M, rfl, R⟩
    · trivial
  | x :: xs, ve, e, M, R => by
    unfold forV forD
    split
    · rename_i h; rw [if_pos (hc ve e M R h)]
      cases z : vtg x ve with
      | none => trivial
      | some ve1 =>
        obtain ⟨e1, h1, R1, _⟩ := ht Γ ve e M x ve1 R z
        simp only [h1]
        have hb := hb Γ ve1 e1 M R1
        cases q : body' ve1 with
        | next ve2 => rw [q] at hb; obtain ⟨e2, M2, h2, R2⟩ := hb; simp only [h2]; exact for_out hc ht ‹_› xs _ e2 M2 (R2.mask ks)
        | cont ve2 => rw [q] at hb; obtain ⟨e2, M2, h2, R2⟩ := hb; simp only [h2]; exact for_out hc ht ‹_› xs _ e2 M2 (R2.mask ks)
        | brk ve2 => rw [q] at hb; obtain ⟨e2, M2, h2, R2⟩ := hb; simp only [h2]; exact ⟨e2, M2, rfl, R2.mask ks⟩
        | ret r ve2 => rw [q] at hb; obtain ⟨e2, r', M2, h2, h3, R2⟩ := hb; simp only [h2]; exact ⟨e2, r', M2, rfl, h3, R2⟩
        | ex x ve2 => rw [q] at hb; obtain ⟨e2, M2, h2, R2⟩ := hb; simp only [h2]; exact ⟨e2, M2, rfl, R2⟩
        | bad => trivial
    · trivial
theorem js_for {ks : List Nat} {it : En → Mem → Ans Items} {it' : VE → Rs VItems} {tg : PyData → En → Option En} {vtg : PyData → VE → Option VE} {js : List Nat} {body : DenS} {body' : VDS} (hi : JI it it') (ht : TgR tg vtg js) (hb : JS body body') :
    JS (sFor it tg body) (vsFor ks it' vtg body') := fun Γ ve e M R => (hi Γ ve e M R).go fun a ve1 b M1 h1 R1 => by
  obtain ⟨ds, o⟩ := a
  obtain ⟨ds', c⟩ := b
  obtain ⟨h1, h2⟩ := h1
  cases h1
  cases o with
  | none => exact for_out (fun ve e M R _ => h2 Γ ve e M (fun _ q => by cases q) R rfl) ht hb ds _ e M1 (R1.mask ks)
  | some p =>
    obtain ⟨j, dj⟩ := p
    have key : ∀ (Γ' : Fr) (l : Nat), e[j]? = some (some (.r l)) → Γ'.pin j = some l → ∀ ve' e' M', Rel Γ' ve' e' M' → vchkP (ds, some (j, dj)) ve' = true → c M' = true := fun Γ' l hl hp ve' e' M' R' hc => by
      unfold vchkP at hc
      simp only [] at hc
      split at hc
      · rename_i x hx
        obtain ⟨w, g1, l2, rfl, g3, g4, g5⟩ := R'.at_ j _ hx
        rw [hp] at g5
        cases g5
        exact h2 Γ' ve' e' M' (fun m hm => by cases hm; rw [g1, hl]) R' (by simp [hx, hc])
      · cases hc
    simp only []
    split
    · rename_i ho
      unfold isOwn at ho
      split at ho
      · rename_i x hx
        obtain ⟨w, g1, l, rfl, g3, g4, g5⟩ := R1.at_ j _ hx
        exact OutS.unpin g5 (for_out (key (Γ.at j l) l g1 (by simp [Fr.at])) ht hb ds _ e M1 ((R1.pin hx g1).mask ks))
      · cases ho
    · rename_i ho
      -- the slot is the caller's, or nothing is known of it
      by_cases hp : ∃ x, ve1[j]? = some (some (.p x))
      · obtain ⟨x, hx⟩ := hp
        obtain ⟨w, g1, l, rfl, g3, g4, g5⟩ := R1.at_ j _ hx
        exact for_out (key Γ l g1 g5) ht hb ds _ e M1 (R1.mask ks)
      · have hn : ¬ vchkP (ds, some (j, dj)) (mask ks ve1) = true := fun hc => by
          unfold vchkP at hc
          simp only [] at hc
          split at hc
          · rename_i x hx; exact hp ⟨x, maskF_get ks ve1 0 j _ hx⟩
          · cases hc
        cases ds with
        | nil => unfold forV; rw [if_neg hn]; trivial
        | cons x xs => unfold forV; rw [if_neg hn]; trivial
end
end Lf
set_option Elab.async false
set_option linter.all false
set_option maxRecDepth 100000
set_option maxHeartbeats 2000000
namespace Lf
open PySem PySem.Spec PyProof.Rows L2
def putV (k v : PyData) : PyData → Option PyData
  | .list ds => (match k with
    | .int n => (match ixN ds.length n with
      | some i => some (.list (ds.set i v))
      | none => none)
    | _ => none)
  | .dict ds => if keyOk k ds = true ∧ ds.length < sizeLine then some (.dict (putD k v ds)) else none
  | _ => none
@[simp] def vsetR (o k x : VR) (e : VE) : VS := match o, k, x with
  | .ref j, .d k, .d v => (match slotM e j with
    | some c => (match putV k v c with
      | some c' => .next (e.wr j c')
      | none => .bad)
    | none => .bad)
  | _, _, _ => .bad
@[simp] def vsSet (fv fo fi : VD) : VDS := fun e => (fv e).go fun x e1 => (fo e1).go fun o e2 => (fi e2).go fun k e3 => vsetR o.fz k.fz x.fz e3
section
variable {Γ : Fr} {ve : VE} {e : En} {M : Mem} {f g h : Den} {f' g' h' : VD}
theorem js_set (hf : JE f f') (hg : JE g g') (hh : JE h h') : JS (sSet f g h) (vsSet f' g' h') := fun Γ ve e M R =>
  (hf Γ ve e M R).go fun x ve1 x' M1 h1 R1 => (hg Γ ve1 e M1 R1).go fun o ve2 o' M2 h2 R2 => (hh Γ ve2 e M2 R2).go fun k ve3 k' M3 h3 R3 => by
    have q1 := h1.fz
    have q2 := h2.fz
    have q3 := h3.fz
    generalize x.fz = x at q1 ⊢
    generalize o.fz = o at q2 ⊢
    generalize k.fz = k at q3 ⊢
    generalize x'.fz = x' at q1 ⊢
    generalize o'.fz = o' at q2 ⊢
    generalize k'.fz = k' at q3 ⊢
    cases o with
    | ref j =>
      obtain ⟨l, rfl, hl⟩ := q2
      cases x with
      | d v =>
        cases q1
        unfold vsetR
        cases k with
        | d k =>
          cases q3
          simp only []
          cases z : slotM ve3 j with
          | none => trivial
          | some y =>
            have hx := (R3.slot z hl).1
            simp only []
            cases q : putV k v y with
            | none => trivial
            | some c' =>
              cases y with
              | list ds =>
                cases k with
                | int n =>
                  unfold putV at q
                  simp only [] at q
                  cases hi : ixN ds.length n with
                  | none => rw [hi] at q; cases q
                  | some i =>
                    rw [hi] at q
                    cases q
                    simp only [setR, hx, hi]
                    exact ⟨e, _, rfl, R3.write z hl _⟩
                | _ => cases q
              | dict ds =>
                unfold putV at q
                simp only [] at q
                split at q
                · rename_i hk
                  cases q
                  simp only [setR, hx]
                  rw [if_pos hk]
                  exact ⟨e, _, rfl, R3.write z hl _⟩
                · cases q
              | _ => cases q
        | _ => trivial
      | _ => cases k <;> trivial
    | _ => cases x <;> cases k <;> trivial
@[simp] def vtakeR (al : Bool) : VR → Option VV
  | .d x => some (.d x)
  | .k x => some (.k x)
  | .f x => some (.f x)
  | .o x => some (if al = true then .m x else .d x)
  | .ref _ => none
@[simp] def vsPar (i j : Nat) (al bl : Bool) (f g : VD) : VDS := fun e => (f e).go fun r e1 => (g e1).go fun q e2 => match vtakeR al r, vtakeR bl q with
  | some v, some u => if e2.free i = true ∧ e2.free j = true then .next ((e2.set i (some v)).set j (some u)) else .bad
  | _, _ => .bad
def Fr.hold (Γ : Fr) (l : Nat) (c : PyData) : Fr := { Γ with fz := fun m => if m = l then some c else Γ.fz m }
theorem Rel.hold (R : Rel Γ ve e M) (c : PyData) : Rel (Γ.hold M.length c) ve e (M ++ [c]) := by
  have G := R.grow c
  refine ⟨R.len, fun j v h => ?_, R.inj, G.n0, fun l c' h => ?_, G.wf⟩
  · obtain ⟨w, h1, h2⟩ := R.at_ j v h
    refine ⟨w, h1, ?_⟩
    cases v with
    | d x => exact h2
    | k x => exact h2
    | f x => exact h2
    | m x =>
      obtain ⟨l, rfl, p2, p3, p4⟩ := h2
      have := R.wf j l h1
      exact ⟨l, rfl, get_app p2, by simp only [Fr.hold]; rw [if_neg (by omega)]; exact p3, p4⟩
    | p x =>
      obtain ⟨l, rfl, p2, p3, p4⟩ := h2
      have := R.wf j l h1
      exact ⟨l, rfl, get_app p2, by simp only [Fr.hold]; rw [if_neg (by omega)]; exact p3, p4⟩
  · simp only [Fr.hold] at h
    split at h
    · rename_i hl; subst hl; cases h; simp
    · exact get_app (R.fz l c' h)
theorem Rel.unhold {l : Nat} {c : PyData} (hn : Γ.fz l = none) (R : Rel (Γ.hold l c) ve e M) : Rel Γ ve e M ∧ M[l]? = some c ∧ ∀ m, (slotM ve m).isSome = true → e[m]? ≠ some (some (.r l)) := by
  have hc : M[l]? = some c := R.fz l c (by simp [Fr.hold])
  refine ⟨⟨R.len, fun j v h => ?_, R.inj, R.n0, fun l' c' h => ?_, R.wf⟩, hc, fun m hm q => ?_⟩
  · obtain ⟨w, h1, h2⟩ := R.at_ j v h
    refine ⟨w, h1, ?_⟩
    have key : ∀ l', (Γ.hold l c).fz l' = none → Γ.fz l' = none := fun l' h => by
      simp only [Fr.hold] at h
      split at h
      · cases h
      · exact h
    cases v with
    | d x => exact h2
    | k x => exact h2
    | f x => exact h2
    | m x => obtain ⟨l', p1, p2, p3, p4⟩ := h2; exact ⟨l', p1, p2, key l' p3, p4⟩
    | p x => obtain ⟨l', p1, p2, p3, p4⟩ := h2; exact ⟨l', p1, p2, key l' p3, p4⟩
  · refine R.fz l' c' ?_
    simp only [Fr.hold]
    rw [if_neg (fun z => by subst z; rw [hn] at h; cases h)]
    exact h
  · obtain ⟨x, hx⟩ := Option.isSome_iff_exists.mp hm
    have := (R.slot hx q).2
    simp [Fr.hold] at this
theorem Rel.take (R : Rel Γ ve e M) {al : Bool} {r : VR} {r' : Rv} {v : VV} (h : RR e r r') (q : vtakeR al r = some v) (j : Nat) : Rel Γ (ve.set j (some v)) (e.set j (some (takeR al r' M).1)) (takeR al r' M).2 := by
  cases r with
  | d x => cases h; cases q; cases al <;> exact R.setS j rfl rfl
  | k x => cases h; cases q; cases al <;> exact R.setS j rfl rfl
  | f x => cases h; cases q; cases al <;> exact R.setS j rfl rfl
  | o x =>
    cases h
    cases al with
    | true => cases q; exact R.alloc j x
    | false => cases q; exact R.setS j rfl rfl
  | ref i => cases q
theorem set_comm {A : Type} {l : List A} {i j : Nat} {x y : A} (h : i ≠ j) : (l.set i x).set j y = (l.set j y).set i x := List.set_comm x y h
theorem js_par {i j : Nat} {al bl : Bool} (hij : i ≠ j) (hf : JE f f') (hg : JE g g') : JS (sPar i j al bl f g) (vsPar i j al bl f' g') := fun Γ ve e M R =>
  (hf Γ ve e M R).go fun r ve1 r' M1 h1 R1 => by
    by_cases ho : ∃ x, r = .o x ∧ al = true
    · obtain ⟨x, rfl, rfl⟩ := ho
      cases h1
      have R1' := R1.hold x
      simp only [takeR]
      have z := (hg (Γ.hold M1.length x) ve1 e (M1 ++ [x]) R1')
      cases q : g' ve1 with
      | bad => trivial
      | ex y ve2 =>
        rw [q] at z
        obtain ⟨M2, h2, R2⟩ := z
        rw [h2]
        exact ⟨e, M2, rfl, (R2.unhold R1.fzlt).1⟩
      | ok s ve2 =>
        rw [q] at z
        obtain ⟨s', M2, h2, h3, R2⟩ := z
        rw [h2]
        have hm : vtakeR true (.o x) = some (.m x) := rfl
        simp only [Rs.go, Ans.go, hm]
        cases t : vtakeR bl s with
        | none => trivial
        | some u =>
          simp only []
          split
          · obtain ⟨R3, hc, hno⟩ := R2.unhold R1.fzlt
            refine ⟨_, _, rfl, ?_⟩
            have A := R3.setM i hc R1.fzlt R1.n0 (fun m _ hs => hno m hs)
            have h3' : RR (e.set i (some (.r M1.length))) s s' := by
              cases s with
              | ref m => cases t
              | _ => exact h3
            exact A.take h3' t j
          · trivial
    · have ht : (takeR al r' M1).2 = M1 := by
        cases r with
        | d x => cases h1; cases al <;> rfl
        | k x => cases h1; cases al <;> rfl
        | f x => cases h1; cases al <;> rfl
        | o x =>
          cases h1
          cases al with
          | true => exact (ho ⟨x, rfl, rfl⟩).elim
          | false => rfl
        | ref m => obtain ⟨l, rfl, _⟩ := h1; cases al <;> rfl
      rw [ht]
      refine (hg Γ ve1 e M1 R1).go fun s ve2 s' M2 h2 R2 => ?_
      cases t1 : vtakeR al r with
      | none => trivial
      | some v =>
        cases t2 : vtakeR bl s with
        | none => trivial
        | some u =>
          simp only []
          split
          · refine ⟨_, _, rfl, ?_⟩
            have A := R2.take h1 t1 i
            have e1 : (takeR al r' M2).2 = M2 ∧ (takeR al r' M2).1 = (takeR al r' M1).1 := by
              cases r with
              | d x => cases h1; cases al <;> exact ⟨rfl, rfl⟩
              | k x => cases h1; cases al <;> exact ⟨rfl, rfl⟩
              | f x => cases h1; cases al <;> exact ⟨rfl, rfl⟩
              | o x =>
                cases h1
                cases al with
                | true => exact (ho ⟨x, rfl, rfl⟩).elim
                | false => exact ⟨rfl, rfl⟩
              | ref m => cases t1
            rw [e1.1, e1.2] at A
            have h2' : RR (e.set i (some (takeR al r' M1).1)) s s' := by
              cases s with
              | ref m => cases t2
              | _ => exact h2
            exact A.take h2' t2 j
          · trivial
def lcV (vs : List Nat) (chk : VE → Bool) (tg : PyData → VE → Option VE) (tt : VDT) (elt : VD) : List PyData → List PyData → VE → Rs VR
  | [], acc, e => if chk e = true ∧ acc.length ≤ sizeLine then .ok (.o (.list acc)) e else .bad
  | x :: xs, acc, e => if chk e = true then (match tg x e with
    | none => .bad
    | some e1 => (match tt e1 with
      | .ok true e2 => (match elt e2 with
        | .ok r e3 => (match r.fz with
          | .d d => if acc.length < sizeLine then lcV vs chk tg tt elt xs (acc ++ [d]) (wipeV e3 vs) else .bad
          | _ => .bad)
        | _ => .bad)
      | .ok false e2 => lcV vs chk tg tt elt xs acc (wipeV e2 vs)
      | _ => .bad)) else .bad
@[simp] def backV (e0 : VE) : List Nat → VE → VE
  | [], e => e
  | v :: vs, e => (backV e0 vs e).set v (match e0[v]? with
    | some (some u) => if still u = true then some u else none
    | _ => none)
def vdLc (it : VE → Rs VItems) (vs : List Nat) (tg : PyData → VE → Option VE) (tt : VDT) (elt : VD) : VD := fun e => (it e).bind fun a e1 => (lcV vs (vchk a) tg tt elt a.1 [] (wipeV e1 vs)).bind fun r e2 => .ok r (backV e1 vs e2)
theorem wipeE_get {vs : List Nat} {j : Nat} (h : j ∉ vs) : (wipeE e vs)[j]? = e[j]? := by
  induction vs with
  | nil => rfl
  | cons v vs ih =>
    simp only [wipeE]
    rw [List.getElem?_set_ne (fun z => h (by simp [z]))]
    exact ih fun z => h (List.mem_cons_of_mem _ z)
theorem wipeE_len {vs : List Nat} : (wipeE e vs).length = e.length := by
  induction vs with
  | nil => rfl
  | cons v vs ih => simp only [wipeE, List.length_set, ih]
theorem wipeE_none {vs : List Nat} {j : Nat} {w : Wv} (h : j ∈ vs) : (wipeE e vs)[j]? ≠ some (some w) := by
  induction vs with
  | nil => cases h
  | cons v vs ih =>
    intro q
    simp only [wipeE] at q
    rcases get_set q with ⟨_, z⟩ | ⟨hne, z⟩
    · cases z
    · rcases List.mem_cons.mp h with h | h
      · exact hne h
      · exact ih h z
theorem Rel.back {vs : List Nat} {ve1 : VE} {M1 : Mem} (R1 : Rel Γ ve1 e M1) (R : Rel Γ ve (wipeE e vs) M) (hM : M1.length ≤ M.length) : Rel Γ (backV ve1 vs ve) e (M.take M1.length) := by
  have hget : ∀ (us : List Nat) (j : Nat) (v : VV), (backV ve1 us ve)[j]? = some (some v) → (j ∈ us ∧ still v = true ∧ ve1[j]? = some (some v)) ∨ (j ∉ us ∧ ve[j]? = some (some v)) := by
    intro us
    induction us with
    | nil => intro j v h; exact .inr ⟨by simp, h⟩
    | cons u us ih =>
      intro j v h
      simp only [backV] at h
      rcases get_set h with ⟨rfl, z⟩ | ⟨hne, z⟩
      · left
        split at z
        · rename_i u hu
          split at z
          · rename_i hs; cases z; exact ⟨by simp, hs, hu⟩
          · cases z
        · cases z
      · rcases ih j v z with ⟨a, b⟩ | ⟨a, b⟩
        · exact .inl ⟨List.mem_cons_of_mem _ a, b⟩
        · refine .inr ⟨fun hm => ?_, b⟩
          rcases List.mem_cons.mp hm with q | q
          · exact hne q
          · exact a q
  have hlen : ∀ us : List Nat, (backV ve1 us ve).length = ve.length := by
    intro us
    induction us with
    | nil => rfl
    | cons u us ih => simp only [backV, List.length_set, ih]
  have hsl : ∀ m, (slotM (backV ve1 vs ve) m).isSome = true → m ∉ vs ∧ (slotM ve m).isSome = true := fun m hm => by
    unfold slotM at hm
    cases z : (backV ve1 vs ve)[m]? with
    | none => simp [z] at hm
    | some o =>
      cases o with
      | none => simp [z] at hm
      | some v =>
        rw [z] at hm
        rcases hget vs m v z with ⟨_, b, _⟩ | ⟨a, b⟩
        · cases v <;> first | (cases b; done) | simp at hm
        · refine ⟨a, ?_⟩
          unfold slotM
          rw [b]
          exact hm
  have htk : ∀ (l : Nat) (x : PyData), l < M1.length → M[l]? = some x → (M.take M1.length)[l]? = some x := fun l x hl h => by
    rw [List.getElem?_take_of_lt hl]; exact h
  refine ⟨by rw [hlen, R.len, wipeE_len], fun j v h => ?_, fun a b l h1 h2 h3 h4 => ?_, ?_, fun l c h => ?_, fun j l h => ?_⟩
  · rcases hget vs j v h with ⟨_, hs, q⟩ | ⟨hj, q⟩
    · obtain ⟨w, p1, p2⟩ := R1.at_ j v q
      exact ⟨w, p1, by cases v <;> first | (cases hs; done) | exact p2⟩
    · obtain ⟨w, p1, p2⟩ := R.at_ j v q
      rw [wipeE_get hj] at p1
      refine ⟨w, p1, ?_⟩
      cases v with
      | d x => exact p2
      | k x => exact p2
      | f x => exact p2
      | m x => obtain ⟨l, rfl, q2, q3⟩ := p2; exact ⟨l, rfl, htk l x (R1.wf j l p1) q2, q3⟩
      | p x => obtain ⟨l, rfl, q2, q3⟩ := p2; exact ⟨l, rfl, htk l x (R1.wf j l p1) q2, q3⟩
  · obtain ⟨a1, a2⟩ := hsl a h1
    obtain ⟨b1, b2⟩ := hsl b h2
    exact R.inj a b l a2 b2 (by rw [wipeE_get a1]; exact h3) (by rw [wipeE_get b1]; exact h4)
  · rw [List.length_take]
    have := R1.n0
    omega
  · exact htk l c (List.getElem?_eq_some_iff.mp (R1.fz l c h)).1 (R.fz l c h)
  · rw [List.length_take]
    have := R1.wf j l h
    omega
end
end Lf
namespace Lf
open PySem PySem.Spec PyProof.Rows L2
section
variable {Γ : Fr} {ve : VE} {e : En} {M : Mem} {f g h : Den} {f' g' h' : VD}
theorem Rel.hold_set {l : Nat} {c c' : PyData} (hn : Γ.fz l = none) (R : Rel (Γ.hold l c) ve e M) : Rel (Γ.hold l c') ve e (M.set l c') := by
  obtain ⟨R0, hc, hno⟩ := R.unhold hn
  have hl : l < M.length := (List.getElem?_eq_some_iff.mp hc).1
  refine ⟨R.len, fun j v h => ?_, R.inj, by rw [List.length_set]; exact R.n0, fun l' d h => ?_, fun j l' h => by rw [List.length_set]; exact R.wf j l' h⟩
  · obtain ⟨w, h1, h2⟩ := R.at_ j v h
    refine ⟨w, h1, ?_⟩
    have ne : ∀ l', (Γ.hold l c).fz l' = none → l ≠ l' := fun l' hf z => by subst z; simp [Fr.hold] at hf
    have fr : ∀ l', (Γ.hold l c).fz l' = none → (Γ.hold l c').fz l' = none := fun l' hf => by
      have := ne l' hf
      simp only [Fr.hold] at hf ⊢
      rw [if_neg (fun z => this z.symm)] at hf ⊢
      exact hf
    cases v with
    | d x => exact h2
    | k x => exact h2
    | f x => exact h2
    | m x => obtain ⟨l', p1, p2, p3, p4⟩ := h2; exact ⟨l', p1, by rw [List.getElem?_set_ne (ne l' p3)]; exact p2, fr l' p3, p4⟩
    | p x => obtain ⟨l', p1, p2, p3, p4⟩ := h2; exact ⟨l', p1, by rw [List.getElem?_set_ne (ne l' p3)]; exact p2, fr l' p3, p4⟩
  · simp only [Fr.hold] at h
    split at h
    · rename_i z; subst z; cases h; rw [List.getElem?_set_self hl]
    · rename_i z; rw [List.getElem?_set_ne (fun q => z q.symm)]; exact R0.fz l' d h
theorem wipe_wipe {vs : List Nat} {e1 : En} (h : ∀ j, j ∉ vs → e1[j]? = (wipeE e vs)[j]?) (hl : e1.length = e.length) : wipeE e1 vs = wipeE e vs := by
  apply List.ext_getElem?
  intro j
  by_cases hj : j ∈ vs
  · have a : ∀ (x : En), (wipeE x vs)[j]? = some none ∨ (wipeE x vs)[j]? = none := fun x => by
      cases z : (wipeE x vs)[j]? with
      | none => exact .inr rfl
      | some o =>
        cases o with
        | none => exact .inl rfl
        | some w => exact (wipeE_none hj z).elim
    have b : ∀ x : En, (wipeE x vs)[j]? = none ↔ x.length ≤ j := fun x => by rw [List.getElem?_eq_none_iff, wipeE_len]
    rcases a e1 with p | p <;> rcases a e with q | q
    · rw [p, q]
    · have := (b e).mp q; rw [← hl] at this; rw [(b e1).mpr this] at p; cases p
    · have := (b e1).mp p; rw [hl] at this; rw [(b e).mpr this] at q; cases q
    · rw [p, q]
  · rw [wipeE_get hj, h j hj]
theorem lc_noex {vs : List Nat} {chk : VE → Bool} {tg : PyData → VE → Option VE} {tt : VDT} {elt : VD} : ∀ {xs acc : List PyData} {ve : VE} {x : Xn} {ve2 : VE}, lcV vs chk tg tt elt xs acc ve = .ex x ve2 → False
  | [], acc, ve, x, ve2, h => by unfold lcV at h; split at h <;> cases h
  | y :: ys, acc, ve, x, ve2, h => by
    unfold lcV at h
    split at h
    · split at h
      · cases h
      · split at h
        · split at h
          · split at h
            · split at h
              · exact lc_noex h
              · cases h
            · cases h
          · cases h
        · exact lc_noex h
        · cases h
    · cases h
def LcOut (Γ : Fr) (l : Nat) (e : En) : Rs VR → Ans Rv → Prop
  | .ok r ve', o => ∃ M' res, o = .val (.own res) (M'.take l) ∧ r = .o res ∧ l ≤ M'.length ∧ Rel Γ ve' e M'
  | _, _ => True
theorem lc_out {vs js : List Nat} {vch : VE → Bool} {chk : Mem → Bool} {tg : PyData → En → Option En} {vtg : PyData → VE → Option VE} {tt : DenT} {tt' : VDT} {l : Nat} (hn : Γ.fz l = none) (hn0 : Γ.n0 ≤ l)
    (hc : ∀ Γ' ve' M', Rel Γ' ve' (wipeE e vs) M' → vch ve' = true → chk M' = true) (hsub : ∀ j ∈ js, j ∈ vs) (ht : TgR tg vtg js) (htt : JT tt tt') (hf : JE f f') : ∀ (xs acc : List PyData) (ve : VE) (M : Mem), Rel (Γ.hold l (.list acc)) ve (wipeE e vs) M →
    LcOut Γ l (wipeE e vs) (lcV vs vch vtg tt' f' xs acc ve) (lcD l chk tg tt f (wipeE e vs) xs M)
  | [], acc, ve, M, R => by
    unfold lcV
    obtain ⟨R0, hc0, _⟩ := R.unhold hn
    by_cases hq : vch ve = true ∧ acc.length ≤ sizeLine
    · rw [if_pos hq]
      refine ⟨M, .list acc, ?_, rfl, Nat.le_of_lt (List.getElem?_eq_some_iff.mp hc0).1, R0⟩
      unfold lcD
      rw [if_pos (hc _ _ _ R hq.1)]
      simp only [hc0, if_pos hq.2]
    · rw [if_neg hq]; trivial
  | x :: xs, acc, ve, M, R => by
    by_cases hq : vch ve = true
    · cases z : vtg x ve with
      | none => unfold lcV; rw [if_pos hq, z]; trivial
      | some ve1 =>
        obtain ⟨e1, h1, R1, hk, hlen⟩ := ht _ ve (wipeE e vs) M x ve1 R z
        have hw : wipeE e1 vs = wipeE e vs := wipe_wipe (fun j hj => hk j fun q => hj (hsub j q)) (by rw [hlen, wipeE_len])
        have t := htt _ ve1 e1 M R1
        unfold lcV lcD
        rw [if_pos hq, if_pos (hc _ _ _ R hq), z, h1]
        simp only []
        cases q : tt' ve1 with
        | bad => trivial
        | ex y ve2 => trivial
        | ok b ve2 =>
          rw [q] at t
          obtain ⟨b', M1, t1, t2, R2⟩ := t
          subst t2
          rw [t1]
          cases b with
          | false => exact lc_out hn hn0 hc hsub ht htt hf xs acc _ M1 (by have := R2.wipe vs; rwa [hw] at this)
          | true =>
            simp only []
            have v := hf _ ve2 e1 M1 R2
            cases q2 : f' ve2 with
            | bad => trivial
            | ex y ve3 => trivial
            | ok r ve3 =>
              rw [q2] at v
              obtain ⟨r', M2, v1, v2, R3⟩ := v
              have v3 := v2.fz
              simp only [v1]
              cases hr : r.fz with
              | d d =>
                rw [hr] at v3
                have hcell := (R3.unhold hn).2.1
                simp only [show r'.fz = Wv.d d from v3, hcell]
                by_cases hlt : acc.length < sizeLine
                · rw [if_pos hlt, if_pos hlt]
                  refine lc_out hn hn0 hc hsub ht htt hf xs (acc ++ [d]) _ _ ?_
                  have := R3.wipe vs
                  rw [hw] at this
                  exact this.hold_set hn
                · rw [if_neg hlt]; trivial
              | _ => trivial
    · unfold lcV; rw [if_neg hq]; trivial
theorem lc_items {vs js : List Nat} {vch : VE → Bool} {c : Mem → Bool} {tg : PyData → En → Option En} {vtg : PyData → VE → Option VE} {tt : DenT} {tt' : VDT} {ve1 : VE} {M1 : Mem} {ds : List PyData} (R1 : Rel Γ ve1 e M1)
    (hc : ∀ Γ' ve' M', Rel Γ' ve' (wipeE e vs) M' → vch ve' = true → c M' = true) (hsub : ∀ j ∈ js, j ∈ vs) (ht : TgR tg vtg js) (htt : JT tt tt') (hf : JE f f') :
    OutA Γ RR e ((lcV vs vch vtg tt' f' ds [] (wipeV ve1 vs)).bind fun r e2 => .ok r (backV ve1 vs e2)) (lcD M1.length c tg tt f (wipeE e vs) ds (M1 ++ [.list []])) := by
  have key := lc_out (vs := vs) (vch := vch) (l := M1.length) R1.fzlt R1.n0 hc hsub ht htt hf ds [] (wipeV ve1 vs) (M1 ++ [.list []]) ((R1.wipe vs).hold _)
  cases q : lcV vs vch vtg tt' f' ds [] (wipeV ve1 vs) with
  | bad => trivial
  | ex x ve2 =>
    exfalso
    exact lc_noex q
  | ok r ve2 =>
    rw [q] at key
    obtain ⟨M', res, k1, rfl, k2, k3⟩ := key
    rw [k1]
    exact ⟨.own res, M'.take M1.length, rfl, rfl, R1.back k3 k2⟩
theorem chk_wiped {vs : List Nat} {ds : List PyData} {o : Option (Nat × List PyData)} {c : Mem → Bool} (h2 : ∀ Γ ve e' M, (∀ p, o = some p → e'[p.1]? = e[p.1]?) → Rel Γ ve e' M → vchk (ds, o) ve = true → c M = true) :
    ∀ Γ' ve' M', Rel Γ' ve' (wipeE e vs) M' → vchk (ds, o) ve' = true → c M' = true := fun Γ' ve' M' R' hq => by
  cases o with
  | none => exact h2 Γ' ve' _ M' (fun _ q => by cases q) R' hq
  | some p =>
    obtain ⟨j, dj⟩ := p
    by_cases hj : j ∈ vs
    · have hsl : slotM ve' j = none := by
        cases z : slotM ve' j with
        | none => rfl
        | some x => obtain ⟨l, hl⟩ := R'.slotEx z; exact (wipeE_none hj hl).elim
      unfold vchk at hq
      simp only [hsl] at hq
      cases hq
    · exact h2 Γ' ve' _ M' (fun m hm => by cases hm; exact wipeE_get hj) R' hq
theorem j_lc {vs js : List Nat} {it : En → Mem → Ans Items} {it' : VE → Rs VItems} {tg : PyData → En → Option En} {vtg : PyData → VE → Option VE} {tt : DenT} {tt' : VDT} (hi : JI it it') (ht : TgR tg vtg js) (hsub : ∀ j ∈ js, j ∈ vs) (htt : JT tt tt') (hf : JE f f') :
    JE (dLc it vs tg tt f) (vdLc it' vs vtg tt' f') := fun Γ ve e M R => (hi Γ ve e M R).bind fun a ve1 b M1 h1 R1 => by
  obtain ⟨ds, o⟩ := a
  obtain ⟨ds', c⟩ := b
  obtain ⟨h1, h2⟩ := h1
  cases h1
  exact lc_items R1 (chk_wiped h2) hsub ht htt hf
end
end Lf
set_option Elab.async false
set_option linter.all false
set_option maxRecDepth 100000
set_option maxHeartbeats 2000000
namespace Lf
open PySem PySem.Spec PyProof.Rows L2
@[simp] def argOk : VV → Bool
  | .m _ => false
  | _ => true
@[simp] def onlyP : Option VV → Option VV
  | some (.p x) => some (.p x)
  | _ => none
@[simp] def keepP (np : Nat) (e : VE) : VE := (e.map onlyP).take np
@[simp] def vretR (r : VR) (np : Nat) (e : VE) : Rs VR := match r with
  | .ref j => (match e[j]? with
    | some (some (.m x)) => if isLk x = true then .bad else .ok (.o x) (keepP np e)
    | _ => .bad)
  | r => .ok r (keepP np e)
@[simp] def vendR (np : Nat) : VS → Rs VR
  | .next e => .ok (.d .none) (keepP np e)
  | .ret r e => vretR r np e
  | .ex x e => .ex x (keepP np e)
  | _ => .bad
def vfnD (nl np : Nat) (body : VDS) : VF := fun vs => if vs.length = np ∧ vs.all argOk = true then vendR np (body (vs.map some ++ List.replicate (nl - np) none)) else .bad
def ArgR (M : Mem) : VV → Wv → Prop
  | .d x, w => w = .d x
  | .k x, w => w = .k x
  | .f x, w => w = .f x
  | .p x, w => ∃ l, w = .r l ∧ M[l]? = some x
  | .m _, _ => False
inductive ArgRs (M : Mem) : List VV → List Wv → Prop
  | nil : ArgRs M [] []
  | cons {v w vs ws} : ArgR M v w → ArgRs M vs ws → ArgRs M (v :: vs) (w :: ws)
def RF : VR → Rv → Prop
  | .d x, r => r = .w (.d x)
  | .o x, r => r = .own x
  | .k x, r => r = .w (.k x)
  | .f x, r => r = .w (.f x)
  | .ref _, _ => False
structure Post (ws : List Wv) (M : Mem) (ys : VE) (M' : Mem) : Prop where
  len : M'.length = M.length
  same : ∀ l, (∀ i : Nat, ws[i]? ≠ some (.r l)) → M'[l]? = M[l]?
  at_ : ∀ (i l : Nat), ws[i]? = some (.r l) → ∀ y, ys[i]? = some (some (.p y)) → M'[l]? = some y
def FOut (ws : List Wv) (M : Mem) : Rs VR → Ans Rv → Prop
  | .ok r ys, o => ∃ r' M', o = .val r' M' ∧ RF r r' ∧ Post ws M ys M'
  | .ex x ys, o => ∃ M', o = .exc x M' ∧ Post ws M ys M'
  | .bad, _ => True
def SimF (F : DenF) (V : VF) : Prop := ∀ vs ws M, ArgRs M vs ws → (∀ (i j l : Nat), ws[i]? = some (.r l) → ws[j]? = some (.r l) → i = j) → FOut ws M (V vs) (F ws M)
section
variable {Γ : Fr} {ve : VE} {e : En} {M : Mem} {f g h : Den} {f' g' h' : VD}
theorem ArgRs.length {vs : List VV} {ws : List Wv} (h : ArgRs M vs ws) : vs.length = ws.length := by
  induction h with
  | nil => rfl
  | cons _ _ ih => simp [ih]
theorem ArgRs.get {vs : List VV} {ws : List Wv} (h : ArgRs M vs ws) : ∀ {i : Nat} {v : VV}, vs[i]? = some v → ∃ w, ws[i]? = some w ∧ ArgR M v w := by
  induction h with
  | nil => intro i v q; simp at q
  | cons a _ ih =>
    intro i v q
    cases i with
    | zero => simp at q; subst q; exact ⟨_, rfl, a⟩
    | succ i => exact ih (by simpa using q)
def Fr.call (ws : List Wv) (M : Mem) : Fr where
  n0 := M.length
  pin := fun i => match ws[i]? with
    | some (.r l) => some l
    | _ => none
  fz := fun l => if l ∈ ws.filterMap (fun w => match w with | .r l => some l | _ => none) then none else M[l]?
theorem mem_refs {ws : List Wv} {l : Nat} : l ∈ ws.filterMap (fun w => match w with | .r l => some l | _ => none) ↔ ∃ i : Nat, ws[i]? = some (.r l) := by
  rw [List.mem_filterMap]
  constructor
  · rintro ⟨w, hw, q⟩
    cases w with
    | r m => cases q; obtain ⟨i, hi, e⟩ := List.getElem_of_mem hw; exact ⟨i, by rw [List.getElem?_eq_getElem hi, e]⟩
    | _ => cases q
  · rintro ⟨i, hi⟩
    exact ⟨.r l, List.mem_of_getElem? hi, rfl⟩
theorem Rel.call {vs : List VV} {ws : List Wv} {nl np : Nat} (h : ArgRs M vs ws) (hd : ∀ (i j l : Nat), ws[i]? = some (.r l) → ws[j]? = some (.r l) → i = j) (hw : ∀ (i l : Nat), ws[i]? = some (.r l) → l < M.length) :
    Rel (Fr.call ws M) (vs.map some ++ List.replicate (nl - np) none) (ws.map some ++ List.replicate (nl - np) none) M := by
  have hl := h.length
  have key : ∀ {A : Type} {xs : List A} {n j : Nat} {v : A}, (xs.map some ++ List.replicate n none)[j]? = some (some v) → xs[j]? = some v := fun {A xs n j v} q => by
    by_cases hj : j < xs.length
    · rw [List.getElem?_append_left (by simpa using hj)] at q
      simpa using q
    · rw [List.getElem?_append_right (by simpa using hj)] at q
      have := List.getElem?_eq_some_iff.mp q
      obtain ⟨_, e⟩ := this
      simp at e
  have yek : ∀ {A : Type} {xs : List A} {n j : Nat} {v : A}, xs[j]? = some v → (xs.map some ++ List.replicate n none)[j]? = some (some v) := fun {A xs n j v} q => by
    have hj := (List.getElem?_eq_some_iff.mp q).1
    rw [List.getElem?_append_left (by simpa using hj)]
    simp [q]
  refine ⟨by simp [hl], fun j v q => ?_, fun a b l h1 h2 h3 h4 => hd a b l (key h3) (key h4), Nat.le_refl _, fun l c q => ?_, fun j l q => hw j l (key q)⟩
  · obtain ⟨w, p1, p2⟩ := h.get (key q)
    refine ⟨w, yek p1, ?_⟩
    cases v with
    | d x => exact p2
    | k x => exact p2
    | f x => exact p2
    | m x => exact p2.elim
    | p x =>
      obtain ⟨l, rfl, p3⟩ := p2
      exact ⟨l, rfl, p3, by simp only [Fr.call]; rw [if_pos (mem_refs.mpr ⟨j, p1⟩)], by simp only [Fr.call, p1]⟩
  · simp only [Fr.call] at q
    split at q
    · cases q
    · exact q
theorem Rel.post {ws : List Wv} {M M' : Mem} {np : Nat} (hnp : ws.length = np) (hw : ∀ (i l : Nat), ws[i]? = some (.r l) → l < M.length) (R : Rel (Fr.call ws M) ve e M') : Post ws M (keepP np ve) (M'.take M.length) := by
  have hn : M.length ≤ M'.length := R.n0
  refine ⟨by rw [List.length_take]; omega, fun l hl => ?_, fun i l hi y hy => ?_⟩
  · by_cases hlt : l < M.length
    · rw [List.getElem?_take_of_lt hlt]
      refine (R.fz l M[l] ?_).trans (List.getElem?_eq_getElem hlt).symm
      simp only [Fr.call]
      rw [if_neg (fun z => let ⟨i, hi⟩ := mem_refs.mp z; hl i hi), List.getElem?_eq_getElem hlt]
    · rw [List.getElem?_eq_none (by rw [List.length_take]; omega), List.getElem?_eq_none (by omega)]
  · have hlt := hw i l hi
    rw [List.getElem?_take_of_lt hlt]
    have hy' : ve[i]? = some (some (.p y)) := by
      have hy := take_get hy
      rw [List.getElem?_map] at hy
      cases q : ve[i]? with
      | none => rw [q] at hy; cases hy
      | some o =>
        rw [q] at hy
        cases o with
        | none => cases hy
        | some v => cases v <;> first | (cases hy; rfl) | (simp at hy; done)
    obtain ⟨w, p1, l2, rfl, p3, p4, p5⟩ := R.at_ i _ hy'
    simp only [Fr.call, hi] at p5
    cases p5
    exact p3
theorem sim_fn {nl np : Nat} {body : DenS} {body' : VDS} (hb : JS body body') : SimF (fnD nl np body) (vfnD nl np body') := fun vs ws M h hd => by
  have hw : ∀ (i l : Nat), ws[i]? = some (.r l) → l < M.length := fun i l hi => by
    have hlen := h.length
    have hiv : i < vs.length := by rw [hlen]; exact (List.getElem?_eq_some_iff.mp hi).1
    obtain ⟨w, p1, p2⟩ := h.get (List.getElem?_eq_getElem hiv)
    rw [hi] at p1
    cases p1
    generalize vs[i] = v at p2
    cases v with
    | d x => cases p2
    | k x => cases p2
    | f x => cases p2
    | m x => exact p2.elim
    | p x => obtain ⟨l', q1, q2⟩ := p2; cases q1; exact (List.getElem?_eq_some_iff.mp q2).1
  unfold vfnD fnD
  split
  · rename_i hc
    have hlen : ws.length = np := by rw [← h.length]; exact hc.1
    rw [if_pos hlen]
    have B := hb (Fr.call ws M) _ _ M (Rel.call (nl := nl) (np := np) h hd hw)
    cases q : body' (vs.map some ++ List.replicate (nl - np) none) with
    | bad => trivial
    | brk e => trivial
    | cont e => trivial
    | next ve2 =>
      rw [q] at B
      obtain ⟨e2, M2, h2, R2⟩ := B
      simp only [h2, vendR, endR]
      exact ⟨_, _, rfl, rfl, R2.post hlen hw⟩
    | ex x ve2 =>
      rw [q] at B
      obtain ⟨e2, M2, h2, R2⟩ := B
      simp only [h2, vendR, endR]
      exact ⟨_, rfl, R2.post hlen hw⟩
    | ret r ve2 =>
      rw [q] at B
      obtain ⟨e2, r', M2, h2, h3, R2⟩ := B
      simp only [h2, vendR, endR]
      cases r with
      | d x => cases h3; exact ⟨_, _, rfl, rfl, R2.post hlen hw⟩
      | o x => cases h3; exact ⟨_, _, rfl, rfl, R2.post hlen hw⟩
      | k x => cases h3; exact ⟨_, _, rfl, rfl, R2.post hlen hw⟩
      | f x => cases h3; exact ⟨_, _, rfl, rfl, R2.post hlen hw⟩
      | ref j =>
        unfold vretR
        simp only []
        split
        · rename_i x hx
          obtain ⟨l, rfl, hl⟩ := h3
          obtain ⟨w, p1, l2, rfl, p3, p4, p5⟩ := R2.at_ j _ hx
          rw [hl] at p1
          cases p1
          have hge : M.length ≤ l := p5
          split
          · trivial
          · rename_i hk
            refine ⟨.own x, _, ?_, rfl, R2.post hlen hw⟩
            unfold retR
            simp only []
            rw [if_neg (by omega), p3, unlO_ok (by simpa using hk)]
        · trivial
  · trivial
@[simp] def vrefs : List VR → List Nat
  | [] => []
  | .ref j :: r => j :: vrefs r
  | _ :: r => vrefs r
@[simp] def vargs (e : VE) : List VR → Option (List VV)
  | [] => some []
  | r :: rs => match (match r with
      | .d x => some (VV.d x)
      | .k x => some (VV.k x)
      | .f x => some (VV.f x)
      | .ref j => (slotM e j).map VV.p
      | .o _ => none), vargs e rs with
    | some v, some vs => some (v :: vs)
    | _, _ => none
@[simp] def VE.back (e : VE) (j : Nat) (y : Option (Option VV)) : VE := match y with
  | some (some (.p x)) => e.wr j x
  | _ => e.set j none
@[simp] def wback : List VR → VE → VE → VE
  | [], _, e => e
  | .ref j :: rs, ys, e => wback rs (ys.drop 1) (e.back j ys[0]?)
  | _ :: rs, ys, e => wback rs (ys.drop 1) e
@[simp] def nodupN : List Nat → Bool
  | [] => true
  | x :: r => !r.contains x && nodupN r
@[simp] def vcallR (V : VF) (rs : List VR) (e : VE) : Rs VR := match vargs e rs with
  | some vs => if nodupN (vrefs rs) = true then (match V vs with
    | .ok r ys => .ok r (wback rs ys e)
    | .ex x ys => .ex x (wback rs ys e)
    | .bad => .bad) else .bad
  | none => .bad
@[simp] def vdCall (V : VF) (fa : VDA) : VD := fun e => (fa e).bind (vcallR V)
theorem vargs_ok {rs : List VR} {ws : List Wv} {vs : List VV} (R : Rel Γ ve e M) (h : RWs e rs ws) (q : vargs ve rs = some vs) : ArgRs M vs ws := by
  induction h generalizing vs with
  | nil => cases q; exact .nil
  | @cons r w rs ws h t ih =>
    unfold vargs at q
    cases r with
    | o x => exact h.elim
    | d x =>
      cases z : vargs ve rs with
      | none => simp [z] at q
      | some us => simp [z] at q; subst q; exact .cons h (ih z)
    | k x =>
      cases z : vargs ve rs with
      | none => simp [z] at q
      | some us => simp [z] at q; subst q; exact .cons h (ih z)
    | f x =>
      cases z : vargs ve rs with
      | none => simp [z] at q
      | some us => simp [z] at q; subst q; exact .cons h (ih z)
    | ref j =>
      cases z : vargs ve rs with
      | none => rw [z] at q; cases s : slotM ve j <;> simp only [s] at q <;> cases q
      | some us =>
        cases s : slotM ve j with
        | none => simp only [s, z, Option.map_none] at q; cases q
        | some x =>
          simp only [s, z, Option.map_some] at q
          cases q
          obtain ⟨l, rfl, hl⟩ := h
          exact .cons ⟨l, rfl, (R.slot s hl).1⟩ (ih z)
theorem RWs.refs {rs : List VR} {ws : List Wv} (h : RWs e rs ws) : ∀ {i l : Nat}, ws[i]? = some (.r l) → ∃ j, rs[i]? = some (.ref j) ∧ e[j]? = some (some (.r l)) := by
  induction h with
  | nil => intro i l q; simp at q
  | @cons r w rs ws h t ih =>
    intro i l q
    cases i with
    | zero =>
      simp at q
      subst q
      cases r with
      | ref j => obtain ⟨l', q1, q2⟩ := h; cases q1; exact ⟨j, rfl, q2⟩
      | o x => exact h.elim
      | d x => cases h
      | k x => cases h
      | f x => cases h
    | succ i => exact ih (by simpa using q)
theorem vrefs_get {rs : List VR} : ∀ {i j : Nat}, rs[i]? = some (.ref j) → j ∈ vrefs rs := by
  induction rs with
  | nil => intro i j q; simp at q
  | cons r rs ih =>
    intro i j q
    cases i with
    | zero => simp at q; subst q; simp
    | succ i => have := ih (i := i) (j := j) (by simpa using q); cases r <;> simp [this]
theorem vrefs_inj {rs : List VR} : nodupN (vrefs rs) = true → ∀ {i i' j : Nat}, rs[i]? = some (.ref j) → rs[i']? = some (.ref j) → i = i' := by
  induction rs with
  | nil => intro _ i i' j q; simp at q
  | cons r rs ih =>
    intro hn i i' j q q'
    have tl : nodupN (vrefs rs) = true := by cases r <;> first | exact hn | (simp at hn; exact hn.2)
    cases i with
    | zero =>
      cases i' with
      | zero => rfl
      | succ i' =>
        simp at q q'
        subst q
        have := vrefs_get q'
        simp at hn
        exact absurd this hn.1
    | succ i =>
      cases i' with
      | zero =>
        simp at q q'
        subst q'
        have := vrefs_get q
        simp at hn
        exact absurd this hn.1
      | succ i' => exact congrArg Nat.succ (ih tl (i := i) (i' := i') (j := j) (by simpa using q) (by simpa using q'))
theorem slot_wr {j m : Nat} {x : PyData} (hm : m ≠ j) : slotM (ve.wr j x) m = slotM ve m := by
  have : (ve.wr j x)[m]? = ve[m]? := by
    unfold VE.wr
    split <;> first | rw [List.getElem?_set_ne (fun z => hm z.symm)] | rfl
  unfold slotM
  rw [this]
theorem slot_none {j m : Nat} (hm : m ≠ j) : slotM (ve.set j none) m = slotM ve m := by
  unfold slotM
  rw [List.getElem?_set_ne (fun z => hm z.symm)]
theorem slot_back {j m : Nat} {y : Option (Option VV)} (hm : m ≠ j) : slotM (ve.back j y) m = slotM ve m := by
  unfold VE.back
  split
  · exact slot_wr hm
  · exact slot_none hm
theorem wback_ok {M' : Mem} : ∀ (rs : List VR) (ws : List Wv) (ys : VE) (ve : VE) (Mc : Mem), Rel Γ ve e Mc → RWs e rs ws → nodupN (vrefs rs) = true → (∀ j ∈ vrefs rs, (slotM ve j).isSome = true) → Mc.length = M'.length →
    (∀ (i l : Nat), ws[i]? = some (.r l) → ∀ y, ys[i]? = some (some (.p y)) → M'[l]? = some y) →
    ∃ Mc', Rel Γ (wback rs ys ve) e Mc' ∧ Mc'.length = M'.length ∧ (∀ l, (∀ i : Nat, ws[i]? ≠ some (.r l)) → Mc'[l]? = Mc[l]?) ∧ ∀ (i l : Nat), ws[i]? = some (.r l) → Mc'[l]? = M'[l]?
  | [], _, ys, ve, Mc, R, .nil, _, _, hl, _ => ⟨Mc, R, hl, fun _ _ => rfl, fun i l q => by simp at q⟩
  | r :: rs, _, ys, ve, Mc, R, .cons (w := w) (ws := ws) h t, hn, hs, hl, hy => by
    have hyt : ∀ (i l : Nat), ws[i]? = some (.r l) → ∀ y, (ys.drop 1)[i]? = some (some (.p y)) → M'[l]? = some y := fun i l q y hq => hy (i + 1) l (by simpa using q) y (by rw [List.getElem?_drop, Nat.add_comm] at hq; exact hq)
    cases r with
    | ref j =>
      obtain ⟨l, rfl, hl1⟩ := h
      simp only [vrefs, nodupN, Bool.and_eq_true, Bool.not_eq_true', List.contains_eq_mem, decide_eq_false_iff_not] at hn
      obtain ⟨x, hx⟩ := Option.isSome_iff_exists.mp (hs j (by simp))
      have hlt : l < Mc.length := R.wf j l hl1
      obtain ⟨c, hc⟩ : ∃ c, M'[l]? = some c := ⟨M'[l]'(hl ▸ hlt), List.getElem?_eq_getElem (hl ▸ hlt)⟩
      have R1 : Rel Γ (ve.back j ys[0]?) e (Mc.set l c) := by
        unfold VE.back
        split
        · rename_i y hq
          have := hy 0 l (by simp) y hq
          rw [hc] at this
          cases this
          exact R.write hx hl1 c
        · have := (R.write hx hl1 c).drop1 j
          refine this.weak (by unfold VE.wr; split <;> simp) fun m v q => ?_
          rcases get_set q with ⟨_, z⟩ | ⟨hm, z⟩
          · cases z
          · rw [List.getElem?_set_ne (fun k => hm k.symm)]
            unfold VE.wr
            split <;> first | (rw [List.getElem?_set_ne (fun k => hm k.symm)]; exact z) | exact z
      have hs1 : ∀ m ∈ vrefs rs, (slotM (ve.back j ys[0]?) m).isSome = true := fun m hm => by
        rw [slot_back (fun z => hn.1 (by rw [← z]; exact hm))]
        exact hs m (by simp [hm])
      obtain ⟨Mc', a1, a2, a3, a4⟩ := wback_ok rs ws (ys.drop 1) _ (Mc.set l c) R1 t hn.2 hs1 (by rw [List.length_set]; exact hl) hyt
      refine ⟨Mc', a1, a2, fun l' q => ?_, fun i l' q => ?_⟩
      · rw [a3 l' fun i => by have := q (i + 1); simpa using this]
        have : l ≠ l' := fun z => by have := q 0; simp [z] at this
        rw [List.getElem?_set_ne this]
      · cases i with
        | zero =>
          simp at q
          subst q
          by_cases hz : ∃ i : Nat, ws[i]? = some (.r l)
          · obtain ⟨i, hi⟩ := hz
            exact a4 i l hi
          · rw [a3 l fun i hi => hz ⟨i, hi⟩, List.getElem?_set_self hlt, hc]
        | succ i => exact a4 i l' (by simpa using q)
    | o x => exact h.elim
    | d x =>
      cases h
      obtain ⟨Mc', a1, a2, a3, a4⟩ := wback_ok rs ws (ys.drop 1) ve Mc R t hn hs hl hyt
      exact ⟨Mc', a1, a2, fun l' q => a3 l' fun i => by have := q (i + 1); simpa using this, fun i l' q => by
        cases i with
        | zero => simp at q
        | succ i => exact a4 i l' (by simpa using q)⟩
    | k x =>
      cases h
      obtain ⟨Mc', a1, a2, a3, a4⟩ := wback_ok rs ws (ys.drop 1) ve Mc R t hn hs hl hyt
      exact ⟨Mc', a1, a2, fun l' q => a3 l' fun i => by have := q (i + 1); simpa using this, fun i l' q => by
        cases i with
        | zero => simp at q
        | succ i => exact a4 i l' (by simpa using q)⟩
    | f x =>
      cases h
      obtain ⟨Mc', a1, a2, a3, a4⟩ := wback_ok rs ws (ys.drop 1) ve Mc R t hn hs hl hyt
      exact ⟨Mc', a1, a2, fun l' q => a3 l' fun i => by have := q (i + 1); simpa using this, fun i l' q => by
        cases i with
        | zero => simp at q
        | succ i => exact a4 i l' (by simpa using q)⟩
theorem vargs_slots {rs : List VR} {vs : List VV} (q : vargs ve rs = some vs) : ∀ j ∈ vrefs rs, (slotM ve j).isSome = true := by
  induction rs generalizing vs with
  | nil => intro j hj; cases hj
  | cons r rs ih =>
    intro j hj
    unfold vargs at q
    cases z : vargs ve rs with
    | none => rw [z] at q; split at q <;> rename_i h1 h2 <;> first | cases h2 | cases q
    | some us =>
      cases r with
      | ref m =>
        rcases List.mem_cons.mp hj with rfl | hj
        · cases s : slotM ve j with
          | none => simp only [s, z, Option.map_none] at q; cases q
          | some x => rfl
        · exact ih z j hj
      | _ => exact ih z j hj
theorem j_call {F : DenF} {V : VF} {fa : En → Mem → Ans (List Wv)} {fa' : VDA} (hF : SimF F V) (ha : JA fa fa') : JE (dCall F fa) (vdCall V fa') := fun Γ ve e M R =>
  (ha Γ ve e M R).bind fun rs ve1 ws M1 h1 R1 => by
    unfold vcallR
    cases z : vargs ve1 rs with
    | none => trivial
    | some vs =>
      simp only []
      split
      · rename_i hn
        have hd : ∀ (i j l : Nat), ws[i]? = some (.r l) → ws[j]? = some (.r l) → i = j := fun i j l hi hj => by
          obtain ⟨a, p1, p2⟩ := h1.refs hi
          obtain ⟨b, q1, q2⟩ := h1.refs hj
          have sl := vargs_slots z
          have : a = b := R1.inj a b l (sl a (vrefs_get p1)) (sl b (vrefs_get q1)) p2 q2
          subst this
          exact vrefs_inj hn p1 q1
        have FO := hF vs ws M1 (vargs_ok R1 h1 z) hd
        have wb : ∀ ys M', Post ws M1 ys M' → Rel Γ (wback rs ys ve1) e M' := fun ys M' P => by
          obtain ⟨Mc', a1, a2, a3, a4⟩ := wback_ok rs ws ys ve1 M1 R1 h1 hn (vargs_slots z) P.len.symm P.at_
          have : Mc' = M' := by
            apply List.ext_getElem?
            intro l
            by_cases hz : ∃ i : Nat, ws[i]? = some (.r l)
            · obtain ⟨i, hi⟩ := hz
              exact a4 i l hi
            · rw [a3 l fun i hi => hz ⟨i, hi⟩, P.same l fun i hi => hz ⟨i, hi⟩]
          subst this
          exact a1
        cases q : V vs with
        | bad => trivial
        | ex x ys => rw [q] at FO; obtain ⟨M', k1, k2⟩ := FO; exact ⟨M', k1, wb ys M' k2⟩
        | ok r ys =>
          rw [q] at FO
          obtain ⟨r', M', k1, k2, k3⟩ := FO
          refine ⟨r', M', k1, ?_, wb ys M' k3⟩
          cases r with
          | ref j => exact k2.elim
          | _ => exact k2
      · trivial
theorem sim_bad {F : DenF} : SimF F (fun _ => .bad) := fun _ _ _ _ _ => trivial
theorem law_v {F : DenF} {V : VF} {ns : List Int} (hF : SimF F V) (h : ∃ ys, V [.k (ns.map .int)] = .ok (.d (.bool true)) ys) : ∃ M, F [.k (ns.map .int)] [] = .val (.w (.d (.bool true))) M := by
  obtain ⟨ys, h⟩ := h
  have := hF [.k (ns.map .int)] [.k (ns.map .int)] [] (.cons rfl .nil) (fun i j l hi hj => by cases i <;> simp at hi)
  rw [h] at this
  obtain ⟨r', M', k1, k2, _⟩ := this
  cases k2
  exact ⟨M', k1⟩
end
end Lf
namespace Lf
open PySem PySem.Spec PyProof.Rows L2
@[simp] def vsRaise (x : Str) : VDS := fun e => .ex ⟨x, []⟩ e
theorem js_raise {x : Str} : JS (sRaise x) (vsRaise x) := fun Γ ve e M R => ⟨e, M, rfl, R⟩
def kindU (t : List (Str × Str)) (x : Xn) : Option VR := (wordOf t x).map fun z => .d (.str z)
@[simp] def vsTryK (j : Nat) (kind : Xn → Option VR) (fb : VDS) : VDS := fun e => match fb e with
  | .ex x e1 => (match kind x with
    | some r => if j < e1.length then .ret r e1 else .bad
    | none => .bad)
  | r => r
@[simp] def visRL (o : VR) (e : VE) : Bool := match o.rdK e with
  | some (.list _) => true
  | _ => false
@[simp] def vmrR (F : PyData → PyData → Option Rv) (o : VR) (ws : List VR) (e : VE) : Rs VR := match o.rdK e, ws with
  | some c, [w] => (match w.rd e with
    | some d => vofR (F c d) e
    | none => .bad)
  | _, _ => .bad
@[simp] def vdMr (F : PyData → PyData → Option Rv) (f : VD) (fa : VDA) : VD := fun e => (f e).bind fun o e1 => if visRL o e1 = true then (fa e1).bind fun ws e2 => vmrR F o ws e2 else .bad
end Lf
set_option Elab.async false
set_option linter.all false
set_option maxRecDepth 100000
set_option maxHeartbeats 2000000
namespace Lf
open PySem PySem.Spec PyProof.Rows L2
@[simp] theorem maskF_nil (ks : List Nat) (n : Nat) : maskF ks n [] = [] := rfl
@[simp] theorem maskF_cons (ks : List Nat) (n : Nat) (v : Option VV) (r : VE) : maskF ks n (v :: r) = (if ks.contains n then v else none) :: maskF ks (n + 1) r := rfl
@[simp] theorem still_d (x : PyData) : still (.d x) = true := rfl
@[simp] theorem still_k (x : List PyData) : still (.k x) = true := rfl
@[simp] theorem still_f (x : Addr) : still (.f x) = true := rfl
@[simp] theorem still_m (x : PyData) : still (.m x) = false := rfl
@[simp] theorem still_p (x : PyData) : still (.p x) = false := rfl
theorem vfn_eval {nl np : Nat} {body : VDS} {vs : List VV} {a : Rs VR} (hl : vs.length = np) (ha : vs.all argOk = true) (h : vendR np (body (vs.map some ++ List.replicate (nl - np) none)) = a) : vfnD nl np body vs = a := by
  unfold vfnD
  rw [if_pos ⟨hl, ha⟩, h]
theorem vseq_next {f g : VDS} {e e' : VE} (h : f e = .next e') : vsSeq f g e = g e' := by
  unfold vsSeq
  rw [h]; rfl
theorem lcV_inv {A : Type} (enc : A → PyData) {vs : List Nat} {chk : VE → Bool} {tg : PyData → VE → Option VE} {tt : VDT} {elt : VD} (R : List A → List PyData → VE → Prop) : ∀ (l done : List A) (acc : List PyData) (e : VE), R done acc e → acc.length + l.length ≤ sizeLine →
    (∀ d x r acc e, done ++ l = d ++ x :: r → R d acc e → chk e = true ∧ ∃ e1, tg (enc x) e = some e1 ∧ ((∃ e2, tt e1 = .ok false e2 ∧ R (d ++ [x]) acc (wipeV e2 vs)) ∨ ∃ e2 r' e3 y, tt e1 = .ok true e2 ∧ elt e2 = .ok r' e3 ∧ r'.fz = .d y ∧ R (d ++ [x]) (acc ++ [y]) (wipeV e3 vs))) →
    (∀ acc e, R (done ++ l) acc e → chk e = true) → ∃ acc' e', lcV vs chk tg tt elt (l.map enc) acc e = .ok (.o (.list acc')) e' ∧ R (done ++ l) acc' e'
  | [], done, acc, e, h0, hl, hs, hc => by
    rw [List.append_nil] at hc ⊢
    refine ⟨acc, e, ?_, h0⟩
    rw [List.map_nil]
    unfold lcV
    rw [if_pos ⟨hc acc e h0, by simpa using hl⟩]
  | x :: xs, done, acc, e, h0, hl, hs, hc => by
    obtain ⟨h1, e1, h2, h3⟩ := hs done x xs acc e rfl h0
    have ea : done ++ x :: xs = (done ++ [x]) ++ xs := by simp
    rw [List.length_cons] at hl
    rw [List.map_cons]
    unfold lcV
    rw [if_pos h1, h2]
    simp only []
    rw [ea] at hs hc ⊢
    rcases h3 with ⟨e2, h3, h4⟩ | ⟨e2, r', e3, y, h3, h4, h5, h6⟩
    · rw [h3]
      exact lcV_inv enc R xs (done ++ [x]) acc _ h4 (by omega) hs hc
    · rw [h3]
      simp only [h4, h5]
      rw [if_pos (by omega)]
      exact lcV_inv enc R xs (done ++ [x]) (acc ++ [y]) _ h6 (by simp; omega) hs hc
theorem vlc_inv {A : Type} (enc : A → PyData) (l : List A) (R : List A → List PyData → VE → Prop) {it : VE → Rs VItems} {vs : List Nat} {tg : PyData → VE → Option VE} {tt : VDT} {elt : VD} {e e1 : VE} {o : Option (Nat × List PyData)}
    (hi : it e = .ok (l.map enc, o) e1) (hl : l.length ≤ sizeLine) (h0 : R [] [] (wipeV e1 vs))
    (hs : ∀ d x r acc e, l = d ++ x :: r → R d acc e → vchk (l.map enc, o) e = true ∧ ∃ e1, tg (enc x) e = some e1 ∧ ((∃ e2, tt e1 = .ok false e2 ∧ R (d ++ [x]) acc (wipeV e2 vs)) ∨ ∃ e2 r' e3 y, tt e1 = .ok true e2 ∧ elt e2 = .ok r' e3 ∧ r'.fz = .d y ∧ R (d ++ [x]) (acc ++ [y]) (wipeV e3 vs)))
    (hc : ∀ acc e, R l acc e → vchk (l.map enc, o) e = true) : ∃ acc e', vdLc it vs tg tt elt e = .ok (.o (.list acc)) (backV e1 vs e') ∧ R l acc e' := by
  unfold vdLc
  rw [hi]
  obtain ⟨acc', e', h1, h2⟩ := lcV_inv enc (chk := vchk (l.map enc, o)) (tg := tg) (tt := tt) (elt := elt) (vs := vs) R l [] [] (wipeV e1 vs) h0 (by simpa using hl) hs hc
  refine ⟨acc', e', ?_, h2⟩
  show (lcV vs (vchk (l.map enc, o)) tg tt elt (l.map enc) [] (wipeV e1 vs)).bind (fun r e2 => .ok r (backV e1 vs e2)) = _
  rw [h1]
  rfl
theorem vlc_eval {A B : Type} (enc : A → PyData) (l : List A) (p : A → Bool) (g : A → B) (encB : B → PyData) {it : VE → Rs VItems} {vs : List Nat} {tg : PyData → VE → Option VE} {tt : VDT} {elt : VD} {e e1 : VE} {o : Option (Nat × List PyData)}
    (hi : it e = .ok (l.map enc, o) e1) (hl : l.length ≤ sizeLine) (hc : vchk (l.map enc, o) (wipeV e1 vs) = true)
    (h : ∀ a ∈ l, ∃ e2, tg (enc a) (wipeV e1 vs) = some e2 ∧ wipeV e2 vs = wipeV e1 vs ∧ tt e2 = .ok (p a) e2 ∧ (p a = true → ∃ r, elt e2 = .ok r e2 ∧ r.fz = .d (encB (g a)))) :
    vdLc it vs tg tt elt e = .ok (.o (.list (((l.filter p).map g).map encB))) (backV e1 vs (wipeV e1 vs)) := by
  unfold vdLc
  rw [hi]
  show (lcV vs (vchk (l.map enc, o)) tg tt elt (l.map enc) [] (wipeV e1 vs)).bind (fun r e2 => .ok r (backV e1 vs e2)) = _
  obtain ⟨acc', e', h1, rfl, rfl⟩ := lcV_inv enc (chk := vchk (l.map enc, o)) (tg := tg) (tt := tt) (elt := elt) (vs := vs) (fun d acc e => acc = ((d.filter p).map g).map encB ∧ e = wipeV e1 vs) l [] [] (wipeV e1 vs) ⟨rfl, rfl⟩ (by simpa using hl)
    (fun d x r acc e hd hR => by
      obtain ⟨rfl, rfl⟩ := hR
      obtain ⟨e2, h1, h2, h3, h4⟩ := h x (by rw [List.nil_append] at hd; rw [hd]; simp)
      refine ⟨hc, e2, h1, ?_⟩
      cases hp : p x with
      | false => exact .inl ⟨e2, by rw [h3, hp], by simp [hp], h2⟩
      | true =>
        obtain ⟨r', h5, h6⟩ := h4 hp
        exact .inr ⟨e2, r', e2, encB (g x), by rw [h3, hp], h5, h6, by simp [hp], h2⟩)
    (fun acc e hR => by obtain ⟨_, rfl⟩ := hR; exact hc)
  rw [h1]
  rfl
theorem vlc_map {A B : Type} (enc : A → PyData) (l : List A) (g : A → B) (encB : B → PyData) {it : VE → Rs VItems} {vs : List Nat} {tg : PyData → VE → Option VE} {elt : VD} {e e1 : VE} {o : Option (Nat × List PyData)}
    (hi : it e = .ok (l.map enc, o) e1) (hl : l.length ≤ sizeLine) (hc : vchk (l.map enc, o) (wipeV e1 vs) = true)
    (h : ∀ a ∈ l, ∃ e2, tg (enc a) (wipeV e1 vs) = some e2 ∧ wipeV e2 vs = wipeV e1 vs ∧ elt e2 = .ok (.d (encB (g a))) e2) :
    vdLc it vs tg vtTrue elt e = .ok (.o (.list ((l.map g).map encB))) (backV e1 vs (wipeV e1 vs)) := by
  rw [vlc_eval enc l (fun _ => true) g encB hi hl hc fun a ha => ?_, List.filter_eq_self.mpr fun _ _ => rfl]
  obtain ⟨e2, h1, h2, h3⟩ := h a ha
  exact ⟨e2, h1, h2, rfl, fun _ => ⟨_, h3, rfl⟩⟩
theorem vlc_filter {A : Type} (enc : A → PyData) (l : List A) (p : A → Bool) {it : VE → Rs VItems} {vs : List Nat} {tg : PyData → VE → Option VE} {tt : VDT} {elt : VD} {e e1 : VE} {o : Option (Nat × List PyData)}
    (hi : it e = .ok (l.map enc, o) e1) (hl : l.length ≤ sizeLine) (hc : vchk (l.map enc, o) (wipeV e1 vs) = true)
    (h : ∀ a ∈ l, ∃ e2, tg (enc a) (wipeV e1 vs) = some e2 ∧ wipeV e2 vs = wipeV e1 vs ∧ tt e2 = .ok (p a) e2 ∧ elt e2 = .ok (.d (enc a)) e2) :
    vdLc it vs tg tt elt e = .ok (.o (.list ((l.filter p).map enc))) (backV e1 vs (wipeV e1 vs)) := by
  rw [vlc_eval enc l p id enc hi hl hc fun a ha => ?_, List.map_id]
  obtain ⟨e2, h1, h2, h3, h4⟩ := h a ha
  exact ⟨e2, h1, h2, h3, fun _ => ⟨_, h4, rfl⟩⟩
theorem forV_inv {A : Type} (enc : A → PyData) {ks : List Nat} {chk : VE → Bool} {tg : PyData → VE → Option VE} {body : VDS} (R : List A → VE → Prop) : ∀ (l done : List A) (e : VE), R done e →
    (∀ d x r e, done ++ l = d ++ x :: r → R d e → chk e = true ∧ ∃ e1, tg (enc x) e = some e1 ∧ ∃ e2, body e1 = .next e2 ∧ R (d ++ [x]) (mask ks e2)) →
    (∀ e, R (done ++ l) e → chk e = true) → ∃ e', forV ks chk tg body (l.map enc) e = .next e' ∧ R (done ++ l) e'
  | [], done, e, h0, hs, hc => by
    rw [List.append_nil] at hc ⊢
    rw [List.map_nil]
    unfold forV
    rw [if_pos (hc e h0)]
    exact ⟨e, rfl, h0⟩
  | x :: xs, done, e, h0, hs, hc => by
    rw [List.map_cons]
    unfold forV
    obtain ⟨h1, e1, h2, e2, h3, h4⟩ := hs done x xs e rfl h0
    rw [if_pos h1]
    simp only [h2, h3]
    have ea : done ++ x :: xs = (done ++ [x]) ++ xs := by simp
    rw [ea] at hs hc ⊢
    exact forV_inv enc R xs (done ++ [x]) _ h4 hs hc
theorem vfor_inv {A : Type} (enc : A → PyData) (l : List A) (R : List A → VE → Prop) {ks : List Nat} {it : VE → Rs VItems} {tg : PyData → VE → Option VE} {body : VDS} {e e1 : VE} (hi : it e = .ok (l.map enc, none) e1) (h0 : R [] (mask ks e1))
    (hs : ∀ d x r e, l = d ++ x :: r → R d e → ∃ e1, tg (enc x) e = some e1 ∧ ∃ e2, body e1 = .next e2 ∧ R (d ++ [x]) (mask ks e2)) : ∃ e', vsFor ks it tg body e = .next e' ∧ R l e' := by
  unfold vsFor
  rw [hi]
  exact forV_inv enc R l [] _ h0 (fun d x r e hd hR => ⟨rfl, hs d x r e hd hR⟩) (fun _ _ => rfl)
theorem vfor_fold {A S : Type} (enc : A → PyData) (l : List A) (E : S → VE) (step : S → A → S) (s0 : S) {ks : List Nat} {it : VE → Rs VItems} {tg : PyData → VE → Option VE} {body : VDS} {e e1 : VE} (hi : it e = .ok (l.map enc, none) e1) (h0 : mask ks e1 = E s0)
    (hs : ∀ d x r, l = d ++ x :: r → ∃ e1, tg (enc x) (E (d.foldl step s0)) = some e1 ∧ ∃ e2, body e1 = .next e2 ∧ mask ks e2 = E (step (d.foldl step s0) x)) : vsFor ks it tg body e = .next (E (l.foldl step s0)) := by
  obtain ⟨e', h1, rfl⟩ := vfor_inv enc l (fun d e => e = E (d.foldl step s0)) hi h0 (fun d x r e hd hR => by
    subst hR
    obtain ⟨e1, h1, e2, h2, h3⟩ := hs d x r hd
    exact ⟨e1, h1, e2, h2, by rw [h3, List.foldl_append]; rfl⟩)
  exact h1
theorem forV_find {A : Type} (enc : A → PyData) {ks : List Nat} {chk : VE → Bool} {tg : PyData → VE → Option VE} {body : VDS} {E : VE} (p : A → Bool) (res : A → VR) (P : VE → Prop) (hc : chk E = true) : ∀ (l : List A),
    (∀ x ∈ l, ∃ e1, tg (enc x) E = some e1 ∧ (p x = true → ∃ e2, body e1 = .ret (res x) e2 ∧ P e2) ∧ (p x = false → ∃ e2, body e1 = .next e2 ∧ mask ks e2 = E)) →
    (∀ x, l.find? p = some x → ∃ e2, forV ks chk tg body (l.map enc) E = .ret (res x) e2 ∧ P e2) ∧ (l.find? p = none → forV ks chk tg body (l.map enc) E = .next E)
  | [], h => ⟨(fun x q => by simp at q), fun _ => by rw [List.map_nil]; unfold forV; rw [if_pos hc]⟩
  | x :: xs, h => by
    obtain ⟨e1, h1, h2, h3⟩ := h x List.mem_cons_self
    have ih := forV_find enc p res P hc xs fun y hy => h y (List.mem_cons_of_mem _ hy)
    cases hp : p x with
    | true =>
      obtain ⟨e2, h4, h4'⟩ := h2 hp
      refine ⟨fun y q => ?_, fun q => ?_⟩
      · rw [List.find?_cons, hp] at q
        cases q
        refine ⟨e2, ?_, h4'⟩
        rw [List.map_cons]
        unfold forV
        rw [if_pos hc]
        simp only [h1, h4]
      · rw [List.find?_cons, hp] at q
        cases q
    | false =>
      obtain ⟨e2, h4, h5⟩ := h3 hp
      have e : forV ks chk tg body ((x :: xs).map enc) E = forV ks chk tg body (xs.map enc) E := by
        rw [List.map_cons]
        conv => lhs; unfold forV
        rw [if_pos hc]
        simp only [h1, h4, h5]
      rw [e, List.find?_cons, hp]
      exact ih
def lI (ns : List Int) : PyData := .list (ns.map .int)
def lT (fs : List (List Int)) : PyData := .list (fs.map tI)
def tT (fs : List (List Int)) : PyData := .tuple (fs.map tI)
end Lf
set_option Elab.async false
set_option linter.all false
set_option maxRecDepth 100000
set_option maxHeartbeats 1000000
namespace Pu
open Lf L2
def grow (m : Int) (found : List (List Int)) (x : Int) : List (List Int) := found ++ (found.filter fun o => decide ((o.length : Int) < m)).map (· ++ [x])
def subs (m : Int) (row : List Int) : List (List Int) := row.foldl (grow m) [[]]
def picked (row : List Int) (m : Int) : List (List Int) := (subs m row).filter fun o => decide ((o.length : Int) = m)
theorem mem_grow {m : Int} {found : List (List Int)} {t : Int} {x : List Int} : x ∈ grow m found t ↔ x ∈ found ∨ ∃ y ∈ found, (y.length : Int) < m ∧ x = y ++ [t] := by
  unfold grow
  rw [List.mem_append, List.mem_map]
  constructor
  · rintro (h | ⟨y, h, rfl⟩)
    · exact .inl h
    · rw [List.mem_filter] at h
      exact .inr ⟨y, h.1, by simpa using h.2, rfl⟩
  · rintro (h | ⟨y, h1, h2, rfl⟩)
    · exact .inl h
    · exact .inr ⟨y, List.mem_filter.mpr ⟨h1, by simpa using h2⟩, rfl⟩
theorem mem_fold {m : Int} {x : List Int} : ∀ (row : List Int) (found : List (List Int)), x ∈ row.foldl (grow m) found ↔ ∃ y ∈ found, ∃ z, z.Sublist row ∧ x = y ++ z ∧ (z = [] ∨ (x.length : Int) ≤ m)
  | [], found => by
    constructor
    · intro h
      exact ⟨x, h, [], List.Sublist.refl _, by simp, .inl rfl⟩
    · rintro ⟨y, hy, z, hz, rfl, _⟩
      rw [List.sublist_nil.mp hz, List.append_nil]
      exact hy
  | t :: row, found => by
    rw [List.foldl_cons, mem_fold row]
    constructor
    · rintro ⟨y', hy, z', hz, rfl, hm⟩
      rcases mem_grow.mp hy with hy2 | ⟨y, hy2, hl, rfl⟩
      · exact ⟨y', hy2, z', hz.cons t, rfl, hm⟩
      · refine ⟨y, hy2, t :: z', hz.cons_cons t, by simp, .inr ?_⟩
        rcases hm with rfl | hm
        · simp; omega
        · exact hm
    · rintro ⟨y, hy, z, hz, rfl, hm⟩
      cases hz with
      | cons _ hz => exact ⟨y, mem_grow.mpr (.inl hy), z, hz, rfl, hm⟩
      | @cons_cons z' _ _ hz =>
        have hm : ((y ++ t :: z').length : Int) ≤ m := by
          rcases hm with h | h
          · cases h
          · exact h
        refine ⟨y ++ [t], mem_grow.mpr (.inr ⟨y, hy, ?_, rfl⟩), z', hz, by simp, .inr (by simpa using hm)⟩
        simp at hm; omega
theorem mem_subs {m : Int} (h0 : 0 ≤ m) {x row : List Int} : x ∈ subs m row ↔ x.Sublist row ∧ (x.length : Int) ≤ m := by
  unfold subs
  rw [mem_fold]
  constructor
  · rintro ⟨y, hy, z, hz, rfl, hm⟩
    simp at hy
    subst hy
    refine ⟨by simpa using hz, ?_⟩
    rcases hm with rfl | hm
    · simpa using h0
    · exact hm
  · rintro ⟨h1, h2⟩
    exact ⟨[], by simp, x, h1, by simp, .inr h2⟩
theorem mem_picked {m : Int} (h0 : 0 ≤ m) {x row : List Int} : x ∈ picked row m ↔ x.Sublist row ∧ (x.length : Int) = m := by
  unfold picked
  rw [List.mem_filter, mem_subs h0]
  simp only [decide_eq_true_eq]
  constructor
  · rintro ⟨⟨a, _⟩, b⟩; exact ⟨a, b⟩
  · rintro ⟨a, b⟩; exact ⟨⟨a, by omega⟩, b⟩
theorem nodup_grow {m : Int} {found : List (List Int)} {t : Int} (h : found.Nodup) (ht : ∀ o ∈ found, t ∉ o) : (grow m found t).Nodup := by
  unfold grow
  rw [List.nodup_append]
  refine ⟨h, ?_, ?_⟩
  · refine List.pairwise_map.mpr (List.Pairwise.imp (fun {a b} hab e => hab ?_) (h.filter _))
    exact (List.append_inj_left' e rfl)
  · intro a ha b hb e
    obtain ⟨y, _, rfl⟩ := List.mem_map.mp hb
    exact ht a ha (by rw [e]; simp)
theorem nodup_fold {m : Int} : ∀ (row : List Int) (found : List (List Int)), found.Nodup → row.Nodup → (∀ o ∈ found, ∀ t ∈ row, t ∉ o) → (row.foldl (grow m) found).Nodup
  | [], found, h, _, _ => h
  | t :: row, found, h, hr, ht => by
    rw [List.foldl_cons]
    rw [List.nodup_cons] at hr
    refine nodup_fold row _ (nodup_grow h fun o ho => ht o ho t List.mem_cons_self) hr.2 fun o ho s hs => ?_
    rcases mem_grow.mp ho with ho | ⟨y, hy, _, rfl⟩
    · exact ht o ho s (List.mem_cons_of_mem _ hs)
    · intro z
      rcases List.mem_append.mp z with z | z
      · exact ht y hy s (List.mem_cons_of_mem _ hs) z
      · have : s = t := by simpa using z
        exact hr.1 (this ▸ hs)
theorem nodup_picked {m : Int} {row : List Int} (h : row.Nodup) : (picked row m).Nodup := (nodup_fold row [[]] (by simp) h (by simp)).filter _
abbrev Rising (f : List Int) : Prop := f.Pairwise (· < ·)
theorem Rising.nodup {f : List Int} (h : Rising f) : f.Nodup := h.imp fun {a b} hab e => by omega
theorem rising_sub : ∀ (y x : List Int), Rising x → Rising y → (∀ a ∈ x, a ∈ y) → x.Sublist y
  | [], x, _, _, h => by
    cases x with
    | nil => exact List.Sublist.refl _
    | cons a r => exact absurd (h a List.mem_cons_self) (by simp)
  | b :: y, [], _, _, _ => List.nil_sublist _
  | b :: y, a :: x, hx, hy, h => by
    have hx' := List.pairwise_cons.mp hx
    have hy' := List.pairwise_cons.mp hy
    rcases List.mem_cons.mp (h a List.mem_cons_self) with e | ha
    · subst e
      refine (rising_sub y x hx'.2 hy'.2 fun c hc => ?_).cons_cons a
      rcases List.mem_cons.mp (h c (List.mem_cons_of_mem _ hc)) with e | z
      · have := hx'.1 c hc; omega
      · exact z
    · refine (rising_sub y (a :: x) hx hy'.2 fun c hc => ?_).cons b
      have hba := hy'.1 a ha
      rcases List.mem_cons.mp (h c hc) with e | z
      · rcases List.mem_cons.mp hc with e2 | e2
        · omega
        · have := hx'.1 c e2; omega
      · exact z
def rgI (n : Int) : List Int := (List.range n.toNat).map fun (j : Nat) => (j : Int)
theorem mem_rgI {n a : Int} : a ∈ rgI n ↔ 0 ≤ a ∧ a < n := by
  unfold rgI
  rw [List.mem_map]
  constructor
  · rintro ⟨j, hj, rfl⟩
    have := List.mem_range.mp hj
    omega
  · intro h
    exact ⟨a.toNat, List.mem_range.mpr (by omega), by omega⟩
theorem rising_rgI (n : Int) : Rising (rgI n) := by
  unfold rgI
  refine List.pairwise_map.mpr (List.Pairwise.imp (fun {a b} h => ?_) List.pairwise_lt_range)
  omega
theorem length_rgI (n : Int) : (rgI n).length = n.toNat := by simp [rgI]
theorem rgD_rgI (n : Int) : rgD 0 n = (rgI n).map PySem.PyData.int := by
  unfold rgD rgI
  rw [List.map_map]
  simp
def allL (n k : Int) : List (List Int) := sortT (picked (rgI n) k)
structure Face (n k : Int) (f : List Int) : Prop where
  up : Rising f
  inn : ∀ a ∈ f, 0 ≤ a ∧ a < n
  len : (f.length : Int) = k
theorem mem_allL {n k : Int} (h0 : 0 ≤ k) {f : List Int} : f ∈ allL n k ↔ Face n k f := by
  unfold allL
  rw [(sortT_perm _).mem_iff, mem_picked h0]
  constructor
  · rintro ⟨h1, h2⟩
    exact ⟨(rising_rgI n).sublist h1, fun a ha => mem_rgI.mp (h1.subset ha), h2⟩
  · intro h
    exact ⟨rising_sub _ _ h.up (rising_rgI n) fun a ha => mem_rgI.mpr (h.inn a ha), h.len⟩
theorem nodup_allL (n k : Int) : (allL n k).Nodup := (sortT_perm _).nodup_iff.mpr (nodup_picked (rising_rgI n).nodup)
theorem allL_ne {n k : Int} (h0 : 0 ≤ k) (h : k ≤ n) : allL n k ≠ [] := by
  have : rgI k ∈ allL n k := (mem_allL h0).mpr ⟨rising_rgI k, fun a ha => by have := mem_rgI.mp ha; omega, by rw [length_rgI]; omega⟩
  intro e
  rw [e] at this
  cases this
def within (p f : List Int) : Bool := p.all fun a => f.contains a
def partsL (fs : List (List Int)) (m : Int) : List (List Int) := sortT (dd (fs.flatMap fun f => picked f m))
def lawParts (n : Int) (fs : List (List Int)) (m : Int) : List (List Int) := (allL n m).filter fun p => fs.any fun f => within p f
theorem within_iff {p f : List Int} : within p f = true ↔ ∀ a ∈ p, a ∈ f := by
  unfold within
  rw [List.all_eq_true]
  constructor
  · intro h a ha; simpa using h a ha
  · intro h a ha; simpa using h a ha
theorem parts_eq {n k m : Int} {fs : List (List Int)} (h0 : 0 ≤ m) (hf : ∀ f ∈ fs, Face n k f) : partsL fs m = lawParts n fs m := by
  have ps : (partsL fs m).Perm (lawParts n fs m) := by
    refine (List.perm_ext_iff_of_nodup ((sortT_perm _).nodup_iff.mpr (nodup_dd _)) ((nodup_allL n m).filter _)).mpr fun x => ?_
    show x ∈ sortT (dd (fs.flatMap fun f => picked f m)) ↔ x ∈ (allL n m).filter fun p => fs.any fun f => within p f
    rw [(sortT_perm _).mem_iff, mem_dd, List.mem_flatMap, List.mem_filter, mem_allL h0, List.any_eq_true]
    constructor
    · rintro ⟨f, hfm, hx⟩
      obtain ⟨hs, hl⟩ := (mem_picked h0).mp hx
      have ff := hf f hfm
      exact ⟨⟨ff.up.sublist hs, fun a ha => ff.inn a (hs.subset ha), hl⟩, f, hfm, within_iff.mpr fun a ha => hs.subset ha⟩
    · rintro ⟨hx, f, hfm, hw⟩
      exact ⟨f, hfm, (mem_picked h0).mpr ⟨rising_sub _ _ hx.up (hf f hfm).up (within_iff.mp hw), hx.len⟩⟩
  exact sorted_eq ps (sortT_sorted _) ((sortT_sorted _).filter _)
theorem allL_few : ∀ n ∈ [(0 : Int), 1, 2, 3, 4, 5, 6, 7, 8], ∀ m ∈ [(0 : Int), 1, 2, 3, 4, 5], (picked (rgI n) m).length ≤ 70 := by decide +kernel
theorem allL_le {n m : Int} (hn : 0 ≤ n ∧ n ≤ 8) (hm : 0 ≤ m ∧ m ≤ 5) : (allL n m).length ≤ 70 := by
  unfold allL
  rw [(sortT_perm _).length_eq]
  refine allL_few n ?_ m ?_
  · have : n = 0 ∨ n = 1 ∨ n = 2 ∨ n = 3 ∨ n = 4 ∨ n = 5 ∨ n = 6 ∨ n = 7 ∨ n = 8 := by omega
    simpa using this
  · have : m = 0 ∨ m = 1 ∨ m = 2 ∨ m = 3 ∨ m = 4 ∨ m = 5 := by omega
    simpa using this
class Stk (n k : Int) (fs : List (List Int)) : Prop where
  n1 : 1 ≤ n
  n8 : n ≤ 8
  k0 : 0 ≤ k
  kn : k ≤ n
  k4 : k ≤ 4
  ne : fs ≠ []
  few : fs.length ≤ 70
  face : ∀ f ∈ fs, Face n k f
  up : fs.Pairwise (· < ·)
def stkD (n k : Int) (fs : List (List Int)) : PySem.PyData := .tuple [.int n, .int k, .tuple (fs.map tI)]
theorem lexLt_eq : ∀ a b : List Int, HT.lexLt a b = decide (a < b)
  | [], [] => by simp [HT.lexLt]
  | [], y :: ys => by simp [HT.lexLt]
  | x :: xs, [] => by simp [HT.lexLt]
  | x :: xs, y :: ys => by
    rw [HT.lexLt, lexLt_eq xs ys]
    by_cases h : x = y
    · subst h; simp [List.cons_lt_cons_iff]
    · simp [h, List.cons_lt_cons_iff]
theorem lt_of_le_ne {a b : List Int} (h : leT a b = true) (ne : a ≠ b) : a < b := by
  unfold leT at h
  have h : a ≤ b := by simpa using h
  by_cases h2 : a < b
  · exact h2
  · exact absurd (List.le_antisymm h (List.not_lt.mp h2)) ne
end Pu
set_option Elab.async false
set_option linter.all false
set_option maxRecDepth 100000
set_option maxHeartbeats 1000000
namespace Pu
open Lf L2 PySem
open PySem.W (dataLe alike)
def leI (a b : Int) : Bool := decide (a ≤ b)
def sortI (l : List Int) : List Int := l.mergeSort leI
theorem sortI_perm (l : List Int) : (sortI l).Perm l := List.mergeSort_perm l leI
theorem sortI_sorted (l : List Int) : (sortI l).Pairwise fun a b => a ≤ b := by
  have := List.pairwise_mergeSort (le := leI) (fun a b c h1 h2 => by unfold leI at *; simp at *; omega) (fun a b => by unfold leI; simp; omega) l
  exact this.imp fun {a b} h => by unfold leI at h; simpa using h
theorem sortD_ints (l : List Int) : sortD (l.map .int) = (sortI l).map .int := by
  unfold sortD sortI
  have := PySem.W.sort_maps (r := leI) (s := dataLe false id) (l := l) PyData.int (fun a _ b _ => by
    have h := congrFun (congrFun (PySem.W.dataLe_int (fun x : Int => x)) a) b
    exact h.symm)
  exact this.symm
theorem sortOk_ints {l : List Int} (hl : l.length ≤ sizeLine) : sortOk (l.map .int) = true := by
  unfold sortOk
  simp only [Bool.and_eq_true, Bool.or_eq_true, List.all_eq_true, decide_eq_true_eq, List.length_map, List.mem_map]
  refine ⟨⟨⟨⟨?_, ?_⟩, hl⟩, canLay_ints l⟩, .inr ?_⟩
  · rintro _ ⟨a, _, rfl⟩ _ ⟨b, _, rfl⟩
    simp [alike]
  · rintro _ ⟨a, _, rfl⟩
    simp [PyData.depth]
  · rintro _ ⟨a, _, rfl⟩
    rfl
def rest (f : List Int) (out : Int) : List Int := f.filter fun a => !decide (a = out)
end Pu
set_option Elab.async false
set_option linter.all false
set_option maxRecDepth 100000
set_option maxHeartbeats 2000000
namespace Lf
open PySem PySem.Spec PyProof.Rows L2 Pu
def addV := addF
def subV := subF
def mulV := mulF
def fdivV := fdivF
def modV := modF
def powV := powF
def eqV := eqF
def neV := neF
def ltV := ltF
def leV := leF
def gtV := gtF
def geV := geF
def lt0V := lt0F
def inV := inXF
def lenV := lenF
def tupleV := tupleF
def listV := listF
def sumV := sumXF
def allV := allF
def anyV := anyF
def intV := intF
def sortV := sortF
def repV := repF
structure Enc {A : Type} [DecidableEq A] (enc : A → PyData) (d : Nat) : Prop where
  eqv : ∀ a b, PyData.eqv (enc a) (enc b) = decide (a = b)
  lay : ∀ a, (enc a).canLay0 = true
  dep : ∀ a, (enc a).depth ≤ d
section
variable {A : Type} [DecidableEq A] {enc : A → PyData} {d : Nat}
theorem Enc.layAll (E : Enc enc d) : ∀ l : List A, PyData.canLayAll0 (l.map enc) = true
  | [] => rfl
  | x :: l => by simp only [List.map_cons, PyData.canLayAll0, E.lay x, E.layAll l, Bool.and_self]
theorem Enc.depAll (E : Enc enc d) : ∀ l : List A, PyData.depthAll (l.map enc) ≤ d
  | [] => by simp [PyData.depthAll]
  | x :: l => by
    have h1 := E.dep x
    have h2 := E.depAll l
    rw [List.map_cons]
    simp only [PyData.depthAll]
    omega
theorem Enc.eqvAll (E : Enc enc d) : ∀ a b : List A, PyData.eqvAll (a.map enc) (b.map enc) = decide (a = b)
  | [], [] => by simp [PyData.eqvAll]
  | [], y :: b => by simp [PyData.eqvAll]
  | x :: a, [] => by simp [PyData.eqvAll]
  | x :: a, y :: b => by
    simp only [List.map_cons, PyData.eqvAll, E.eqv, E.eqvAll a b]
    by_cases h : x = y <;> by_cases h2 : a = b <;> simp [h, h2]
theorem Enc.lst (E : Enc enc d) : Enc (fun l : List A => .list (l.map enc)) (d + 1) :=
  ⟨fun a b => by rw [← E.eqvAll]; simp [PyData.eqv], fun a => by simp [PyData.canLay0, E.layAll], fun a => by have := E.depAll a; simp only [PyData.depth]; omega⟩
theorem Enc.tup (E : Enc enc d) : Enc (fun l : List A => .tuple (l.map enc)) (d + 1) :=
  ⟨fun a b => by rw [← E.eqvAll]; simp [PyData.eqv], fun a => by simp [PyData.canLay0, E.layAll], fun a => by have := E.depAll a; simp only [PyData.depth]; omega⟩
theorem Enc.sh (E : Enc enc d) (hd : d ≤ 64) (a : A) : SeqAt.shaped (enc a) = true := by
  have := E.dep a
  simp only [SeqAt.shaped, E.lay a, Bool.true_and, decide_eq_true_eq]
  omega
theorem Enc.any (E : Enc enc d) (x : A) (l : List A) : (l.map enc).any (fun z => PyData.eqv z (enc x)) = decide (x ∈ l) := by
  rw [List.any_map, Bool.eq_iff_iff, List.any_eq_true, decide_eq_true_eq]
  constructor
  · rintro ⟨y, hy, q⟩
    simp only [Function.comp, E.eqv, decide_eq_true_eq] at q
    subst q; exact hy
  · intro h
    exact ⟨x, h, by simp [Function.comp, E.eqv]⟩
theorem Enc.eqF (E : Enc enc d) (hd : d ≤ 64) (a b : A) : Lf.eqF (enc a) (enc b) = some (vB (decide (a = b))) := by
  unfold Lf.eqF
  rw [if_pos ⟨E.sh hd a, E.sh hd b⟩, E.eqv]
theorem Enc.neF (E : Enc enc d) (hd : d ≤ 64) (a b : A) : Lf.neF (enc a) (enc b) = some (vB (!decide (a = b))) := by
  unfold Lf.neF
  rw [if_pos ⟨E.sh hd a, E.sh hd b⟩, E.eqv]
theorem Enc.inL (E : Enc enc d) (hd : d ≤ 64) (neg : Bool) (a : A) (l : List A) : Lf.inXF neg (enc a) (.list (l.map enc)) = some (vB (if neg then !decide (a ∈ l) else decide (a ∈ l))) := by
  unfold Lf.inXF Lf.inF
  simp only [E.sh hd a, E.layAll l, and_self, if_true, E.any, Option.some_or]
theorem Enc.inT (E : Enc enc d) (hd : d ≤ 64) (neg : Bool) (a : A) (l : List A) : Lf.inXF neg (enc a) (.tuple (l.map enc)) = some (vB (if neg then !decide (a ∈ l) else decide (a ∈ l))) := by
  unfold Lf.inXF Lf.inF
  simp only [E.sh hd a, E.layAll l, and_self, if_true, E.any, Option.some_or]
end
theorem encI : Enc PyData.int 1 := ⟨fun a b => by simp, fun a => rfl, fun a => by simp [PyData.depth]⟩
theorem encTI : Enc tI 2 := encI.tup
theorem encLI : Enc lI 2 := encI.lst
theorem encLT : Enc lT 3 := encTI.lst
theorem encTT : Enc tT 3 := encTI.tup
def lB (bs : List Bool) : PyData := .list (bs.map .bool)
@[simp] theorem unlO_lI (l : List Int) : unlO (some (lI l)) = some (lI l) := rfl
@[simp] theorem unlO_lT (l : List (List Int)) : unlO (some (lT l)) = some (lT l) := rfl
@[simp] theorem unlO_lB (l : List Bool) : unlO (some (lB l)) = some (lB l) := rfl
@[simp] theorem isLk_l (l : List PyData) : isLk (.list l) = false := rfl
@[simp] theorem isLk_d (l : List (PyData × PyData)) : isLk (.dict l) = false := rfl
@[simp] theorem isLk_lI (l : List Int) : isLk (lI l) = false := rfl
@[simp] theorem isLk_lT (l : List (List Int)) : isLk (lT l) = false := rfl
@[simp] theorem isLk_lB (l : List Bool) : isLk (lB l) = false := rfl
theorem encB : Enc PyData.bool 1 := ⟨fun a b => by simp, fun a => rfl, fun a => by simp [PyData.depth]⟩
theorem encLB : Enc lB 2 := encB.lst
@[simp] theorem addV_i (a b : Int) : addV (.int a) (.int b) = some (vI (a + b)) := rfl
@[simp] theorem subV_i (a b : Int) : subV (.int a) (.int b) = some (vI (a - b)) := rfl
@[simp] theorem ltV_i (a b : Int) : ltV (.int a) (.int b) = some (vB (decide (a < b))) := rfl
@[simp] theorem lt0V_i (a b : Int) : lt0V (.int a) (.int b) = some (vB (decide (a < b))) := rfl
@[simp] theorem leV_i (a b : Int) : leV (.int a) (.int b) = some (vB (decide (a ≤ b))) := rfl
@[simp] theorem gtV_i (a b : Int) : gtV (.int a) (.int b) = some (vB (decide (b < a))) := rfl
@[simp] theorem geV_i (a b : Int) : geV (.int a) (.int b) = some (vB (decide (b ≤ a))) := rfl
@[simp] theorem eqV_i (a b : Int) : eqV (.int a) (.int b) = some (vB (decide (a = b))) := encI.eqF (by decide) a b
@[simp] theorem neV_i (a b : Int) : neV (.int a) (.int b) = some (vB (!decide (a = b))) := encI.neF (by decide) a b
@[simp] theorem eqV_b (a b : Bool) : eqV (.bool a) (.bool b) = some (vB (decide (a = b))) := encB.eqF (by decide) a b
@[simp] theorem neV_b (a b : Bool) : neV (.bool a) (.bool b) = some (vB (!decide (a = b))) := encB.neF (by decide) a b
@[simp] theorem intV_i (a : Int) : intV (.int a) = some (vI a) := rfl
@[simp] theorem intV_b (b : Bool) : intV (.bool b) = some (vI (if b then 1 else 0)) := rfl
theorem mulV_i {a b : Int} (h : a.natAbs < 2 ^ 64 ∨ b.natAbs < 2 ^ 64) : mulV (.int a) (.int b) = some (vI (a * b)) := by
  unfold mulV mulF
  simp only [if_pos h]
theorem fdivV_i {a b : Int} (h : 0 < b ∧ b < 2 ^ 64) : fdivV (.int a) (.int b) = some (vI (a / b)) := by
  have hn : b.natAbs.log2 < 9000 := by
    have : b.natAbs < 2 ^ 64 := by omega
    have : b.natAbs.log2 ≤ 64 := by
      by_cases hz : b.natAbs = 0
      · rw [hz]; decide
      · have := (Nat.log2_lt hz).mpr this
        omega
    omega
  unfold fdivV fdivF
  simp only [int2, if_pos (show 0 < b ∧ b.natAbs.log2 < 9000 from ⟨h.1, hn⟩)]
theorem modV_i {a b : Int} (h : 0 < b) : modV (.int a) (.int b) = some (vI (a % b)) := by
  unfold modV modF
  simp only [int2, if_pos h]
@[simp] theorem eqV_tI (a b : List Int) : eqV (tI a) (tI b) = some (vB (decide (a = b))) := encTI.eqF (by decide) a b
@[simp] theorem neV_tI (a b : List Int) : neV (tI a) (tI b) = some (vB (!decide (a = b))) := encTI.neF (by decide) a b
@[simp] theorem eqV_lI (a b : List Int) : eqV (lI a) (lI b) = some (vB (decide (a = b))) := encLI.eqF (by decide) a b
@[simp] theorem neV_lI (a b : List Int) : neV (lI a) (lI b) = some (vB (!decide (a = b))) := encLI.neF (by decide) a b
@[simp] theorem eqV_lT (a b : List (List Int)) : eqV (lT a) (lT b) = some (vB (decide (a = b))) := encLT.eqF (by decide) a b
@[simp] theorem neV_lT (a b : List (List Int)) : neV (lT a) (lT b) = some (vB (!decide (a = b))) := encLT.neF (by decide) a b
@[simp] theorem eqV_tT (a b : List (List Int)) : eqV (tT a) (tT b) = some (vB (decide (a = b))) := encTT.eqF (by decide) a b
@[simp] theorem neV_tT (a b : List (List Int)) : neV (tT a) (tT b) = some (vB (!decide (a = b))) := encTT.neF (by decide) a b
@[simp] theorem eqV_lI0 (a : List Int) : eqV (lI a) (.list []) = some (vB (decide (a = []))) := encLI.eqF (by decide) a []
@[simp] theorem neV_lI0 (a : List Int) : neV (lI a) (.list []) = some (vB (!decide (a = []))) := encLI.neF (by decide) a []
@[simp] theorem eqV_lT0 (a : List (List Int)) : eqV (lT a) (.list []) = some (vB (decide (a = []))) := encLT.eqF (by decide) a []
@[simp] theorem neV_lT0 (a : List (List Int)) : neV (lT a) (.list []) = some (vB (!decide (a = []))) := encLT.neF (by decide) a []
@[simp] theorem eqV_tI0 (a : List Int) : eqV (tI a) (.tuple []) = some (vB (decide (a = []))) := encTI.eqF (by decide) a []
@[simp] theorem neV_tI0 (a : List Int) : neV (tI a) (.tuple []) = some (vB (!decide (a = []))) := encTI.neF (by decide) a []
@[simp] theorem eqV_tT0 (a : List (List Int)) : eqV (tT a) (.tuple []) = some (vB (decide (a = []))) := encTT.eqF (by decide) a []
@[simp] theorem neV_tT0 (a : List (List Int)) : neV (tT a) (.tuple []) = some (vB (!decide (a = []))) := encTT.neF (by decide) a []
@[simp] theorem inV_tI (neg : Bool) (a : Int) (l : List Int) : inV neg (.int a) (tI l) = some (vB (if neg then !decide (a ∈ l) else decide (a ∈ l))) := encI.inT (by decide) neg a l
@[simp] theorem inV_lI (neg : Bool) (a : Int) (l : List Int) : inV neg (.int a) (lI l) = some (vB (if neg then !decide (a ∈ l) else decide (a ∈ l))) := encI.inL (by decide) neg a l
@[simp] theorem inV_tT (neg : Bool) (a : List Int) (l : List (List Int)) : inV neg (tI a) (tT l) = some (vB (if neg then !decide (a ∈ l) else decide (a ∈ l))) := (encTI.inT (by decide) neg a l).trans (by congr)
@[simp] theorem inV_lT (neg : Bool) (a : List Int) (l : List (List Int)) : inV neg (tI a) (lT l) = some (vB (if neg then !decide (a ∈ l) else decide (a ∈ l))) := (encTI.inL (by decide) neg a l).trans (by congr)
@[simp] theorem lenV_tI (a : List Int) : lenV (tI a) = some (vI a.length) := by simp [lenV, tI]
@[simp] theorem lenV_lI (a : List Int) : lenV (lI a) = some (vI a.length) := by simp [lenV, lI]
@[simp] theorem lenV_tT (a : List (List Int)) : lenV (tT a) = some (vI a.length) := by simp [lenV, tT]
@[simp] theorem lenV_lT (a : List (List Int)) : lenV (lT a) = some (vI a.length) := by simp [lenV, lT]
@[simp] theorem lenV_l (a : List PyData) : lenV (.list a) = some (vI a.length) := rfl
@[simp] theorem lenV_t (a : List PyData) : lenV (.tuple a) = some (vI a.length) := rfl
@[simp] theorem tupleV_lI (a : List Int) : tupleV (lI a) = some (.w (.d (tI a))) := rfl
@[simp] theorem tupleV_lT (a : List (List Int)) : tupleV (lT a) = some (.w (.d (tT a))) := rfl
@[simp] theorem tupleV_tI (a : List Int) : tupleV (tI a) = some (.w (.d (tI a))) := rfl
@[simp] theorem tupleV_tT (a : List (List Int)) : tupleV (tT a) = some (.w (.d (tT a))) := rfl
@[simp] theorem tupleV_l (a : List PyData) : tupleV (.list a) = some (.w (.d (.tuple a))) := rfl
@[simp] theorem listV_lI (a : List Int) : listV (lI a) = some (.own (lI a)) := rfl
@[simp] theorem listV_lT (a : List (List Int)) : listV (lT a) = some (.own (lT a)) := rfl
@[simp] theorem listV_tI (a : List Int) : listV (tI a) = some (.own (lI a)) := rfl
@[simp] theorem listV_tT (a : List (List Int)) : listV (tT a) = some (.own (lT a)) := rfl
theorem ints_lI (a : List Int) : intsD (a.map .int) = some a := by have := intsD_fun id a; simpa using this
@[simp] theorem ltV_tI (a b : List Int) : ltV (tI a) (tI b) = some (vB (decide (a < b))) := by simp [ltV, tI, ints_lI, lexLt_eq]
theorem addV_tI {a b : List Int} (h : a.length + b.length ≤ sizeLine) : addV (tI a) (tI b) = some (.w (.d (tI (a ++ b)))) := by simp [addV, tI, h]
theorem addV_tI1 {a : List Int} {x : Int} (h : a.length < sizeLine) : addV (tI a) (.tuple [.int x]) = some (.w (.d (tI (a ++ [x])))) := addV_tI (b := [x]) h
theorem addV_tT {a b : List (List Int)} (h : a.length + b.length ≤ sizeLine) : addV (tT a) (tT b) = some (.w (.d (tT (a ++ b)))) := by simp [addV, tT, h]
theorem addV_lI {a b : List Int} (h : a.length + b.length ≤ sizeLine) : addV (lI a) (lI b) = some (.own (lI (a ++ b))) := by simp [addV, lI, h]
theorem addV_lT {a b : List (List Int)} (h : a.length + b.length ≤ sizeLine) : addV (lT a) (lT b) = some (.own (lT (a ++ b))) := by simp [addV, lT, h]
theorem sortV_lI {a : List Int} (h : a.length ≤ sizeLine) : sortV (lI a) = some (.own (lI (sortI a))) := by
  simp only [sortV, lI, sortF, sortOk_ints h, if_true, sortD_ints]
theorem sortV_tI {a : List Int} (h : a.length ≤ sizeLine) : sortV (tI a) = some (.own (lI (sortI a))) := by
  simp only [sortV, lI, tI, sortF, sortOk_ints h, if_true, sortD_ints]
theorem sortOkT {l : List (List Int)} (hl : l.length ≤ sizeLine) : sortOk (l.map tI) = true := by
  unfold sortOk
  simp only [Bool.and_eq_true, Bool.or_eq_true, List.all_eq_true, decide_eq_true_eq, List.length_map, List.mem_map]
  refine ⟨⟨⟨⟨?_, ?_⟩, hl⟩, canLay_tups l⟩, .inl (.inr ?_)⟩
  · rintro _ ⟨a, _, rfl⟩ _ ⟨b, _, rfl⟩
    unfold tI
    rw [PySem.W.alike]
    exact alike_ints a b
  · rintro _ ⟨a, _, rfl⟩
    have := depthAll_ints a
    unfold tI
    simp only [PyData.depth]
    omega
  · rintro _ ⟨a, ha, rfl⟩
    rfl
theorem sortV_lT {a : List (List Int)} (h : a.length ≤ sizeLine) : sortV (lT a) = some (.own (lT (sortT a))) := by
  simp only [sortV, lT, sortF, sortOkT h, if_true, sortD_tups]
theorem sortV_tT {a : List (List Int)} (h : a.length ≤ sizeLine) : sortV (tT a) = some (.own (lT (sortT a))) := by
  simp only [sortV, lT, tT, sortF, sortOkT h, if_true, sortD_tups]
@[simp] theorem allV_lB (bs : List Bool) : allV (lB bs) = some (vB (bs.all id)) := by
  simp only [allV, lB, allF]
  rw [show boolsD (bs.map PyData.bool) = some bs by have := boolsD_fun id bs; simpa using this]
  rfl
@[simp] theorem anyV_lB (bs : List Bool) : anyV (lB bs) = some (vB (bs.any id)) := by
  simp only [anyV, lB, anyF]
  rw [show boolsD (bs.map PyData.bool) = some bs by have := boolsD_fun id bs; simpa using this]
  rfl
@[simp] theorem sumV_lI (ns : List Int) : sumV (lI ns) = some (vI ns.sum) := by
  simp only [sumV, sumXF, lI, sumF, ints_lI, Option.map_some, Option.some_or]
@[simp] theorem sumV_tI (ns : List Int) : sumV (tI ns) = some (vI ns.sum) := by
  simp only [sumV, sumXF, tI, sumF, sumTF, ints_lI, Option.map_some, Option.none_or]
theorem at_tT {fs : List (List Int)} {i : Int} (h0 : 0 ≤ i) (h1 : i < fs.length) : ∃ f ∈ fs, fs[i.toNat]? = some f ∧ atI (fs.map tI) i = some (tI f) := by
  have hl : i.toNat < fs.length := by omega
  refine ⟨fs[i.toNat], List.getElem_mem hl, List.getElem?_eq_getElem hl, atI_ok h0 ?_⟩
  rw [List.getElem?_map, List.getElem?_eq_getElem hl]; rfl
theorem at_tI {fs : List Int} {i : Int} (h0 : 0 ≤ i) (h1 : i < fs.length) : ∃ f ∈ fs, fs[i.toNat]? = some f ∧ atI (fs.map PyData.int) i = some (.int f) := by
  have hl : i.toNat < fs.length := by omega
  refine ⟨fs[i.toNat], List.getElem_mem hl, List.getElem?_eq_getElem hl, atI_ok h0 ?_⟩
  rw [List.getElem?_map, List.getElem?_eq_getElem hl]; rfl
section
variable {A : Type} (enc : A → PyData) (l : List A) {it : VE → Rs VItems} {vs : List Nat} {tg : PyData → VE → Option VE} {tt : VDT} {elt : VD} {e e1 : VE} {o : Option (Nat × List PyData)}
theorem vlc_mapB (g : A → Bool) (hi : it e = .ok (l.map enc, o) e1) (hl : l.length ≤ sizeLine) (hc : vchk (l.map enc, o) (wipeV e1 vs) = true) (h : ∀ a ∈ l, ∃ e2, tg (enc a) (wipeV e1 vs) = some e2 ∧ wipeV e2 vs = wipeV e1 vs ∧ elt e2 = .ok (.d (.bool (g a))) e2) :
    vdLc it vs tg vtTrue elt e = .ok (.o (lB (l.map g))) (backV e1 vs (wipeV e1 vs)) := vlc_map enc l g PyData.bool hi hl hc h
theorem vlc_mapI (g : A → Int) (hi : it e = .ok (l.map enc, o) e1) (hl : l.length ≤ sizeLine) (hc : vchk (l.map enc, o) (wipeV e1 vs) = true) (h : ∀ a ∈ l, ∃ e2, tg (enc a) (wipeV e1 vs) = some e2 ∧ wipeV e2 vs = wipeV e1 vs ∧ elt e2 = .ok (.d (.int (g a))) e2) :
    vdLc it vs tg vtTrue elt e = .ok (.o (lI (l.map g))) (backV e1 vs (wipeV e1 vs)) := vlc_map enc l g PyData.int hi hl hc h
theorem vlc_evalT (p : A → Bool) (g : A → List Int) (hi : it e = .ok (l.map enc, o) e1) (hl : l.length ≤ sizeLine) (hc : vchk (l.map enc, o) (wipeV e1 vs) = true) (h : ∀ a ∈ l, ∃ e2, tg (enc a) (wipeV e1 vs) = some e2 ∧ wipeV e2 vs = wipeV e1 vs ∧ tt e2 = .ok (p a) e2 ∧ (p a = true → elt e2 = .ok (.d (tI (g a))) e2)) :
    vdLc it vs tg tt elt e = .ok (.o (lT ((l.filter p).map g))) (backV e1 vs (wipeV e1 vs)) := vlc_eval enc l p g tI hi hl hc fun a ha => let ⟨e2, h1, h2, h3, h4⟩ := h a ha; ⟨e2, h1, h2, h3, fun q => ⟨_, h4 q, rfl⟩⟩
end
theorem vlc_filterI (l : List Int) (p : Int → Bool) {it : VE → Rs VItems} {vs : List Nat} {tg : PyData → VE → Option VE} {tt : VDT} {elt : VD} {e e1 : VE} {o : Option (Nat × List PyData)}
    (hi : it e = .ok (l.map PyData.int, o) e1) (hl : l.length ≤ sizeLine) (hc : vchk (l.map PyData.int, o) (wipeV e1 vs) = true) (h : ∀ a ∈ l, ∃ e2, tg (.int a) (wipeV e1 vs) = some e2 ∧ wipeV e2 vs = wipeV e1 vs ∧ tt e2 = .ok (p a) e2 ∧ elt e2 = .ok (.d (.int a)) e2) :
    vdLc it vs tg tt elt e = .ok (.o (lI (l.filter p))) (backV e1 vs (wipeV e1 vs)) := vlc_filter PyData.int l p hi hl hc h
theorem vlc_filterT (l : List (List Int)) (p : List Int → Bool) {it : VE → Rs VItems} {vs : List Nat} {tg : PyData → VE → Option VE} {tt : VDT} {elt : VD} {e e1 : VE} {o : Option (Nat × List PyData)}
    (hi : it e = .ok (l.map tI, o) e1) (hl : l.length ≤ sizeLine) (hc : vchk (l.map tI, o) (wipeV e1 vs) = true) (h : ∀ a ∈ l, ∃ e2, tg (tI a) (wipeV e1 vs) = some e2 ∧ wipeV e2 vs = wipeV e1 vs ∧ tt e2 = .ok (p a) e2 ∧ elt e2 = .ok (.d (tI a)) e2) :
    vdLc it vs tg tt elt e = .ok (.o (lT (l.filter p))) (backV e1 vs (wipeV e1 vs)) := vlc_filter tI l p hi hl hc h
end Lf
set_option Elab.async false
set_option linter.all false
set_option maxRecDepth 100000
set_option maxHeartbeats 1000000
namespace Pu
open Lf L2
end Pu
set_option Elab.async false
set_option linter.all false
set_option maxRecDepth 100000
set_option maxHeartbeats 1000000
namespace Lf
open PySem PySem.Spec PyProof.Rows L2 Pu
@[simp] theorem isV_i (a : Int) (Ts : List String) : isV Ts (.int a) = Ts.any (fun T => T == "int") := by
  unfold isV; congr 1; funext T; simp only [isD, tyD, tI, tT, lI, lT, stkD]; rw [show ("int" == T) = (T == "int") from Bool.beq_comm ..]; simp
@[simp] theorem isV_s (a : Str) (Ts : List String) : isV Ts (.str a) = Ts.any (fun T => T == "str") := by
  unfold isV; congr 1; funext T; simp only [isD, tyD, tI, tT, lI, lT, stkD]; rw [show ("str" == T) = (T == "str") from Bool.beq_comm ..]; simp
@[simp] theorem isV_l (a : List PyData) (Ts : List String) : isV Ts (.list a) = Ts.any (fun T => T == "list") := by
  unfold isV; congr 1; funext T; simp only [isD, tyD, tI, tT, lI, lT, stkD]; rw [show ("list" == T) = (T == "list") from Bool.beq_comm ..]; simp
@[simp] theorem isV_t (a : List PyData) (Ts : List String) : isV Ts (.tuple a) = Ts.any (fun T => T == "tuple") := by
  unfold isV; congr 1; funext T; simp only [isD, tyD, tI, tT, lI, lT, stkD]; rw [show ("tuple" == T) = (T == "tuple") from Bool.beq_comm ..]; simp
@[simp] theorem isV_k (a : List (PyData × PyData)) (Ts : List String) : isV Ts (.dict a) = Ts.any (fun T => T == "dict") := by
  unfold isV; congr 1; funext T; simp only [isD, tyD, tI, tT, lI, lT, stkD]; rw [show ("dict" == T) = (T == "dict") from Bool.beq_comm ..]; simp
@[simp] theorem isV_tI (a : List Int) (Ts : List String) : isV Ts (tI a) = Ts.any (fun T => T == "tuple") := by
  unfold isV; congr 1; funext T; simp only [isD, tyD, tI, tT, lI, lT, stkD]; rw [show ("tuple" == T) = (T == "tuple") from Bool.beq_comm ..]; simp
@[simp] theorem isV_tT (a : List (List Int)) (Ts : List String) : isV Ts (tT a) = Ts.any (fun T => T == "tuple") := by
  unfold isV; congr 1; funext T; simp only [isD, tyD, tI, tT, lI, lT, stkD]; rw [show ("tuple" == T) = (T == "tuple") from Bool.beq_comm ..]; simp
@[simp] theorem isV_lI (a : List Int) (Ts : List String) : isV Ts (lI a) = Ts.any (fun T => T == "list") := by
  unfold isV; congr 1; funext T; simp only [isD, tyD, tI, tT, lI, lT, stkD]; rw [show ("list" == T) = (T == "list") from Bool.beq_comm ..]; simp
@[simp] theorem isV_lT (a : List (List Int)) (Ts : List String) : isV Ts (lT a) = Ts.any (fun T => T == "list") := by
  unfold isV; congr 1; funext T; simp only [isD, tyD, tI, tT, lI, lT, stkD]; rw [show ("list" == T) = (T == "list") from Bool.beq_comm ..]; simp
@[simp] theorem isV_stk (n k : Int) (a : List (List Int)) (Ts : List String) : isV Ts (stkD n k a) = Ts.any (fun T => T == "tuple") := by
  unfold isV; congr 1; funext T; simp only [isD, tyD, tI, tT, lI, lT, stkD]; rw [show ("tuple" == T) = (T == "tuple") from Bool.beq_comm ..]; simp
@[simp] theorem isV_n (Ts : List String) : isV Ts .none = Ts.any (fun T => T == "NoneType") := by
  unfold isV; congr 1; funext T; simp only [isD, tyD]; rw [show ("NoneType" == T) = (T == "NoneType") from Bool.beq_comm ..]; simp
@[simp] theorem isV_b (b : Bool) (Ts : List String) : isV Ts (.bool b) = Ts.any (fun T => T == "bool" || T == "int") := by
  unfold isV; congr 1; funext T; simp only [isD, tyD]; rw [show ("bool" == T) = (T == "bool") from Bool.beq_comm ..]; simp
theorem range_items {f : VD} {e e1 : VE} {n : Int} (h : f e = .ok (.d (.int n)) e1) (h1 : -1000000 ≤ n ∧ n ≤ 1000000) : viRange f e = .ok ((rgI n).map .int, none) e1 := by
  have : n.natAbs < 2 ^ 62 := by omega
  simp only [viRange, h, Rs.bind, vasI, if_pos this, rgD_rgI]
theorem cut_1 {A : Type} (xs : List A) : Lf.cutD xs (some 1) none = xs.drop 1 := by
  cases xs with
  | nil => rfl
  | cons x xs =>
    unfold Lf.cutD
    have e1 : HT.sIx (x :: xs).length 0 (some 1) = 1 := by simp [HT.sIx]
    have e2 : HT.sIx (x :: xs).length (x :: xs).length none = (x :: xs).length := rfl
    rw [e1, e2]
    apply List.take_of_length_le
    simp
def nexts {A : Type} (xs : List A) : List (A × A) := xs.zip (xs.drop 1)
theorem zip_pairs {A B : Type} (f : A → PyData) (g : B → PyData) : ∀ (a : List A) (b : List B), List.zipWith Lf.pairD (a.map f) (b.map g) = (a.zip b).map fun p => Lf.pairD (f p.1) (g p.2)
  | [], b => by simp
  | x :: a, [] => by simp
  | x :: a, y :: b => by simp [zip_pairs f g a b]
theorem nexts_all {A : Type} {R : A → A → Prop} : ∀ {l : List A}, l.Pairwise R → ∀ p ∈ nexts l, R p.1 p.2
  | [], _, p, hp => by simp [nexts] at hp
  | [x], _, p, hp => by simp [nexts] at hp
  | x :: y :: l, h, p, hp => by
    simp only [nexts, List.drop_succ_cons, List.drop_zero, List.zip_cons_cons, List.mem_cons] at hp
    rcases hp with rfl | hp
    · exact (List.pairwise_cons.mp h).1 y (by simp)
    · exact nexts_all (List.pairwise_cons.mp h).2 p (by simpa [nexts] using hp)
theorem nexts_len {A : Type} (l : List A) : (nexts l).length ≤ l.length := by
  unfold nexts
  rw [List.length_zip]
  omega
theorem nexts_items {A : Type} (enc : A → PyData) {e : VE} {j : Nat} {l : List A} (h : e[j]? = some (some (.d (.tuple (l.map enc))))) :
    viZip (vaCons (vdVar j) (vaCons (vdSl (vdVar j) (vpYes (vdC (.int 1))) vpNo) vaNil)) e = .ok ((nexts l).map (fun p => Lf.pairD (enc p.1) (enc p.2)), none) e := by
  simp only [viZip, vaCons, vdVar, h, Rs.bind, vdSl, vpYes, vdC, vasI, vpNo, vslR, VR.rdK, slV, cut_1, vofR, VR.of, vaNil, VR.fz, vzipR, vseqC]
  rw [← List.map_drop, zip_pairs]
  rfl
theorem powV_i {a b : Int} (h : 0 ≤ b ∧ b ≤ 1000000 ∧ a.natAbs < 2 ^ 64) : powV (.int a) (.int b) = some (vI (a ^ b.toNat)) := by
  unfold powV powF
  simp only [int2, if_pos h]
theorem lT_nil1 : PyData.list [.tuple []] = lT [[]] := rfl
@[simp] theorem ixV_l (ds : List PyData) (n : Int) : ixV (.list ds) (.int n) = atI ds n := rfl
@[simp] theorem ixV_t (ds : List PyData) (n : Int) : ixV (.tuple ds) (.int n) = atI ds n := rfl
@[simp] theorem stk_0 (n k : Int) (fs : List (List Int)) : ixV (stkD n k fs) (.int 0) = some (.int n) := by simp [stkD]
@[simp] theorem stk_1 (n k : Int) (fs : List (List Int)) : ixV (stkD n k fs) (.int 1) = some (.int k) := by simp [stkD]
@[simp] theorem stk_2 (n k : Int) (fs : List (List Int)) : ixV (stkD n k fs) (.int 2) = some (tT fs) := by simp [stkD, tT]
@[simp] theorem unpV_t (ds : List PyData) : unpV (.tuple ds) = some ds := rfl
@[simp] theorem unpV_pair (a b : PyData) : unpV (Lf.pairD a b) = some [a, b] := rfl
@[simp] theorem unpV_stk (n k : Int) (fs : List (List Int)) : unpV (stkD n k fs) = some [.int n, .int k, tT fs] := rfl
@[simp] theorem lenV_stk (n k : Int) (fs : List (List Int)) : lenV (stkD n k fs) = some (vI 3) := rfl
def nthT (fs : List (List Int)) (i : Int) : List Int := fs.getD i.toNat []
def nthI (fs : List Int) (i : Int) : Int := fs.getD i.toNat 0
theorem nthT_mem {fs : List (List Int)} {i : Int} (h : 0 ≤ i ∧ i < fs.length) : nthT fs i ∈ fs := by
  have hl : i.toNat < fs.length := by omega
  unfold nthT
  rw [List.getD_eq_getElem?_getD, List.getElem?_eq_getElem hl]
  exact List.getElem_mem hl
theorem nthI_mem {fs : List Int} {i : Int} (h : 0 ≤ i ∧ i < fs.length) : nthI fs i ∈ fs := by
  have hl : i.toNat < fs.length := by omega
  unfold nthI
  rw [List.getD_eq_getElem?_getD, List.getElem?_eq_getElem hl]
  exact List.getElem_mem hl
theorem ixV_tT {fs : List (List Int)} {i : Int} (h : 0 ≤ i ∧ i < fs.length) : ixV (tT fs) (.int i) = some (tI (nthT fs i)) := by
  obtain ⟨f, _, h2, h3⟩ := at_tT h.1 h.2
  simp only [tT, ixV_t, h3, nthT, List.getD_eq_getElem?_getD, h2, Option.getD_some]
theorem ixV_lT {fs : List (List Int)} {i : Int} (h : 0 ≤ i ∧ i < fs.length) : ixV (lT fs) (.int i) = some (tI (nthT fs i)) := by
  obtain ⟨f, _, h2, h3⟩ := at_tT h.1 h.2
  simp only [lT, ixV_l, h3, nthT, List.getD_eq_getElem?_getD, h2, Option.getD_some]
theorem ixV_tI {fs : List Int} {i : Int} (h : 0 ≤ i ∧ i < fs.length) : ixV (tI fs) (.int i) = some (.int (nthI fs i)) := by
  obtain ⟨f, _, h2, h3⟩ := at_tI h.1 h.2
  simp only [tI, ixV_t, h3, nthI, List.getD_eq_getElem?_getD, h2, Option.getD_some]
theorem ixV_lI {fs : List Int} {i : Int} (h : 0 ≤ i ∧ i < fs.length) : ixV (lI fs) (.int i) = some (.int (nthI fs i)) := by
  obtain ⟨f, _, h2, h3⟩ := at_tI h.1 h.2
  simp only [lI, ixV_l, h3, nthI, List.getD_eq_getElem?_getD, h2, Option.getD_some]
@[simp] theorem putV_l0 (v x : PyData) (r : List PyData) : putV (.int 0) v (.list (x :: r)) = some (.list (v :: r)) := by simp [putV]
@[simp] theorem beqD_self (d : PyData) : beqD d d = true := beqD_refl d
@[simp] theorem beqD_lI (a : List Int) : beqD (lI a) (.list (a.map .int)) = true := beqD_refl _
@[simp] theorem beqD_lT (a : List (List Int)) : beqD (lT a) (.list (a.map tI)) = true := beqD_refl _
@[simp] theorem isLst_l (a : List PyData) : isLst (.list a) = true := rfl
@[simp] theorem isLst_lI (a : List Int) : isLst (lI a) = true := rfl
@[simp] theorem isLst_lT (a : List (List Int)) : isLst (lT a) = true := rfl
theorem app_lI {acc : List Int} {x : Int} {e : VE} (h : acc.length < sizeLine) : vappF (lI acc) [.d (.int x)] e = some (.w (.d .none), lI (acc ++ [x])) := by
  simp only [vappF, lI, List.length_map, h, if_true, List.map_append, List.map_cons, List.map_nil]
theorem app_lT {acc : List (List Int)} {x : List Int} {e : VE} (h : acc.length < sizeLine) : vappF (lT acc) [.d (tI x)] e = some (.w (.d .none), lT (acc ++ [x])) := by
  simp only [vappF, lT, List.length_map, h, if_true, List.map_append, List.map_cons, List.map_nil]
theorem ext_lT {acc b : List (List Int)} {e : VE} (h : acc.length + b.length ≤ sizeLine) : vextF (lT acc) [.d (lT b)] e = some (.w (.d .none), lT (acc ++ b)) := by
  simp only [vextF, lT, VR.rd, List.length_map, h, if_true, List.map_append]
theorem ext_lI {acc b : List Int} {e : VE} (h : acc.length + b.length ≤ sizeLine) : vextF (lI acc) [.d (lI b)] e = some (.w (.d .none), lI (acc ++ b)) := by
  simp only [vextF, lI, VR.rd, List.length_map, h, if_true, List.map_append]
theorem rgI_at {n i : Int} {d r : List Int} (h : rgI n = d ++ i :: r) : i = d.length := by
  have h1 : (rgI n)[d.length]? = some i := by rw [h]; simp
  unfold rgI at h1
  rw [List.getElem?_map] at h1
  obtain ⟨a, ha, rfl⟩ := Option.map_eq_some_iff.mp h1
  obtain ⟨hl, e⟩ := List.getElem?_eq_some_iff.mp ha
  rw [List.getElem_range] at e
  rw [e]
end Lf
set_option Elab.async false
set_option linter.all false
set_option maxRecDepth 100000
set_option maxHeartbeats 1000000
namespace Lf
open PySem PySem.Spec PyProof.Rows L2 Pu
section
variable {K B : Type} [DecidableEq K]
def putA (k : K) (v : B) (kvs : List (K × B)) : List (K × B) := if k ∈ kvs.map Prod.fst then kvs.map (fun p => if p.1 = k then (p.1, v) else p) else kvs ++ [(k, v)]
def getA (k : K) : List (K × B) → Option B
  | [] => none
  | p :: r => if p.1 = k then some p.2 else getA k r
theorem putA_keys (k : K) (v : B) (kvs : List (K × B)) : (putA k v kvs).map Prod.fst = if k ∈ kvs.map Prod.fst then kvs.map Prod.fst else kvs.map Prod.fst ++ [k] := by
  unfold putA
  split
  · rw [List.map_map]
    refine List.map_congr_left fun p _ => ?_
    simp only [Function.comp]
    split <;> rfl
  · rw [List.map_append]; rfl
theorem putA_len (k : K) (v : B) (kvs : List (K × B)) : (putA k v kvs).length ≤ kvs.length + 1 := by
  unfold putA
  split <;> simp
theorem mem_putA {k x : K} {v : B} {kvs : List (K × B)} : x ∈ (putA k v kvs).map Prod.fst ↔ x ∈ kvs.map Prod.fst ∨ x = k := by
  rw [putA_keys]
  split
  · rename_i hk
    exact ⟨.inl, fun h => h.elim id fun e => e ▸ hk⟩
  · simp
theorem getA_isSome {k : K} : ∀ {kvs : List (K × B)}, (getA k kvs).isSome = decide (k ∈ kvs.map Prod.fst)
  | [] => by simp [getA]
  | p :: r => by
    unfold getA
    rw [List.map_cons]
    by_cases h : p.1 = k
    · rw [if_pos h]; simp [h]
    · rw [if_neg h, getA_isSome]
      have : ¬ k = p.1 := fun e => h e.symm
      simp only [List.mem_cons, this, false_or]
def encD (ek : K → PyData) (ev : B → PyData) (kvs : List (K × B)) : PyData := .dict (kvs.map fun p => (ek p.1, ev p.2))
structure EncK (ek : K → PyData) : Prop where
  inj : ∀ a b, ek a = ek b → a = b
  ok : ∀ {B : Type} (ev : B → PyData) (k : K) (kvs : List (K × B)), keyOk (ek k) (kvs.map fun p => (ek p.1, ev p.2)) = true
variable {ek : K → PyData} {ev : B → PyData}
theorem EncK.beq (E : EncK ek) (a b : K) : beqD (ek a) (ek b) = decide (a = b) := by
  by_cases h : a = b
  · rw [decide_eq_true h]; exact beqD_iff.mpr (by rw [h])
  · rw [decide_eq_false h, Bool.eq_false_iff]; exact fun z => h (E.inj _ _ (beqD_iff.mp z))
theorem EncK.putD (E : EncK ek) (k : K) (v : B) (kvs : List (K × B)) : Lf.putD (ek k) (ev v) (kvs.map fun p => (ek p.1, ev p.2)) = (putA k v kvs).map fun p => (ek p.1, ev p.2) := by
  unfold Lf.putD putA
  have e1 : ((kvs.map fun p => (ek p.1, ev p.2)).any fun p => beqD p.1 (ek k)) = decide (k ∈ kvs.map Prod.fst) := by
    rw [List.any_map, Bool.eq_iff_iff]
    simp only [List.any_eq_true, Function.comp, E.beq, decide_eq_true_eq, List.mem_map]
  rw [e1]
  by_cases h : k ∈ kvs.map Prod.fst
  · rw [if_pos (decide_eq_true h), if_pos h, List.map_map, List.map_map]
    refine List.map_congr_left fun x _ => ?_
    simp only [Function.comp, E.beq]
    by_cases hx : x.1 = k <;> simp [hx]
  · rw [if_neg (by simpa using h), if_neg h, List.map_append]
    rfl
theorem EncK.put (E : EncK ek) (k : K) (v : B) (kvs : List (K × B)) (h : kvs.length < sizeLine) : putV (ek k) (ev v) (encD ek ev kvs) = some (encD ek ev (putA k v kvs)) := by
  unfold putV encD
  simp only []
  rw [if_pos ⟨E.ok ev k kvs, by rw [List.length_map]; exact h⟩, E.putD]
theorem EncK.getD (E : EncK ek) (k : K) : ∀ (kvs : List (K × B)), Lf.getD (ek k) (kvs.map fun p => (ek p.1, ev p.2)) = (getA k kvs).map ev
  | [] => rfl
  | p :: r => by
    rw [List.map_cons]
    unfold Lf.getD getA
    rw [E.beq]
    by_cases h : p.1 = k <;> simp [h, E.getD k r]
theorem EncK.inD (E : EncK ek) (neg : Bool) (k : K) (kvs : List (K × B)) : inV neg (ek k) (encD ek ev kvs) = some (vB (if neg then !decide (k ∈ kvs.map Prod.fst) else decide (k ∈ kvs.map Prod.fst))) := by
  have : inF neg (ek k) (encD ek ev kvs) = none := rfl
  unfold inV inXF
  rw [this, Option.none_or]
  unfold inDF encD
  simp only [E.ok ev k kvs, if_true, E.getD, Option.isSome_map, getA_isSome]
end
theorem tupKeys_enc {B : Type} (ev : B → PyData) : ∀ kvs : List (List Int × B), tupKeys (kvs.map fun p => (tI p.1, ev p.2)) = true
  | [] => rfl
  | p :: r => by
    rw [List.map_cons]
    unfold tI
    simp only [tupKeys]
    exact tupKeys_enc ev r
theorem flatKeys_enc {B : Type} (ev : B → PyData) : ∀ kvs : List (Int × B), flatKeys (kvs.map fun p => (PyData.int p.1, ev p.2)) = true
  | [] => rfl
  | p :: r => by
    rw [List.map_cons]
    simp only [flatKeys]
    exact flatKeys_enc ev r
theorem keyI : EncK PyData.int := ⟨fun a b h => by injection h, fun ev k kvs => by
  show ((key1 (.int k)).isSome && flatKeys _) = true
  rw [flatKeys_enc]; rfl⟩
def dTI (kvs : List (List Int × Int)) : PyData := encD tI PyData.int kvs
def dTB (kvs : List (List Int × Bool)) : PyData := encD tI PyData.bool kvs
def dII (kvs : List (Int × Int)) : PyData := encD PyData.int PyData.int kvs
@[simp] theorem unlO_dTI (l : List (List Int × Int)) : unlO (some (dTI l)) = some (dTI l) := rfl
@[simp] theorem unlO_dTB (l : List (List Int × Bool)) : unlO (some (dTB l)) = some (dTB l) := rfl
@[simp] theorem unlO_dII (l : List (Int × Int)) : unlO (some (dII l)) = some (dII l) := rfl
@[simp] theorem isLk_dTI (l : List (List Int × Int)) : isLk (dTI l) = false := rfl
@[simp] theorem isLk_dTB (l : List (List Int × Bool)) : isLk (dTB l) = false := rfl
@[simp] theorem isLk_dII (l : List (Int × Int)) : isLk (dII l) = false := rfl
@[simp] theorem in_dII (neg : Bool) (k : Int) (kvs : List (Int × Int)) : inV neg (.int k) (dII kvs) = some (vB (if neg then !decide (k ∈ kvs.map Prod.fst) else decide (k ∈ kvs.map Prod.fst))) := keyI.inD (ev := PyData.int) neg k kvs
@[simp] theorem len_dTB (kvs : List (List Int × Bool)) : lenV (dTB kvs) = some (vI kvs.length) := by simp [lenV, dTB, encD]
@[simp] theorem len_dTI (kvs : List (List Int × Int)) : lenV (dTI kvs) = some (vI kvs.length) := by simp [lenV, dTI, encD]
@[simp] theorem len_dII (kvs : List (Int × Int)) : lenV (dII kvs) = some (vI kvs.length) := by simp [lenV, dII, encD]
end Lf
set_option Elab.async false
set_option linter.all false
set_option maxRecDepth 100000
set_option maxHeartbeats 2000000
namespace Lf
open PySem PySem.Spec PyProof.Rows L2 Pu
theorem cut_to {A : Type} (xs : List A) {v : Int} (h : 0 ≤ v) : Lf.cutD xs none (some v) = xs.take v.toNat := by
  unfold Lf.cutD
  have e1 : HT.sIx xs.length 0 none = 0 := rfl
  have e2 : HT.sIx xs.length xs.length (some v) = min v.toNat xs.length := by
    simp only [HT.sIx]
    split <;> omega
  rw [e1, e2, List.drop_zero, Nat.sub_zero, List.take_eq_take_min.symm]
theorem cut_from {A : Type} (xs : List A) {v : Int} (h : 0 ≤ v) : Lf.cutD xs (some v) none = xs.drop v.toNat := by
  unfold Lf.cutD
  have e1 : HT.sIx xs.length xs.length none = xs.length := rfl
  have e2 : HT.sIx xs.length 0 (some v) = min v.toNat xs.length := by
    simp only [HT.sIx]
    split <;> omega
  rw [e1, e2]
  rw [List.take_of_length_le (by rw [List.length_drop]; omega)]
  by_cases q : v.toNat ≤ xs.length
  · rw [Nat.min_eq_left q]
  · rw [Nat.min_eq_right (by omega), List.drop_of_length_le (Nat.le_refl _), List.drop_of_length_le (by omega)]
theorem sl_toT (ds : List PyData) {v : Int} (h : 0 ≤ v) : slV none (some v) (.tuple ds) = some (.w (.d (.tuple (ds.take v.toNat)))) := by simp only [slV, cut_to ds h]
theorem sl_fromT (ds : List PyData) {v : Int} (h : 0 ≤ v) : slV (some v) none (.tuple ds) = some (.w (.d (.tuple (ds.drop v.toNat)))) := by simp only [slV, cut_from ds h]
theorem sl_toL (ds : List PyData) {v : Int} (h : 0 ≤ v) : slV none (some v) (.list ds) = some (.own (.list (ds.take v.toNat))) := by simp only [slV, cut_to ds h]
theorem sl_to_tI (l : List Int) {v : Int} (h : 0 ≤ v) : slV none (some v) (tI l) = some (.w (.d (tI (l.take v.toNat)))) := by simp only [tI, sl_toT _ h, List.map_take]
theorem sl_from_tI (l : List Int) {v : Int} (h : 0 ≤ v) : slV (some v) none (tI l) = some (.w (.d (tI (l.drop v.toNat)))) := by simp only [tI, sl_fromT _ h, List.map_drop]
theorem sl_to_tT (l : List (List Int)) {v : Int} (h : 0 ≤ v) : slV none (some v) (tT l) = some (.w (.d (tT (l.take v.toNat)))) := by simp only [tT, sl_toT _ h, List.map_take]
theorem sl_from_tT (l : List (List Int)) {v : Int} (h : 0 ≤ v) : slV (some v) none (tT l) = some (.w (.d (tT (l.drop v.toNat)))) := by simp only [tT, sl_fromT _ h, List.map_drop]
theorem sl_to_lT (l : List (List Int)) {v : Int} (h : 0 ≤ v) : slV none (some v) (lT l) = some (.own (lT (l.take v.toNat))) := by simp only [lT, sl_toL _ h, List.map_take]
theorem addV_T {a b : List PyData} (h : a.length + b.length ≤ sizeLine) : addV (.tuple a) (.tuple b) = some (.w (.d (.tuple (a ++ b)))) := by simp [addV, h]
theorem addV_L {a b : List PyData} (h : a.length + b.length ≤ sizeLine) : addV (.list a) (.list b) = some (.own (.list (a ++ b))) := by simp [addV, h]
theorem shaped_str {a : Str} (h : PyData.strOk a = true) : SeqAt.shaped (.str a) = true := by
  simp [SeqAt.shaped, PyData.canLay0, h, PyData.depth]
theorem beq_dec (a b : Str) : (a == b) = decide (a = b) := by by_cases h : a = b <;> simp [h]
theorem eqV_s {a b : Str} (ha : PyData.strOk a = true) (hb : PyData.strOk b = true) : eqV (.str a) (.str b) = some (vB (decide (a = b))) := by
  simp only [eqV, eqF, shaped_str ha, shaped_str hb, and_self, if_true]
  rw [show PyData.eqv (.str a) (.str b) = decide (a = b) by simp only [PyData.eqv]; exact beq_dec a b]
theorem neV_s {a b : Str} (ha : PyData.strOk a = true) (hb : PyData.strOk b = true) : neV (.str a) (.str b) = some (vB (!decide (a = b))) := by
  simp only [neV, neF, shaped_str ha, shaped_str hb, and_self, if_true]
  rw [show PyData.eqv (.str a) (.str b) = decide (a = b) by simp only [PyData.eqv]; exact beq_dec a b]
mutual
def small : PyData → Bool
  | .none => true
  | .bool _ => true
  | .int i => decide (i.natAbs.log2 < 100)
  | .str x => PyData.strOk x && (PyData.strOk (reprText x) && decide (x.cps.size ≤ 100))
  | .dict kvs => kvs.isEmpty
  | .list xs => smallAll xs
  | .tuple xs => smallAll xs
def smallAll : List PyData → Bool
  | [] => true
  | x :: xs => small x && smallAll xs
end
mutual
def cnt : PyData → Nat
  | .list xs => 1 + cntAll xs
  | .tuple xs => 1 + cntAll xs
  | _ => 1
def cntAll : List PyData → Nat
  | [] => 0
  | x :: xs => cnt x + cntAll xs
end
theorem strOk_iff {x : Str} : PyData.strOk x = true ↔ ∀ c ∈ x.cps.toList, c < 0x110000 := by
  unfold PyData.strOk
  rw [Array.all_eq_true']
  simp
theorem small_int {i : Int} (h : i.natAbs < 4096) : small (.int i) = true := by
  simp only [small, decide_eq_true_eq]
  by_cases h0 : i.natAbs = 0
  · rw [h0]; decide
  · have := (Nat.log2_lt (k := 12) h0).mpr (by omega)
    omega
mutual
theorem small_ed : ∀ {d : PyData}, small d = true → edB d = true
  | .none, _ => rfl
  | .bool _, _ => rfl
  | .int _, _ => rfl
  | .str _, _ => rfl
  | .dict kvs, h => by simpa only [edB, small] using h
  | .list xs, h => by simp only [edB]; exact smallAll_ed h
  | .tuple xs, h => by simp only [edB]; exact smallAll_ed h
theorem smallAll_ed : ∀ {ds : List PyData}, smallAll ds = true → edAll ds = true
  | [], _ => rfl
  | x :: xs, h => by
    simp only [smallAll, Bool.and_eq_true] at h
    simp only [edAll, Bool.and_eq_true]
    exact ⟨small_ed h.1, smallAll_ed h.2⟩
end
theorem dict_nil {kvs : List (PyData × PyData)} (h : small (.dict kvs) = true) : kvs = [] := by
  simp only [small, List.isEmpty_iff] at h
  exact h
mutual
theorem small_show : ∀ {d : PyData}, small d = true → d.showable = true
  | .none, _ => rfl
  | .bool _, _ => rfl
  | .int i, h => by
    simp only [small, decide_eq_true_eq] at h
    simp only [PyData.showable, decide_eq_true_eq]
    omega
  | .str _, h => by simp only [PyData.showable]
  | .dict kvs, h => by obtain rfl := dict_nil h; simp only [PyData.showable, PyData.showableKv]
  | .list xs, h => by simp only [PyData.showable]; exact smallAll_show h
  | .tuple xs, h => by simp only [PyData.showable]; exact smallAll_show h
theorem smallAll_show : ∀ {ds : List PyData}, smallAll ds = true → PyData.showableAll ds = true
  | [], _ => rfl
  | x :: xs, h => by
    simp only [smallAll, Bool.and_eq_true] at h
    simp only [PyData.showableAll, Bool.and_eq_true]
    exact ⟨small_show h.1, smallAll_show h.2⟩
end
mutual
theorem small_short : ∀ {d : PyData}, small d = true → d.leavesShort 40 = true
  | .none, _ => rfl
  | .bool _, _ => rfl
  | .int i, h => by
    simp only [small, decide_eq_true_eq] at h
    unfold PyData.leavesShort
    rw [decide_eq_true_eq]
    show (Str.ofString (toString i)).length ≤ 40
    rw [PySem.ofString_length]
    have h2 : i.natAbs < 10 ^ 31 := by
      by_cases h0 : i.natAbs = 0
      · rw [h0]; decide
      · exact Nat.lt_trans ((Nat.log2_lt h0).mp h) (by decide)
    exact Nat.le_trans (int_text_length_le10 (k := 31) (by decide) h2) (by decide)
  | .str x, h => by
    simp only [small, Bool.and_eq_true] at h
    unfold PyData.leavesShort
    rw [List.all_eq_true]
    intro c hc
    exact decide_eq_true (Nat.lt_trans (strOk_iff.mp h.1 c hc) (by decide))
  | .dict kvs, h => by obtain rfl := dict_nil h; simp only [PyData.leavesShort, PyData.leavesShortKv]
  | .list xs, h => by simp only [PyData.leavesShort]; exact smallAll_short h
  | .tuple xs, h => by simp only [PyData.leavesShort]; exact smallAll_short h
theorem smallAll_short : ∀ {ds : List PyData}, smallAll ds = true → PyData.leavesShortAll 40 ds = true
  | [], _ => rfl
  | x :: xs, h => by
    simp only [smallAll, Bool.and_eq_true] at h
    simp only [PyData.leavesShortAll, Bool.and_eq_true]
    exact ⟨small_short h.1, smallAll_short h.2⟩
end
mutual
theorem small_weight : ∀ {d : PyData}, small d = true → d.weight ≤ 101 * cnt d - 1
  | .none, _ => by simp [PyData.weight, cnt]
  | .bool _, _ => by simp [PyData.weight, cnt]
  | .int i, h => by
    simp only [small, decide_eq_true_eq] at h
    simp only [PyData.weight, cnt]
    split <;> omega
  | .str _, h => by
    simp only [small, Bool.and_eq_true, decide_eq_true_eq] at h
    simp only [PyData.weight, cnt]
    omega
  | .dict kvs, h => by obtain rfl := dict_nil h; simp [PyData.weight, PyData.weightKv, cnt]
  | .list xs, h => by
    have := smallAll_weight (ds := xs) h
    simp only [PyData.weight, cnt]
    omega
  | .tuple xs, h => by
    have := smallAll_weight (ds := xs) h
    simp only [PyData.weight, cnt]
    omega
theorem smallAll_weight : ∀ {ds : List PyData}, smallAll ds = true → PyData.weightAll ds ≤ 101 * cntAll ds
  | [], _ => by simp [PyData.weightAll]
  | x :: xs, h => by
    simp only [smallAll, Bool.and_eq_true] at h
    have h1 := small_weight h.1
    have h2 := smallAll_weight h.2
    have h3 : 1 ≤ cnt x := by cases x <;> simp only [cnt] <;> omega
    simp only [PyData.weightAll, cntAll]
    omega
end
theorem strOk_app {a b : Str} (ha : PyData.strOk a = true) (hb : PyData.strOk b = true) : PyData.strOk (a ++ b) = true := by
  rw [strOk_iff] at *
  intro c hc
  rcases mem_cps_append.mp hc with h | h
  · exact ha c h
  · exact hb c h
theorem strOk_of (s : String) : PyData.strOk (Str.ofString s) = true := by
  rw [strOk_iff, signs_ofString]
  intro c hc
  obtain ⟨k, _, rfl⟩ := List.mem_map.mp hc
  have := k.valid
  unfold Char.toNat
  rcases this with h | h
  · exact Nat.lt_trans h (by decide)
  · exact h.2
theorem strOk_text : ∀ (ts : List Str) (k : Nat) (acc : Str), PyData.strOk acc = true → (∀ t ∈ ts, PyData.strOk t = true) → PyData.strOk (textFrom k acc ts) = true
  | [], _, _, h, _ => h
  | t :: ts, k, acc, h, hs => strOk_text ts _ _ (strOk_app (strOk_app h (strOk_of _)) (hs t List.mem_cons_self)) fun u hu => hs u (List.mem_cons_of_mem _ hu)
theorem strOk_join : ∀ (ts : List Str), (∀ t ∈ ts, PyData.strOk t = true) → PyData.strOk (Str.join ", " ts) = true
  | [], _ => by rw [join_nil, strOk_iff]; intro c hc; simp [Str.empty] at hc
  | [x], h => h x List.mem_cons_self
  | x :: y :: r, h => strOk_app (strOk_app (h x List.mem_cons_self) (strOk_of ", ")) (strOk_join (y :: r) fun t ht => h t (List.mem_cons_of_mem _ ht))
mutual
theorem small_strOk : ∀ {d : PyData}, small d = true → PyData.strOk d.shown = true
  | .none, _ => by simp only [PyData.shown]; exact strOk_of _
  | .bool b, _ => by simp only [PyData.shown]; cases b <;> exact strOk_of _
  | .int _, _ => by simp only [PyData.shown]; exact strOk_of _
  | .str x, h => by
    simp only [small, Bool.and_eq_true] at h
    simp only [PyData.shown]
    exact h.2.1
  | .dict kvs, h => by obtain rfl := dict_nil h; simp only [PyData.shown, PyData.shownKv]; decide +kernel
  | .list xs, h => by simp only [PyData.shown, listText]; exact strOk_app (strOk_text _ _ _ (strOk_of _) (smallAll_strOk h)) (strOk_of _)
  | .tuple xs, h => by simp only [PyData.shown, tupleText]; exact strOk_app (strOk_app (strOk_of _) (strOk_join _ (smallAll_strOk h))) (strOk_of _)
theorem smallAll_strOk : ∀ {ds : List PyData}, smallAll ds = true → ∀ t ∈ PyData.shownAll ds, PyData.strOk t = true
  | [], _ => by simp [PyData.shownAll]
  | x :: xs, h => by
    simp only [smallAll, Bool.and_eq_true] at h
    intro t ht
    simp only [PyData.shownAll, List.mem_cons] at ht
    rcases ht with rfl | ht
    · exact small_strOk h.1
    · exact smallAll_strOk h.2 t ht
end
theorem repOk_of {d : PyData} (h : small d = true) (hd : d.depth ≤ 64) (hc : cnt d ≤ 2900) : repOk d = true := by
  have hw := small_weight h
  simp only [repOk, small_ed h, small_short h, small_show h, Bool.and_true, Bool.true_and, Bool.and_eq_true, decide_eq_true_eq]
  exact ⟨hd, by omega⟩
end Lf
set_option Elab.async false
set_option linter.all false
set_option maxRecDepth 100000
set_option maxHeartbeats 2000000
namespace Lf
open PySem PySem.Spec PyProof.Rows L2
def tabC (o : Option VF) (fa : VDA) (e1 : VE) : Rs VR := match o with
  | some V => (fa e1).bind (vcallR V)
  | none => .bad
def tabR (Vs : List VF) (fa : VDA) (y : VR) (e1 : VE) : Rs VR := match y with
  | .d (.int n) => tabC (atI Vs n) fa e1
  | _ => .bad
def k_vdTab (Vs : List VF) (fa : VDA) (y : VR) (e1 : VE) : Rs VR := tabR Vs fa y.fz e1
def vdTab (Vs : List VF) (g : VD) (fa : VDA) : VD := fun e => (g e).bind (k_vdTab Vs fa)
inductive SimFs : List DenF → List VF → Prop
  | nil : SimFs [] []
  | cons {F V Fs Vs} : SimF F V → SimFs Fs Vs → SimFs (F :: Fs) (V :: Vs)
theorem SimFs.len : ∀ {Fs Vs}, SimFs Fs Vs → Fs.length = Vs.length
  | _, _, .nil => rfl
  | _, _, .cons _ t => congrArg Nat.succ t.len
theorem SimFs.get : ∀ {Fs Vs} {i : Nat} {V : VF}, SimFs Fs Vs → Vs[i]? = some V → ∃ F, Fs[i]? = some F ∧ SimF F V
  | _, _, 0, _, .cons h _, e => by cases e; exact ⟨_, rfl, h⟩
  | _, _, i + 1, V, .cons _ t, e => SimFs.get (i := i) (V := V) t e
  | _, _, _, _, .nil, e => by simp at e
theorem SimFs.at {Fs Vs} {n : Int} {V : VF} (h : SimFs Fs Vs) (e : atI Vs n = some V) : ∃ F, atI Fs n = some F ∧ SimF F V := by
  simp only [atI] at e ⊢
  rw [h.len]
  cases z : ixN Vs.length n with
  | none => rw [z] at e; cases e
  | some m => rw [z] at e; exact h.get e
theorem j_tab {Fs : List DenF} {Vs : List VF} {g : Den} {g' : VD} {fa : En → Mem → Ans (List Wv)} {fa' : VDA} (hF : SimFs Fs Vs) (hg : JE g g') (ha : JA fa fa') : JE (dTab Fs g fa) (vdTab Vs g' fa') := fun Γ ve e M R =>
  (hg Γ ve e M R).bind fun y ve1 u M1 h1 R1 => by
    have hf := h1.fz
    unfold k_vdTab tabR
    cases hy : y.fz with
    | d d2 =>
      rw [hy] at hf
      have hu : u.fz = .d d2 := hf
      show OutA Γ RR e _ (match u.fz with
        | .d (.int n) => (match atI Fs n with
          | some F => (fa e M1).bind F
          | none => .bad)
        | _ => .bad)
      rw [hu]
      cases d2 with
      | int n =>
        simp only []
        unfold tabC
        cases hV : atI Vs n with
        | none => trivial
        | some V =>
          obtain ⟨F, e1, e2⟩ := hF.at hV
          simp only [e1]
          exact j_call e2 ha Γ ve1 e M1 R1
      | _ => trivial
    | _ => trivial
end Lf
set_option Elab.async false
set_option linter.all false
set_option maxRecDepth 100000
set_option maxHeartbeats 2000000
namespace Lf
open PySem PySem.Spec PyProof.Rows L2
def getC (c k d : PyData) (e : VE) : Rs VR := match getF c k d with
  | some r => .ok (.d r) e
  | none => .bad
def getK (o y : Option PyData) (z : VR) (e : VE) : Rs VR := match o, y, z with
  | some c, some k, .d d => getC c k d e
  | _, _, _ => .bad
def isDct : Option PyData → Bool
  | some (.dict _) => true
  | _ => false
def k_vdGet1 (o y : VR) (z : VR) (e3 : VE) : Rs VR := getK (o.rd e3) (y.rd e3) z.fz e3
def k_vdGet2 (h : VD) (o y : VR) (e2 : VE) : Rs VR := (h e2).bind (k_vdGet1 o y)
def k_vdGet3 (g h : VD) (o : VR) (e1 : VE) : Rs VR := if isDct (o.rd e1) = true then (g e1).bind (k_vdGet2 h o) else .bad
def vdGet2 (f g h : VD) : VD := fun e => (f e).bind (k_vdGet3 g h)
end Lf
set_option Elab.async false
set_option linter.all false
set_option maxRecDepth 100000
set_option maxHeartbeats 2000000
namespace Lf
open PySem PySem.Spec PyProof.Rows L2
def revC (o : Option PyData) (e : VE) : Rs VR := match o with
  | some d => vofR (revF d) e
  | none => .bad
def k_vdRev (x : VR) (e1 : VE) : Rs VR := revC (x.rdK e1) e1
def vdRev (f : VD) : VD := fun e => (f e).bind k_vdRev
def minTV := minTF
def minL : List Int → Int
  | [] => 0
  | n :: ns => ns.foldl min n
theorem min_tI {l : List Int} (h : l ≠ []) : minTV (tI l) = some (vI (minL l)) := by
  cases l with
  | nil => exact absurd rfl h
  | cons n ns => 
    have : intsD ((n :: ns).map PyData.int) = some (n :: ns) := ints_lI (n :: ns)
    simp only [minTV, minTF, tI, this, minL]
end Lf
set_option Elab.async false
set_option linter.all false
set_option maxRecDepth 100000
set_option maxHeartbeats 2000000
namespace Lf
open PySem PySem.Spec PyProof.Rows L2
def toldR (told : Str) (kind : Xn → Option VR) : Rs VR → Rs VR
  | .ok _ e1 => .ok (.d (.str told)) e1
  | .ex x e1 => (match kind x with
    | some r => .ok r e1
    | none => .bad)
  | .bad => .bad
def vdRef (told : Str) (kind : Xn → Option VR) (f : VD) : VD := fun e => toldR told kind (f e)
end Lf
namespace Lf
open PySem PySem.Spec PyProof.Rows L2
def sameV := isF
def nsameV := isnF
end Lf
set_option Elab.async false
set_option linter.all false
set_option maxRecDepth 100000
set_option maxHeartbeats 2000000
namespace Lf
open PySem PySem.Spec PyProof.Rows L2
def swapR (o1 i1 o2 i2 : VD) (x y : VR) (e : VE) : VS := match x, y with
  | .d a, .d b => vsSeq (vsSet (vdC a) o1 i1) (vsSet (vdC b) o2 i2) e
  | _, _ => .bad
def k_vsSwap1 (o1 i1 o2 i2 : VD) (x y : VR) (e2 : VE) : VS := swapR o1 i1 o2 i2 x.fz y.fz e2
def k_vsSwap2 (g o1 i1 o2 i2 : VD) (x : VR) (e1 : VE) : VS := (g e1).go (k_vsSwap1 o1 i1 o2 i2 x)
def vsSwap (f g o1 i1 o2 i2 : VD) : VDS := fun e => (f e).go (k_vsSwap2 g o1 i1 o2 i2)
end Lf
set_option Elab.async false
set_option linter.all false
set_option maxRecDepth 100000
set_option maxHeartbeats 2000000
namespace Lf
open PySem PySem.Spec PyProof.Rows L2 Pu
def visRT (o : VR) (e : VE) : Bool := match o.rdK e with
  | some (.tuple ds) => needF ds
  | _ => false
def k_vdMs1 (F : PyData → PyData → Option Rv) (o : VR) (ws : List VR) (e2 : VE) : Rs VR := vmrR F o ws e2
def k_vdMs2 (F : PyData → PyData → Option Rv) (fa : VDA) (o : VR) (e1 : VE) : Rs VR := if visRT o e1 = true then (fa e1).bind (k_vdMs1 F o) else .bad
def vdMs (F : PyData → PyData → Option Rv) (f : VD) (fa : VDA) : VD := fun e => (f e).bind (k_vdMs2 F fa)
theorem j_ms {F : PyData → PyData → Option Rv} {f : Den} {f' : VD} {fa : En → Mem → Ans (List Wv)} {fa' : VDA} (hf : JE f f') (ha : JA fa fa') : JE (dMs F f fa) (vdMs F f' fa') := fun Γ ve e M R =>
  (hf Γ ve e M R).bind fun o ve1 o' M1 h1 R1 => by
    unfold k_vdMs2
    split
    · rename_i hL
      unfold visRT at hL
      have hr : isRT o'.fz M1 = true := by
        cases z : o.rdK ve1 with
        | none => rw [z] at hL; cases hL
        | some c =>
          rw [z] at hL
          have e1 := h1.fz.rdK R1 (by rw [VR.rdK_fz]; exact z)
          unfold isRT
          rw [e1]
          exact hL
      rw [if_pos hr]
      refine (ha Γ ve1 e M1 R1).bind fun ws ve2 ws' M2 h2 R2 => ?_
      unfold k_vdMs1 vmrR
      cases z : o.rdK ve2 with
      | none => trivial
      | some c =>
        cases h2 with
        | nil => trivial
        | cons hw ht =>
          cases ht with
          | cons _ _ => trivial
          | nil =>
            simp only []
            rename_i w w'
            cases z2 : w.rd ve2 with
            | none => trivial
            | some d =>
              have e1 := h1.fz.rdK R2 (by rw [VR.rdK_fz]; exact z)
              have e2 := hw.rd R2 z2
              refine .ofR R2 fun x hx => ?_
              simp only [mrR, e1, e2, hx]
    · trivial
def idxTV := idxTF
end Lf
set_option Elab.async false
set_option linter.all false
set_option maxRecDepth 100000
set_option maxHeartbeats 2000000
namespace Lf
open PySem PySem.Spec PyProof.Rows L2
def kindUL (t : List (Str × Str)) (x : Xn) : Option VR := match greatOf x with
  | some (a, b) => some (.o (.list [.str "great", a, b]))
  | none => kindU t x
theorem js_tryL {j : Nat} {t : List (Str × Str)} {fb : DenS} {fb' : VDS} (h : JS fb fb') : JS (sTryK j (kindL t) fb) (vsTryK j (kindUL t) fb') := fun Γ ve e M R => by
  have q := h Γ ve e M R
  unfold vsTryK sTryK
  cases z : fb' ve with
  | bad => trivial
  | next ve' => rw [z] at q; obtain ⟨e', M', h1, R'⟩ := q; rw [h1]; exact ⟨e', M', rfl, R'⟩
  | ret r ve' => rw [z] at q; obtain ⟨e', r', M', h1, h2, R'⟩ := q; rw [h1]; exact ⟨e', r', M', rfl, h2, R'⟩
  | brk ve' => rw [z] at q; obtain ⟨e', M', h1, R'⟩ := q; rw [h1]; exact ⟨e', M', rfl, R'⟩
  | cont ve' => rw [z] at q; obtain ⟨e', M', h1, R'⟩ := q; rw [h1]; exact ⟨e', M', rfl, R'⟩
  | ex x ve' =>
    rw [z] at q
    obtain ⟨e', M', h1, R'⟩ := q
    rw [h1]
    simp only [kindUL, kindL]
    cases hgr : greatOf x with
    | some ab =>
      by_cases hj : j < ve'.length
      · simp only [if_pos hj, if_pos (R'.len ▸ hj)]
        exact ⟨e', _, M', rfl, rfl, R'⟩
      · simp only [if_neg hj]
        trivial
    | none =>
      simp only [kindU, kindW]
      cases hw : wordOf t x with
      | none => trivial
      | some y =>
        simp only [Option.map_some]
        by_cases hj : j < ve'.length
        · rw [if_pos hj, if_pos (R'.len ▸ hj)]
          exact ⟨e', _, M', rfl, rfl, R'⟩
        · rw [if_neg hj]; trivial
@[simp] def greatR (ws : List VR) (e : VE) : VS := match vdats ws with
  | some [a, b] => .ex ⟨"TooGreat", [("most", b), ("many", a)]⟩ e
  | _ => .bad
def vsGreat (f : VDA) : VDS := fun e => (f e).go greatR
end Lf
set_option Elab.async false
set_option linter.all false
set_option maxRecDepth 100000
set_option maxHeartbeats 2000000
namespace Lf
open PySem PySem.Spec PyProof.Rows L2 Pu
def vrvsF : VMt := fun c ws _ => match c, ws with
  | .list ds, [] => some (.w (.d .none), .list ds.reverse)
  | _, _ => none
section
variable {Γ : Fr} {ve : VE} {e : En} {M : Mem} {f g h : Den} {f' g' h' : VD}
def lenSetV := lenSetF
def k_vdLstRg21 (a b : Int) (e4 : VE) : Rs VR := if rgOk a b = true then .ok (.o (.list (rgD a b))) e4 else .bad
def k_vdLstRg22 (y : VR) (a : Int) (e3 : VE) : Rs VR := (vasI y e3).bind (k_vdLstRg21 a)
def k_vdLstRg23 (x y : VR) (e2 : VE) : Rs VR := (vasI x e2).bind (k_vdLstRg22 y)
def k_vdLstRg24 (g : VD) (x : VR) (e1 : VE) : Rs VR := (g e1).bind (k_vdLstRg23 x)
def vdLstRg2 (f g : VD) : VD := fun e => (f e).bind (k_vdLstRg24 g)
def zip2 (ws : List VR) (e : VE) : Option (Nat × List PyData × Nat × List PyData) := match ws with
  | [.ref i, .ref j] => (match slotM e i, slotM e j with
    | some (.list ds), some (.list es) => some (i, ds, j, es)
    | _, _ => none)
  | _ => none
def chk2 (i : Nat) (ds : List PyData) (j : Nat) (es : List PyData) (e : VE) : Bool := vchk (ds, some (i, ds)) e && vchk (es, some (j, es)) e
def lcZ (vs : List Nat) (tg : PyData → VE → Option VE) (tt : VDT) (elt : VD) (ws : List VR) (e1 : VE) : Rs VR := match zip2 ws e1 with
  | some (i, ds, j, es) => (lcV vs (chk2 i ds j es) tg tt elt (List.zipWith pairD ds es) [] (wipeV e1 vs)).bind fun r e2 => .ok r (backV e1 vs e2)
  | none => vdLc (vzipR ws) vs tg tt elt e1
def vdLcZ (fa : VDA) (vs : List Nat) (tg : PyData → VE → Option VE) (tt : VDT) (elt : VD) : VD := fun e => (fa e).bind (lcZ vs tg tt elt)
end
end Lf
set_option Elab.async false
set_option linter.all false
set_option maxRecDepth 100000
set_option maxHeartbeats 2000000
namespace Lf
open PySem PySem.Spec PyProof.Rows L2 Pu
def vcallO (V : VF) (rs : List VR) (e : VE) : Rs VR := match vargs e rs with
  | some vs => if nodupN (vrefs rs) = true then (match V (vs ++ [.p (.dict [])]) with
    | .ok r ys => .ok r (wback rs ys e)
    | .ex x ys => .ex x (wback rs ys e)
    | .bad => .bad) else .bad
  | none => .bad
def vdCallO (V : VF) (fa : VDA) : VD := fun e => (fa e).bind (vcallO V)
section
variable {Γ : Fr} {ve : VE} {e : En} {M : Mem} {f g h : Den} {f' g' h' : VD}
theorem ArgRs.more {M : Mem} {c : PyData} : ∀ {vs ws}, ArgRs M vs ws → ArgRs (M ++ [c]) (vs ++ [.p c]) (ws ++ [.r M.length])
  | _, _, .nil => .cons ⟨M.length, rfl, by simp⟩ .nil
  | _, _, .cons (v := v) hd t => .cons (by
      cases v with
      | p x =>
        obtain ⟨l, h1, h2⟩ := hd
        exact ⟨l, h1, by rw [List.getElem?_append_left (List.getElem?_eq_some_iff.mp h2).1]; exact h2⟩
      | d x => exact hd
      | k x => exact hd
      | f x => exact hd
      | m x => exact hd) t.more
theorem ArgRs.lt {M : Mem} : ∀ {vs ws}, ArgRs M vs ws → ∀ (i l : Nat), ws[i]? = some (.r l) → l < M.length
  | _, _, .nil, i, l, q => by simp at q
  | _, _, .cons (v := v) hd t, 0, l, q => by
    simp at q
    subst q
    cases v with
    | p x =>
      obtain ⟨l', h1, h2⟩ := hd
      cases h1
      exact (List.getElem?_eq_some_iff.mp h2).1
    | d x => cases hd
    | k x => cases hd
    | f x => cases hd
    | m x => cases hd
  | _, _, .cons hd t, i + 1, l, q => t.lt i l (by simpa using q)
end
end Lf
set_option Elab.async false
set_option linter.all false
set_option maxRecDepth 100000
set_option maxHeartbeats 2000000
namespace Lf
open PySem PySem.Spec PyProof.Rows L2 Pu
def minDV := minDF
def k_vdMinD (r : VR) (e1 : VE) : Rs VR := vofR (vone minDV [r.fz] e1) e1
def vdMinD (f : VD) : VD := fun e => (f e).bind k_vdMinD
def parR3 (i j l : Nat) (e : VE) : Option VV → Option VV → Option VV → VS
  | some v, some u, some w => if e.free i = true ∧ e.free j = true ∧ e.free l = true then .next (((e.set i (some v)).set j (some u)).set l (some w)) else .bad
  | _, _, _ => .bad
def k_vsPar31 (i j l : Nat) (r q t : VR) (e3 : VE) : VS := parR3 i j l e3 (vtakeR true r) (vtakeR false q) (vtakeR false t)
def k_vsPar32 (i j l : Nat) (h : VD) (r q : VR) (e2 : VE) : VS := (h e2).go (k_vsPar31 i j l r q)
def k_vsPar33 (i j l : Nat) (g h : VD) (r : VR) (e1 : VE) : VS := (g e1).go (k_vsPar32 i j l h r)
def vsPar3 (i j l : Nat) (f g h : VD) : VDS := fun e => (f e).go (k_vsPar33 i j l g h)
section
variable {Γ : Fr} {ve : VE} {e : En} {M : Mem} {f g h : Den} {f' g' h' : VD}
end
end Lf
set_option Elab.async false
set_option linter.all false
set_option maxRecDepth 100000
set_option maxHeartbeats 2000000
namespace Lf
open PySem PySem.Spec PyProof.Rows L2
def ixD : PyData → PyData → Option PyData
  | .dict ds, k => if keyOk k ds = true then getD k ds else none
  | _, _ => none
def ixDK (o y : Option PyData) (e : VE) : Rs VR := match o, y with
  | some c, some k => (match ixD c k with
    | some d => .ok (.d d) e
    | none => .bad)
  | _, _ => .bad
def k_vdIxD1 (x y : VR) (e : VE) : Rs VR := ixDK (x.rd e) (y.rd e) e
def k_vdIxD2 (g : VD) (x : VR) (e : VE) : Rs VR := (g e).bind (k_vdIxD1 x)
def vdIxD (f g : VD) : VD := fun e => (f e).bind (k_vdIxD2 g)
end Lf
set_option Elab.async false
set_option linter.all false
set_option maxRecDepth 100000
set_option maxHeartbeats 2000000
namespace Lf
open PySem PySem.Spec PyProof.Rows L2
def vsFgt (j : Nat) : VDS := fun e => if j < e.length then .next (e.set j none) else .bad
def forFV (ks : List Nat) (j : Nat) (body : VDS) : List Addr → VDS
  | [], e => .next e
  | a :: as, e => match body (e.set j (some (.f a))) with
    | .next e2 => forFV ks j body as (mask ks e2)
    | .cont e2 => forFV ks j body as (mask ks e2)
    | .brk e2 => .next (mask ks e2)
    | r => r
def vsForF (ks : List Nat) (as : List Addr) (j : Nat) (body : VDS) : VDS := fun e => forFV ks j body as (mask ks e)
def callFT (T : List (Addr × VF)) (fa : VDA) (a : Addr) : VD := fun e => match T.lookup a with
  | some V => vdCall V fa e
  | none => .bad
def callFS (T : List (Addr × VF)) (fa : VDA) (o : Option (Option VV)) (e : VE) : Rs VR := match o with
  | some (some (.f a)) => callFT T fa a e
  | _ => .bad
def vdCallF (T : List (Addr × VF)) (j : Nat) (fa : VDA) : VD := fun e => callFS T fa e[j]? e
inductive SimT : List (Addr × DenF) → List (Addr × VF) → Prop
  | nil : SimT [] []
  | cons {a F V Fs Vs} : SimF F V → SimT Fs Vs → SimT ((a, F) :: Fs) ((a, V) :: Vs)
theorem SimT.get : ∀ {Fs Vs} {a : Addr} {V : VF}, SimT Fs Vs → Vs.lookup a = some V → ∃ F, Fs.lookup a = some F ∧ SimF F V
  | _, _, _, _, .nil, e => by cases e
  | _, _, a, V, .cons (a := b) h t, e => by
    rw [List.lookup_cons] at e ⊢
    cases q : a == b with
    | true => rw [q] at e; cases e; exact ⟨_, rfl, h⟩
    | false => rw [q] at e; exact t.get e
end Lf
set_option Elab.async false
set_option linter.all false
set_option maxRecDepth 100000
set_option maxHeartbeats 2000000
namespace Lf
open PySem PySem.Spec PyProof.Rows L2
def addIV := addIF
@[simp] theorem addIV_i (a b : Int) : addIV (.int a) (.int b) = some (vI (a + b)) := rfl
end Lf
set_option Elab.async false
set_option linter.all false
set_option maxRecDepth 100000
set_option maxHeartbeats 2000000
namespace Lf
open PySem PySem.Spec PyProof.Rows L2
def keysD (ds : List (PyData × PyData)) : List PyData := ds.map (·.1)
def vitDM (j : Nat) (e : VE) : Option PyData → Rs VItems
  | some (.dict ds) => .ok (keysD ds, none) (e.wr j (lk ds))
  | some (.tuple [.dict ds]) => .ok (keysD ds, none) e
  | _ => .bad
def vitD (x : VR) (e : VE) : Rs VItems := match x with
  | .o (.dict ds) => .ok (keysD ds, none) e
  | .ref j => vitDM j e (slotM e j)
  | _ => .bad
def viDict (f : VD) : VE → Rs VItems := fun e => (f e).bind vitD
section
variable {Γ : Fr} {ve : VE} {e : En} {M : Mem} {f g : Den} {f' g' : VD}
def VR.rdU (e : VE) : VR → Option PyData
  | .d x => some x
  | .o x => some x
  | .ref j => (slotM e j).map unlk
  | _ => none
theorem RW.rdU {r : VR} {w : Wv} {x : PyData} (h : RW e r w) (R : Rel Γ ve e M) (q : r.rdU ve = some x) : w.rdU M = some x := by
  cases r with
  | d y => cases h; exact q
  | o y => exact h.elim
  | k y => cases q
  | f y => cases q
  | ref j =>
    obtain ⟨l, rfl, hl⟩ := h
    obtain ⟨c, q1, q2⟩ := Option.map_eq_some_iff.mp (show (slotM ve j).map unlk = some x from q)
    show M[l]?.map unlk = some x
    rw [(R.slot q1 hl).1]
    exact congrArg some q2
def k_vdIxU1 (x y : VR) (e : VE) : Rs VR := ixDK (x.rdU e) (y.rd e) e
def k_vdIxU2 (g : VD) (x : VR) (e : VE) : Rs VR := (g e).bind (k_vdIxU1 x)
def vdIxU (f g : VD) : VD := fun e => (f e).bind (k_vdIxU2 g)
end
end Lf
set_option Elab.async false
set_option linter.all false
set_option maxRecDepth 100000
set_option maxHeartbeats 2000000
namespace Lf
open PySem PySem.Spec PyProof.Rows L2
def itemsD (ds : List (PyData × PyData)) : List PyData := ds.map fun p => pairD p.1 p.2
def valsD (ds : List (PyData × PyData)) : List PyData := ds.map (·.2)
def itemsOk (ds : List (PyData × PyData)) : Bool := flatPairs ds && (tupKeys ds && !ds.isEmpty)
def valsOk (ds : List (PyData × PyData)) : Bool := tupKeys ds && !ds.isEmpty
def vitI (x : VR) (e : VE) : Rs VItems := match x with
  | .o (.dict ds) => if itemsOk ds = true then .ok (itemsD ds, none) e else .bad
  | _ => .bad
def viItems (f : VD) : VE → Rs VItems := fun e => (f e).bind vitI
def vitV (x : VR) (e : VE) : Rs VItems := match x with
  | .o (.dict ds) => if valsOk ds = true then .ok (valsD ds, none) e else .bad
  | _ => .bad
def viVals (f : VD) : VE → Rs VItems := fun e => (f e).bind vitV
section
variable {f : Den} {f' : VD}
end
end Lf
set_option Elab.async false
set_option linter.all false
set_option maxRecDepth 100000
set_option maxHeartbeats 2000000
namespace Lf
open PySem PySem.Spec PyProof.Rows L2
@[simp] def Rs.okB {A B : Type} (r : Rs A) (k : A → VE → Rs B) : Rs B := match r with
  | .ok a e => k a e
  | _ => .bad
section
variable {Γ : Fr} {ve ve0 : VE} {e : En} {M M2 : Mem} {f g : Den} {f' g' : VD}
end
end Lf
set_option Elab.async false
set_option linter.all false
set_option maxRecDepth 100000
set_option maxHeartbeats 2000000
namespace Lf
open PySem PySem.Spec PyProof.Rows L2
section
variable {f g : Den} {f' g' : VD}
end
end Lf
set_option Elab.async false
set_option linter.all false
set_option maxRecDepth 100000
set_option maxHeartbeats 2000000
namespace Lf
open PySem PySem.Spec PyProof.Rows L2
end Lf
set_option Elab.async false
set_option linter.all false
set_option maxRecDepth 100000
set_option maxHeartbeats 2000000
namespace Lf
open PySem PySem.Spec PyProof.Rows L2
def eqEV := eqEF
@[scoped simp] theorem eqE_t (ds : List PyData) : eqEV (.tuple ds) (.tuple []) = some (vB ds.isEmpty) := id rfl
@[scoped simp] theorem eqE_tI (l : List Int) : eqEV (tI l) (.tuple []) = some (vB (decide (l = []))) := by cases l <;> exact id rfl
end Lf
set_option Elab.async false
set_option linter.all false
set_option maxRecDepth 100000
set_option maxHeartbeats 2000000
namespace Lf
open PySem PySem.Spec PyProof.Rows L2 Pu
end Lf
set_option Elab.async false
set_option linter.all false
set_option maxRecDepth 100000
set_option maxHeartbeats 2000000
namespace Lf
open PySem PySem.Spec PyProof.Rows L2 Pu
section
variable {f g : Den} {f' g' : VD}
end
end Lf
set_option Elab.async false
set_option linter.all false
set_option maxRecDepth 100000
namespace Lw
open PySem PySem.Spec PyProof.Rows L2 Lf
def V_is_whole : VF := vfnD 1 1 (vsRet (vdAnd (vdIsi ["int"] (vdVar 0)) (vdNot (vdIsi ["bool"] (vdVar 0)))))
def V_is_from : VF := vfnD 3 3 (vsRet (vdAnd (vdCall V_is_whole (vaCons (vdVar 0) vaNil)) (vdChain leV leV (vdVar 1) (vdVar 0) (vdVar 2))))
def V_are_rising : VF := vfnD 4 2 (vsSeq (vsIf (vtOrD (vtNotD (vtst (vdIsi ["tuple"] (vdVar 1)))) (vtNotD (vtst (vdCB (vone allV) (vaCons (vdLc (viSeq (vdVar 1)) [2] (vtgN 2) vtTrue (vdCall V_is_from (vaCons (vdVar 2) (vaCons (vdC (.int 0)) (vaCons (vdBin subV (vdVar 0) (vdC (.int 1))) vaNil))))) vaNil))))) (vsRet (vdC (.bool false))) vsNext)
    (vsRet (vdCB (vone allV) (vaCons (vdLc (viZip (vaCons (vdVar 1) (vaCons (vdSl (vdVar 1) (vpYes (vdC (.int 1))) vpNo) vaNil))) [2, 3] (vtgT [2, 3]) vtTrue (vdBin ltV (vdVar 2) (vdVar 3))) vaNil))))
def V_are_faces : VF := vfnD 6 3 (vsSeq (vsIf (vtOrD (vtNotD (vtst (vdIsi ["tuple"] (vdVar 2)))) (vtNotD (vtst (vdChain leV leV (vdC (.int 1)) (vdCB (vone lenV) (vaCons (vdVar 2) vaNil)) (vdC (.int 70)))))) (vsRet (vdC (.bool false))) vsNext)
    (vsSeq (vsIf (vtNotD (vtst (vdCB (vone allV) (vaCons (vdLc (viSeq (vdVar 2)) [3] (vtgN 3) vtTrue (vdAnd (vdCall V_are_rising (vaCons (vdVar 0) (vaCons (vdVar 3) vaNil))) (vdBin eqV (vdCB (vone lenV) (vaCons (vdVar 3) vaNil)) (vdVar 1)))) vaNil)))) (vsRet (vdC (.bool false))) vsNext)
    (vsRet (vdCB (vone allV) (vaCons (vdLc (viZip (vaCons (vdVar 2) (vaCons (vdSl (vdVar 2) (vpYes (vdC (.int 1))) vpNo) vaNil))) [4, 5] (vtgT [4, 5]) vtTrue (vdBin ltV (vdVar 4) (vdVar 5))) vaNil)))))
def V_is_stack : VF := vfnD 4 1 (vsSeq (vsIf (vtOrD (vtNotD (vtst (vdIsi ["tuple"] (vdVar 0)))) (vtst (vdBin neV (vdCB (vone lenV) (vaCons (vdVar 0) vaNil)) (vdC (.int 3))))) (vsRet (vdC (.bool false))) vsNext)
    (vsSeq (vsAsgT (vtgT [1, 2, 3]) (vdVar 0))
    (vsSeq (vsIf (vtOrD (vtNotD (vtst (vdCall V_is_from (vaCons (vdVar 1) (vaCons (vdC (.int 1)) (vaCons (vdC (.int 8)) vaNil)))))) (vtNotD (vtst (vdCall V_is_from (vaCons (vdVar 2) (vaCons (vdC (.int 0)) (vaCons (vdCB (vtwo (fun a b => vI (if b < a then b else a))) (vaCons (vdVar 1) (vaCons (vdC (.int 4)) vaNil))) vaNil))))))) (vsRet (vdC (.bool false))) vsNext)
    (vsRet (vdCall V_are_faces (vaCons (vdVar 1) (vaCons (vdVar 2) (vaCons (vdVar 3) vaNil))))))))
def V_law_same : Nat → VF
  | 0 => fun _ => .bad
  | n + 1 => vfnD 4 2 (vsSeq (vsIf (vtst (vdIsN (vdVar 1))) (vsRet (vdIsN (vdVar 0))) vsNext)
    (vsSeq (vsIf (vtst (vdIsi ["list", "tuple"] (vdVar 1))) (vsSeq (vsIf (vtst (vdBin neV (vdIsi ["list"] (vdVar 1)) (vdIsi ["list"] (vdVar 0)))) (vsRet (vdC (.bool false))) vsNext)
    (vsSeq (vsIf (vtOrD (vtst (vdBin neV (vdIsi ["tuple"] (vdVar 1)) (vdIsi ["tuple"] (vdVar 0)))) (vtst (vdBin neV (vdCB (vone lenV) (vaCons (vdVar 0) vaNil)) (vdCB (vone lenV) (vaCons (vdVar 1) vaNil))))) (vsRet (vdC (.bool false))) vsNext)
    (vsRet (vdCB (vone allV) (vaCons (vdLcZ (vaCons (vdVar 0) (vaCons (vdVar 1) vaNil)) [2, 3] (vtgT [2, 3]) vtTrue (vdCall (V_law_same n) (vaCons (vdVar 2) (vaCons (vdVar 3) vaNil)))) vaNil))))) vsNext)
    (vsSeq (vsIf (vtst (vdIsi ["str"] (vdVar 1))) (vsRet (vdAnd (vdIsi ["str"] (vdVar 0)) (vdBin eqV (vdVar 0) (vdVar 1)))) vsNext)
    (vsSeq (vsIf (vtst (vdBin neV (vdIsi ["bool"] (vdVar 0)) (vdIsi ["bool"] (vdVar 1)))) (vsRet (vdC (.bool false))) vsNext)
    (vsRet (vdAnd (vdIsi ["int"] (vdVar 0)) (vdBin eqV (vdVar 0) (vdVar 1))))))))
def V_law_cell : VF := vfnD 2 2 (vsSeq (vsIf (vtst (vdBin ltV (vdVar 1) (vdCB (vone lenV) (vaCons (vdVar 0) vaNil)))) (vsRet (vdIx (vdVar 0) (vdVar 1))) vsNext)
    (vsRet (vdC (.int 0))))
def V_law_pen : VF := vfnD 1 1 (vsRet (vdLst (vaCons (vdVar 0) (vaCons (vdCB (vone intV) (vaCons (vdBin geV (vdVar 0) (vdBin powV (vdC (.int 10)) (vdC (.int 18)))) vaNil)) vaNil))))
def V_law_draw : VF := vfnD 3 2 (vsSeq (vsIf (vtst (vdBin eqV (vdIx (vdVar 0) (vdC (.int 1))) (vdC (.int 1)))) (vsSeq (vsAsg 2 false (vdBin modV (vdIx (vdVar 0) (vdC (.int 0))) (vdVar 1)))
    (vsSeq (vsSet (vdBin fdivV (vdIx (vdVar 0) (vdC (.int 0))) (vdVar 1)) (vdVar 0) (vdC (.int 0)))
    (vsRet (vdVar 2)))) vsNext)
    (vsSeq (vsSet (vdBin modV (vdBin addV (vdBin mulV (vdBin modV (vdIx (vdVar 0) (vdC (.int 0))) (vdC (.int 2147483629))) (vdC (.int 48271))) (vdC (.int 11))) (vdC (.int 2147483629))) (vdVar 0) (vdC (.int 0)))
    (vsRet (vdBin modV (vdBin fdivV (vdBin modV (vdBin addV (vdBin mulV (vdIx (vdVar 0) (vdC (.int 0))) (vdIx (vdVar 0) (vdC (.int 0)))) (vdBin mulV (vdC (.int 40692)) (vdIx (vdVar 0) (vdC (.int 0))))) (vdC (.int 2147483647))) (vdC (.int 8))) (vdVar 1)))))
def V_must_from : VF := vfnD 3 3 (vsIf (vtNotD (vtst (vdCall V_is_from (vaCons (vdVar 0) (vaCons (vdVar 1) (vaCons (vdVar 2) vaNil)))))) (vsRaise "NoNumber") vsNext)
def V_must_stack : VF := vfnD 1 1 (vsIf (vtNotD (vtst (vdCall V_is_stack (vaCons (vdVar 0) vaNil)))) (vsRaise "NoStack") vsNext)
def V_within : VF := vfnD 3 2 (vsRet (vdCB (vone allV) (vaCons (vdLc (viSeq (vdVar 0)) [2] (vtgN 2) vtTrue (vdBin (inV false) (vdVar 2) (vdVar 1))) vaNil)))
def V_law_within : VF := vfnD 3 2 (vsRet (vdBin eqV (vdLc (viSeq (vdVar 0)) [2] (vtgN 2) (vtst (vdBin (inV true) (vdVar 2) (vdVar 1))) (vdVar 2)) (vdLst vaNil)))
def words_law_kinds : List (Str × Str) := [("NoStack", "stack"), ("NoNumber", "number"), ("NoPart", "part"), ("NoLot", "lot"), ("NoRow", "row"), ("NoOrder", "order"), ("NoNames", "names"), ("NoRim", "rim"), ("NoTaking", "taking"), ("NoText", "text"), ("NoLine", "line"), ("NoDeed", "deed")]
def V_law_common : VF := vfnD 3 2 (vsRet (vdLc (viSeq (vdVar 0)) [2] (vtgN 2) (vtst (vdBin (inV false) (vdVar 2) (vdVar 1))) (vdVar 2)))
def W_law_same_v2_1 (rf : VF) : VDS := (vsIf (vtNotD (vtst (vdCall rf (vaCons (vdVar 2) (vaCons (vdVar 3) vaNil))))) (vsRet (vdC (.bool false))) vsNext)
def V_law_same_v2 : Nat → VF
  | 0 => fun _ => .bad
  | n + 1 => vfnD 4 2 (vsSeq (vsIf (vtst (vdIsN (vdVar 1))) (vsRet (vdIsN (vdVar 0))) vsNext)
    (vsSeq (vsIf (vtOrD (vtst (vdIsi ["tuple"] (vdVar 1))) (vtst (vdIsi ["list"] (vdVar 1)))) (vsSeq (vsIf (vtOrD (vtst (vdBin neV (vdIsi ["tuple"] (vdVar 0)) (vdIsi ["tuple"] (vdVar 1)))) (vtst (vdBin neV (vdIsi ["list"] (vdVar 0)) (vdIsi ["list"] (vdVar 1))))) (vsRet (vdC (.bool false))) vsNext)
    (vsSeq (vsIf (vtst (vdBin neV (vdCB (vone lenV) (vaCons (vdVar 0) vaNil)) (vdCB (vone lenV) (vaCons (vdVar 1) vaNil)))) (vsRet (vdC (.bool false))) vsNext)
    (vsSeq (vsFor [0] (viZip (vaCons (vdVar 0) (vaCons (vdVar 1) vaNil))) (vtgT [2, 3]) (W_law_same_v2_1 (V_law_same_v2 n)))
    (vsRet (vdC (.bool true)))))) vsNext)
    (vsSeq (vsIf (vtst (vdIsi ["str"] (vdVar 1))) (vsRet (vdAnd (vdIsi ["str"] (vdVar 0)) (vdBin eqV (vdVar 0) (vdVar 1)))) vsNext)
    (vsRet (vdAnd (vdBin eqV (vdIsi ["bool"] (vdVar 0)) (vdIsi ["bool"] (vdVar 1))) (vdAnd (vdIsi ["int"] (vdVar 0)) (vdBin eqV (vdVar 0) (vdVar 1))))))))
def W_law_every_1 : VDS := (vsAsg 2 false (vdBin addV (vdVar 2) (vdLc (viSeq (vdVar 2)) [4] (vtgN 4) vtTrue (vdBin addV (vdVar 4) (vdTup (vaCons (vdVar 3) vaNil))))))
def V_law_every : VF := vfnD 5 2 (vsSeq (vsAsg 2 false (vdLst (vaCons (vdTup vaNil) vaNil)))
    (vsSeq (vsFor [1, 2] (viRange (vdVar 0)) (vtgN 3) W_law_every_1)
    (vsRet (vdCB (vone sortV) (vaCons (vdLc (viSeq (vdVar 2)) [4] (vtgN 4) (vtst (vdBin eqV (vdCB (vone lenV) (vaCons (vdVar 4) vaNil)) (vdVar 1))) (vdVar 4)) vaNil)))))
def V_law_made : VF := vfnD 3 3 (vsRet (vdTup (vaCons (vdVar 0) (vaCons (vdVar 1) (vaCons (vdCB (vone tupleV) (vaCons (vdCB (vone sortV) (vaCons (vdVar 2) vaNil)) vaNil)) vaNil)))))
def W_law_pairs_1 : VDS := (vsAsg 1 false (vdBin addV (vdLc (viSeq (vdVar 1)) [3] (vtgN 3) vtTrue (vdBin addV (vdVar 3) (vdTup (vaCons (vdBin mulV (vdC (.int 2)) (vdVar 2)) vaNil)))) (vdLc (viSeq (vdVar 1)) [3] (vtgN 3) vtTrue (vdBin addV (vdVar 3) (vdTup (vaCons (vdBin addV (vdBin mulV (vdC (.int 2)) (vdVar 2)) (vdC (.int 1))) vaNil))))))
def V_law_pairs : VF := vfnD 4 1 (vsSeq (vsAsg 1 false (vdLst (vaCons (vdTup vaNil) vaNil)))
    (vsSeq (vsFor [1] (viRange (vdVar 0)) (vtgN 2) W_law_pairs_1)
    (vsRet (vdCB (vone sortV) (vaCons (vdVar 1) vaNil)))))
def V_law_size : VF := vfnD 2 1 (vsSeq (vsAsg 1 false (vdIx (vdLst (vaCons (vdC (.int 2)) (vaCons (vdC (.int 3)) (vaCons (vdC (.int 2)) (vaCons (vdC (.int 3)) (vaCons (vdC (.int 1)) (vaCons (vdC (.int 4)) (vaCons (vdC (.int 0)) (vaCons (vdC (.int 2)) vaNil))))))))) (vdCall V_law_draw (vaCons (vdVar 0) (vaCons (vdC (.int 8)) vaNil)))))
    (vsRet (vdTup (vaCons (vdBin addV (vdCB (vtwo (fun a b => vI (if b > a then b else a))) (vaCons (vdC (.int 1)) (vaCons (vdVar 1) vaNil))) (vdCall V_law_draw (vaCons (vdVar 0) (vaCons (vdBin subV (vdC (.int 9)) (vdCB (vtwo (fun a b => vI (if b > a then b else a))) (vaCons (vdC (.int 1)) (vaCons (vdVar 1) vaNil)))) vaNil)))) (vaCons (vdVar 1) vaNil)))))
def V_law_drawn : VF := vfnD 7 4 (vsSeq (vsAsg 4 true (vdCall V_law_every (vaCons (vdVar 1) (vaCons (vdVar 2) vaNil))))
    (vsSeq (vsAsg 5 false (vdBin addV (vdC (.int 1)) (vdCall V_law_draw (vaCons (vdVar 0) (vaCons (vdCB (vtwo (fun a b => vI (if b < a then b else a))) (vaCons (vdVar 3) (vaCons (vdCB (vone lenV) (vaCons (vdVar 4) vaNil)) vaNil))) vaNil)))))
    (vsRet (vdLc (viRange (vdVar 5)) [6] (vtgN 6) vtTrue (vdMt vpopF (vdVar 4) (vaCons (vdCall V_law_draw (vaCons (vdVar 0) (vaCons (vdCB (vone lenV) (vaCons (vdVar 4) vaNil)) vaNil))) vaNil))))))
def W_law_may_v2_1 : VDS := (vsSeq (vsAsg 4 false (vdCall V_law_common (vaCons (vdVar 1) (vaCons (vdVar 3) vaNil))))
    (vsIf (vtst (vdBin eqV (vdLc (viSeq (vdVar 2)) [5] (vtgN 5) (vtst (vdBin eqV (vdCB (vone lenV) (vaCons (vdCall V_law_common (vaCons (vdVar 4) (vaCons (vdVar 5) vaNil))) vaNil)) (vdCB (vone lenV) (vaCons (vdVar 4) vaNil)))) (vdVar 5)) (vdLst vaNil))) (vsRet (vdC (.bool false))) vsNext))
def V_law_may_v2 : VF := vfnD 6 2 (vsSeq (vsAsg 2 false (vdLc (viSeq (vdVar 0)) [5] (vtgN 5) (vtst (vdBin eqV (vdCB (vone lenV) (vaCons (vdCall V_law_common (vaCons (vdVar 1) (vaCons (vdVar 5) vaNil))) vaNil)) (vdBin subV (vdCB (vone lenV) (vaCons (vdVar 1) vaNil)) (vdC (.int 1))))) (vdVar 5)))
    (vsSeq (vsFor [0, 1, 2] (viSeq (vdVar 0)) (vtgN 3) W_law_may_v2_1)
    (vsRet (vdC (.bool true)))))
def W_law_grown_1 : VDS := (vsIf (vtAndD (vtst (vdBin neV (vdVar 4) (vdLst vaNil))) (vtst (vdBin ltV (vdCB (vone lenV) (vaCons (vdVar 6) vaNil)) (vdVar 5)))) (vsSeq (vsAsg 8 false (vdMt vpopF (vdVar 4) (vaCons (vdCall V_law_draw (vaCons (vdVar 0) (vaCons (vdCB (vone lenV) (vaCons (vdVar 4) vaNil)) vaNil))) vaNil)))
    (vsIf (vtst (vdCall V_law_may_v2 (vaCons (vdVar 6) (vaCons (vdVar 8) vaNil)))) (vsDrop (vdMt vappF (vdVar 6) (vaCons (vdVar 8) vaNil))) vsNext)) vsNext)
def V_law_grown : VF := vfnD 9 4 (vsSeq (vsAsg 4 true (vdCall V_law_every (vaCons (vdVar 1) (vaCons (vdVar 2) vaNil))))
    (vsSeq (vsAsg 5 false (vdBin addV (vdC (.int 1)) (vdCall V_law_draw (vaCons (vdVar 0) (vaCons (vdVar 3) vaNil)))))
    (vsSeq (vsAsg 6 true (vdLst (vaCons (vdMt vpopF (vdVar 4) (vaCons (vdCall V_law_draw (vaCons (vdVar 0) (vaCons (vdCB (vone lenV) (vaCons (vdVar 4) vaNil)) vaNil))) vaNil)) vaNil)))
    (vsSeq (vsFor [0, 4, 5, 6] (viRange (vdBin mulV (vdC (.int 3)) (vdVar 3))) (vtgN 7) W_law_grown_1)
    (vsRet (vdVar 6))))))
def V_law_kindly : VF := vfnD 8 2 (vsSeq (vsPar 2 3 false false (vdCall V_law_draw (vaCons (vdVar 0) (vaCons (vdC (.int 4)) vaNil))) (vdCall V_law_draw (vaCons (vdVar 0) (vaCons (vdC (.int 6)) vaNil))))
    (vsSeq (vsIf (vtst (vdBin eqV (vdVar 2) (vdC (.int 0)))) (vsSeq (vsAsgT (vtgT [4, 5]) (vdIx (vdLst (vaCons (vdTup (vaCons (vdC (.int 4)) (vaCons (vdC (.int 2)) vaNil))) (vaCons (vdTup (vaCons (vdC (.int 4)) (vaCons (vdC (.int 3)) vaNil))) (vaCons (vdTup (vaCons (vdC (.int 5)) (vaCons (vdC (.int 2)) vaNil))) (vaCons (vdTup (vaCons (vdC (.int 5)) (vaCons (vdC (.int 4)) vaNil))) (vaCons (vdTup (vaCons (vdC (.int 5)) (vaCons (vdC (.int 3)) vaNil))) (vaCons (vdTup (vaCons (vdC (.int 3)) (vaCons (vdC (.int 2)) vaNil))) vaNil))))))) (vdVar 3)))
    (vsRet (vdCall V_law_made (vaCons (vdVar 4) (vaCons (vdVar 5) (vaCons (vdSl (vdCall V_law_every (vaCons (vdVar 4) (vaCons (vdVar 5) vaNil))) vpNo (vpYes (vdVar 1))) vaNil)))))) vsNext)
    (vsSeq (vsIf (vtst (vdBin eqV (vdVar 2) (vdC (.int 1)))) (vsRet (vdCall V_law_made (vaCons (vdBin addV (vdC (.int 2)) (vdBin mulV (vdC (.int 2)) (vdBin modV (vdVar 3) (vdC (.int 4))))) (vaCons (vdBin addV (vdC (.int 1)) (vdBin modV (vdVar 3) (vdC (.int 4)))) (vaCons (vdSl (vdCall V_law_pairs (vaCons (vdBin addV (vdC (.int 1)) (vdBin modV (vdVar 3) (vdC (.int 4)))) vaNil)) vpNo (vpYes (vdVar 1))) vaNil))))) vsNext)
    (vsSeq (vsAsg 6 false (vdLc (viRange (vdBin addV (vdC (.int 2)) (vdVar 3))) [7] (vtgN 7) vtTrue (vdTup (vaCons (vdVar 7) (vaCons (vdBin addV (vdVar 7) (vdC (.int 1))) vaNil)))))
    (vsSeq (vsIf (vtst (vdBin eqV (vdVar 2) (vdC (.int 2)))) (vsAsg 6 false (vdCB (vone sortV) (vaCons (vdBin addV (vdVar 6) (vdLst (vaCons (vdTup (vaCons (vdC (.int 0)) (vaCons (vdBin addV (vdC (.int 2)) (vdVar 3)) vaNil))) vaNil))) vaNil))) vsNext)
    (vsRet (vdCall V_law_made (vaCons (vdBin addV (vdC (.int 3)) (vdVar 3)) (vaCons (vdC (.int 2)) (vaCons (vdSl (vdVar 6) vpNo (vpYes (vdVar 1))) vaNil))))))))))
def V_law_stack_v2 : VF := vfnD 5 2 (vsSeq (vsAsg 2 false (vdCall V_law_draw (vaCons (vdVar 0) (vaCons (vdC (.int 5)) vaNil))))
    (vsSeq (vsAsgT (vtgT [3, 4]) (vdCall V_law_size (vaCons (vdVar 0) vaNil)))
    (vsSeq (vsIf (vtst (vdBin eqV (vdVar 2) (vdC (.int 0)))) (vsRet (vdCall V_law_kindly (vaCons (vdVar 0) (vaCons (vdVar 1) vaNil)))) vsNext)
    (vsSeq (vsIf (vtst (vdBin ltV (vdVar 2) (vdC (.int 3)))) (vsRet (vdCall V_law_made (vaCons (vdVar 3) (vaCons (vdVar 4) (vaCons (vdCall V_law_drawn (vaCons (vdVar 0) (vaCons (vdVar 3) (vaCons (vdVar 4) (vaCons (vdVar 1) vaNil))))) vaNil))))) vsNext)
    (vsRet (vdCall V_law_made (vaCons (vdVar 3) (vaCons (vdVar 4) (vaCons (vdCall V_law_grown (vaCons (vdVar 0) (vaCons (vdVar 3) (vaCons (vdVar 4) (vaCons (vdVar 1) vaNil))))) vaNil)))))))))
def V_law_no_stack : VF := vfnD 14 2 (vsSeq (vsAsgT (vtgT [2, 3, 4]) (vdVar 1))
    (vsSeq (vsAsgT (vtgT [5, 6, 7]) (vdTup (vaCons (vdCall V_law_draw (vaCons (vdVar 0) (vaCons (vdC (.int 20)) vaNil))) (vaCons (vdCall V_law_draw (vaCons (vdVar 0) (vaCons (vdCB (vone lenV) (vaCons (vdVar 4) vaNil)) vaNil))) (vaCons (vdCall V_law_draw (vaCons (vdVar 0) (vaCons (vdCB (vtwo (fun a b => vI (if b > a then b else a))) (vaCons (vdC (.int 1)) (vaCons (vdVar 3) vaNil))) vaNil))) vaNil)))))
    (vsSeq (vsAsg 8 false (vdIx (vdLst (vaCons (vdC .none) (vaCons (vdC (.bool true)) (vaCons (vdNeg (vdC (.int 1))) (vaCons (vdVar 2) (vaCons (vdC (.str "0")) (vaCons (vdTup (vaCons (vdC (.int 0)) vaNil)) (vaCons (vdBin powV (vdC (.int 10)) (vdC (.int 30))) vaNil)))))))) (vdCall V_law_draw (vaCons (vdVar 0) (vaCons (vdC (.int 7)) vaNil)))))
    (vsSeq (vsAsg 9 false (vdIx (vdVar 4) (vdVar 6)))
    (vsSeq (vsPar 10 11 false false (vdSl (vdVar 4) vpNo (vpYes (vdVar 6))) (vdSl (vdVar 4) (vpYes (vdBin addV (vdVar 6) (vdC (.int 1)))) vpNo))
    (vsSeq (vsAsg 12 false (vdBin addV (vdBin addV (vdSl (vdVar 9) vpNo (vpYes (vdVar 7))) (vdTup (vaCons (vdVar 8) vaNil))) (vdSl (vdVar 9) (vpYes (vdBin addV (vdVar 7) (vdC (.int 1)))) vpNo)))
    (vsSeq (vsAsg 13 false (vdLst (vaCons (vdTup (vaCons (vdVar 2) (vaCons (vdVar 3) (vaCons (vdBin addV (vdBin addV (vdVar 10) (vdTup (vaCons (vdVar 12) vaNil))) (vdVar 11)) vaNil)))) (vaCons (vdTup (vaCons (vdVar 2) (vaCons (vdVar 3) (vaCons (vdBin addV (vdBin addV (vdVar 10) (vdTup (vaCons (vdCB (vone listV) (vaCons (vdVar 9) vaNil)) vaNil))) (vdVar 11)) vaNil)))) vaNil))))
    (vsSeq (vsAsg 13 false (vdBin addV (vdVar 13) (vdLst (vaCons (vdTup (vaCons (vdVar 2) (vaCons (vdVar 3) (vaCons (vdBin addV (vdBin addV (vdVar 10) (vdTup (vaCons (vdVar 9) (vaCons (vdVar 9) vaNil)))) (vdVar 11)) vaNil)))) (vaCons (vdTup (vaCons (vdVar 2) (vaCons (vdVar 3) (vaCons (vdBin addV (vdVar 4) (vdSl (vdVar 4) vpNo (vpYes (vdC (.int 1))))) vaNil)))) (vaCons (vdTup (vaCons (vdVar 2) (vaCons (vdVar 3) (vaCons (vdCB (vone listV) (vaCons (vdVar 4) vaNil)) vaNil)))) vaNil))))))
    (vsSeq (vsAsg 13 false (vdBin addV (vdVar 13) (vdLst (vaCons (vdTup (vaCons (vdVar 2) (vaCons (vdVar 3) (vaCons (vdTup vaNil) vaNil)))) (vaCons (vdTup (vaCons (vdC (.int 0)) (vaCons (vdVar 3) (vaCons (vdVar 4) vaNil)))) (vaCons (vdTup (vaCons (vdC (.int 9)) (vaCons (vdVar 3) (vaCons (vdVar 4) vaNil)))) vaNil))))))
    (vsSeq (vsAsg 13 false (vdBin addV (vdVar 13) (vdLst (vaCons (vdTup (vaCons (vdVar 2) (vaCons (vdC (.int 5)) (vaCons (vdVar 4) vaNil)))) (vaCons (vdTup (vaCons (vdVar 2) (vaCons (vdBin addV (vdVar 3) (vdC (.int 1))) (vaCons (vdVar 4) vaNil)))) (vaCons (vdTup (vaCons (vdVar 2) (vaCons (vdBin subV (vdVar 3) (vdC (.int 1))) (vaCons (vdVar 4) vaNil)))) (vaCons (vdTup (vaCons (vdC (.bool true)) (vaCons (vdVar 3) (vaCons (vdVar 4) vaNil)))) (vaCons (vdTup (vaCons (vdVar 2) (vaCons (vdC .none) (vaCons (vdVar 4) vaNil)))) vaNil))))))))
    (vsRet (vdIx (vdBin addV (vdVar 13) (vdLst (vaCons (vdLst (vaCons (vdVar 2) (vaCons (vdVar 3) (vaCons (vdVar 4) vaNil)))) (vaCons (vdTup (vaCons (vdVar 2) (vaCons (vdVar 3) vaNil))) (vaCons (vdC .none) (vaCons (vdTup (vaCons (vdVar 2) (vaCons (vdVar 3) (vaCons (vdVar 4) (vaCons (vdC (.int 0)) vaNil))))) (vaCons (vdC (.int 7)) (vaCons (vdC (.str "3 2: 01 02 12")) (vaCons vdDict vaNil))))))))) (vdVar 5)))))))))))))
def V_must_names : VF := vfnD 3 2 (vsSeq (vsIf (vtOrD (vtNotD (vtst (vdIsi ["tuple"] (vdVar 1)))) (vtNotD (vtst (vdCB (vone allV) (vaCons (vdLc (viSeq (vdVar 1)) [2] (vtgN 2) vtTrue (vdCall V_is_whole (vaCons (vdVar 2) vaNil))) vaNil))))) (vsRaise "NoNames") vsNext)
    (vsIf (vtst (vdBin neV (vdCB (vone sortV) (vaCons (vdVar 1) vaNil)) (vdLstRg (vdVar 0)))) (vsRaise "NoNames") vsNext))
def V_renamed : VF := vfnD 3 2 (vsRet (vdCB (vone tupleV) (vaCons (vdCB (vone sortV) (vaCons (vdLc (viSeq (vdVar 0)) [2] (vtgN 2) vtTrue (vdIx (vdVar 1) (vdVar 2))) vaNil)) vaNil)))
def V_law_names : VF := vfnD 4 2 (vsSeq (vsAsg 2 true (vdLstRg (vdVar 1)))
    (vsRet (vdCB (vone tupleV) (vaCons (vdLc (viRange (vdVar 1)) [3] (vtgN 3) vtTrue (vdMt vpopF (vdVar 2) (vaCons (vdCall V_law_draw (vaCons (vdVar 0) (vaCons (vdCB (vone lenV) (vaCons (vdVar 2) vaNil)) vaNil))) vaNil))) vaNil))))
def V_law_no_names : VF := vfnD 7 2 (vsSeq (vsPar 2 3 false false (vdCall V_law_draw (vaCons (vdVar 0) (vaCons (vdC (.int 12)) vaNil))) (vdCall V_law_draw (vaCons (vdVar 0) (vaCons (vdCB (vone lenV) (vaCons (vdVar 1) vaNil)) vaNil))))
    (vsSeq (vsAsg 4 false (vdIx (vdLst (vaCons (vdCB (vone lenV) (vaCons (vdVar 1) vaNil)) (vaCons (vdNeg (vdC (.int 1))) (vaCons (vdC .none) (vaCons (vdC (.bool true)) (vaCons (vdC (.str "0")) (vaCons (vdTup (vaCons (vdC (.int 0)) vaNil)) (vaCons (vdBin powV (vdC (.int 10)) (vdC (.int 30))) vaNil)))))))) (vdCall V_law_draw (vaCons (vdVar 0) (vaCons (vdC (.int 7)) vaNil)))))
    (vsSeq (vsAsg 5 false (vdLst (vaCons (vdBin addV (vdBin addV (vdSl (vdVar 1) vpNo (vpYes (vdVar 3))) (vdTup (vaCons (vdVar 4) vaNil))) (vdSl (vdVar 1) (vpYes (vdBin addV (vdVar 3) (vdC (.int 1)))) vpNo)) (vaCons (vdSl (vdVar 1) vpNo (vpYes (vdNeg (vdC (.int 1))))) (vaCons (vdBin addV (vdVar 1) (vdTup (vaCons (vdCB (vone lenV) (vaCons (vdVar 1) vaNil)) vaNil))) (vaCons (vdCB (vone listV) (vaCons (vdVar 1) vaNil)) (vaCons (vdBin addV (vdVar 1) (vdSl (vdVar 1) vpNo (vpYes (vdC (.int 1))))) vaNil)))))))
    (vsSeq (vsAsg 6 false (vdIf (vtst (vdBin gtV (vdCB (vone lenV) (vaCons (vdVar 1) vaNil)) (vdC (.int 1)))) (vdBin addV (vdSl (vdVar 1) (vpYes (vdNeg (vdC (.int 1)))) vpNo) (vdSl (vdVar 1) (vpYes (vdC (.int 1))) vpNo)) (vdTup vaNil)))
    (vsSeq (vsAsg 5 false (vdBin addV (vdVar 5) (vdLst (vaCons (vdC .none) (vaCons (vdC (.int 0)) (vaCons vdDict (vaCons (vdC (.str "01")) (vaCons (vdVar 6) (vaCons (vdTup (vaCons (vdVar 1) vaNil)) (vaCons (vdLst (vaCons (vdVar 1) vaNil)) vaNil))))))))))
    (vsRet (vdIx (vdVar 5) (vdVar 2))))))))
def V_named : VF := vfnD 3 2 (vsSeq (vsDrop (vdCall V_must_stack (vaCons (vdVar 0) vaNil)))
    (vsSeq (vsDrop (vdCall V_must_names (vaCons (vdIx (vdVar 0) (vdC (.int 0))) (vaCons (vdVar 1) vaNil))))
    (vsRet (vdTup (vaCons (vdIx (vdVar 0) (vdC (.int 0))) (vaCons (vdIx (vdVar 0) (vdC (.int 1))) (vaCons (vdCB (vone tupleV) (vaCons (vdCB (vone sortV) (vaCons (vdLc (viSeq (vdIx (vdVar 0) (vdC (.int 2)))) [2] (vtgN 2) vtTrue (vdCall V_renamed (vaCons (vdVar 2) (vaCons (vdVar 1) vaNil)))) vaNil)) vaNil)) vaNil)))))))
def V_named_back : VF := vfnD 3 2 (vsSeq (vsDrop (vdCall V_must_stack (vaCons (vdVar 0) vaNil)))
    (vsSeq (vsDrop (vdCall V_must_names (vaCons (vdIx (vdVar 0) (vdC (.int 0))) (vaCons (vdVar 1) vaNil))))
    (vsRet (vdCB (vone tupleV) (vaCons (vdLc (viRange (vdIx (vdVar 0) (vdC (.int 0)))) [2] (vtgN 2) vtTrue (vdMs idxTV (vdVar 1) (vaCons (vdVar 2) vaNil))) vaNil)))))
def V_law_came_v21 : VF := vfnD 4 3 (vsTryK 3 (kindUL words_law_kind_of) (vsRet (vdTab [V_named, V_named_back] (vdVar 0) (vaCons (vdVar 1) (vaCons (vdVar 2) vaNil)))))
def W_law_k80_1 : VDS := (vsIf (vtOrD (vtNotD (vtst (vdCall (V_law_same_v2 8) (vaCons (vdCall V_law_came_v21 (vaCons (vdVar 10) (vaCons (vdVar 3) (vaCons (vdVar 4) vaNil)))) (vaCons (vdIx (vdVar 6) (vdVar 10)) vaNil))))) (vtst (vdBin neV (vdCB (vone repV) (vaCons (vdLst (vaCons (vdVar 3) (vaCons (vdVar 4) vaNil))) vaNil)) (vdVar 9)))) (vsRet (vdC (.bool false))) vsNext)
def W_law_k80_2 : VDS := (vsSeq (vsFor [3, 4, 6, 7, 8, 9, 10] (viRange (vdC (.int 2))) (vtgN 11) W_law_k80_1)
    (vsSeq (vsAsg 12 true (vdLst (vaCons (vdVar 8) (vaCons (vdBin addV (vdSl (vdVar 4) (vpYes (vdC (.int 1))) vpNo) (vdTup (vaCons (vdLst (vaCons (vdC (.int 0)) vaNil)) vaNil))) (vaCons (vdBin addV (vdSl (vdVar 4) (vpYes (vdC (.int 1))) vpNo) (vdTup (vaCons vdDict vaNil))) vaNil)))))
    (vsSeq (vsDrop (vdMt vappF (vdVar 12) (vaCons (vdCB (vone tupleV) (vaCons (vdLc (viSeq (vdVar 4)) [15] (vtgN 15) vtTrue (vdIx (vdLst (vaCons (vdVar 15) (vaCons (vdC (.bool false)) vaNil))) (vdCB (vone intV) (vaCons (vdBin eqV (vdVar 15) (vdC (.int 0))) vaNil)))) vaNil)) vaNil)))
    (vsSeq (vsIf (vtst (vdBin neV (vdLc (viSeq (vdVar 12)) [16] (vtgN 16) vtTrue (vdCall V_law_came_v21 (vaCons (vdVar 10) (vaCons (vdVar 3) (vaCons (vdVar 16) vaNil))))) (vdBin mulV (vdLst (vaCons (vdC (.str "names")) vaNil)) (vdC (.int 4))))) (vsRet (vdC (.bool false))) vsNext)
    (vsIf (vtst (vdBin neV (vdLst (vaCons (vdCall V_law_came_v21 (vaCons (vdVar 10) (vaCons (vdVar 7) (vaCons (vdVar 4) vaNil)))) (vaCons (vdCall V_law_came_v21 (vaCons (vdVar 10) (vaCons (vdVar 7) (vaCons (vdVar 8) vaNil)))) vaNil))) (vdBin mulV (vdLst (vaCons (vdC (.str "stack")) vaNil)) (vdC (.int 2))))) (vsRet (vdC (.bool false))) vsNext)))))
def W_law_k80_3 : VDS := (vsSeq (vsAsg 2 true (vdCall V_law_pen (vaCons (vdVar 1) vaNil)))
    (vsSeq (vsAsg 3 false (vdCall V_law_stack_v2 (vaCons (vdVar 2) (vaCons (vdC (.int 30)) vaNil))))
    (vsSeq (vsAsg 4 false (vdCall V_law_names (vaCons (vdVar 2) (vaCons (vdIx (vdVar 3) (vdC (.int 0))) vaNil))))
    (vsSeq (vsAsg 5 false (vdLc (viSeq (vdIx (vdVar 3) (vdC (.int 2)))) [13] (vtgN 13) vtTrue (vdCB (vone tupleV) (vaCons (vdCB (vone sortV) (vaCons (vdLc (viSeq (vdVar 13)) [14] (vtgN 14) vtTrue (vdIx (vdVar 4) (vdVar 14))) vaNil)) vaNil))))
    (vsSeq (vsAsg 6 false (vdLst (vaCons (vdCall V_law_made (vaCons (vdIx (vdVar 3) (vdC (.int 0))) (vaCons (vdIx (vdVar 3) (vdC (.int 1))) (vaCons (vdVar 5) vaNil)))) (vaCons (vdCB (vone tupleV) (vaCons (vdLc (viRange (vdIx (vdVar 3) (vdC (.int 0)))) [14] (vtgN 14) vtTrue (vdMs idxTV (vdVar 4) (vaCons (vdVar 14) vaNil))) vaNil)) vaNil))))
    (vsSeq (vsAsgT (vtgT [7, 8, 9]) (vdTup (vaCons (vdCall V_law_no_stack (vaCons (vdVar 2) (vaCons (vdVar 3) vaNil))) (vaCons (vdCall V_law_no_names (vaCons (vdVar 2) (vaCons (vdVar 4) vaNil))) (vaCons (vdCB (vone repV) (vaCons (vdLst (vaCons (vdVar 3) (vaCons (vdVar 4) vaNil))) vaNil)) vaNil)))))
    (vsFor [3, 4, 6, 7, 8, 9] (viRange (vdC (.int 2))) (vtgN 10) W_law_k80_2)))))))
def V_law_k80 : VF := vfnD 17 1 (vsSeq (vsFor [] (viSeq (vdBin addV (vdLst (vaCons (vdCall V_law_cell (vaCons (vdVar 0) (vaCons (vdC (.int 0)) vaNil))) vaNil)) (vdSl (vdVar 0) (vpYes (vdC (.int 1))) (vpYes (vdC (.int 6)))))) (vtgN 1) W_law_k80_3)
    (vsRet (vdC (.bool true))))
end Lw
set_option Elab.async false
set_option linter.all false
set_option maxRecDepth 100000
namespace Lw
open PySem PySem.Spec PyProof.Rows L2 Lf
theorem sm_is_whole : SimF F_is_whole V_is_whole := sim_fn (js_ret (j_and (j_isi (j_var 0)) (j_not (j_isi (j_var 0)))))
theorem sm_is_from : SimF F_is_from V_is_from := sim_fn (js_ret (j_and (j_call sm_is_whole (j_cons (j_var 0) j_nil)) (j_chain (j_var 1) (j_var 0) (j_var 2))))
theorem sm_are_rising : SimF F_are_rising V_are_rising := sim_fn (js_seq (js_if (j_tor (j_tnot (j_tst (j_isi (j_var 1)))) (j_tnot (j_tst (j_cb (cb_one _) (j_cons (j_lc (j_seq (j_var 1)) (tgr_n 2) (by decide) j_true (j_call sm_is_from (j_cons (j_var 2) (j_cons (j_c _) (j_cons (j_bin (j_var 0) (j_c _)) j_nil))))) j_nil))))) (js_ret (j_c _)) js_next) (js_ret (j_cb (cb_one _) (j_cons (j_lc (j_zip (j_cons (j_var 1) (j_cons (j_sl (j_var 1) (j_pyes (j_c _)) j_pno) j_nil))) (tgr_t [2, 3]) (by decide) j_true (j_bin (j_var 2) (j_var 3))) j_nil))))
theorem sm_are_faces : SimF F_are_faces V_are_faces := sim_fn (js_seq (js_if (j_tor (j_tnot (j_tst (j_isi (j_var 2)))) (j_tnot (j_tst (j_chain (j_c _) (j_cb (cb_one _) (j_cons (j_var 2) j_nil)) (j_c _))))) (js_ret (j_c _)) js_next) (js_seq (js_if (j_tnot (j_tst (j_cb (cb_one _) (j_cons (j_lc (j_seq (j_var 2)) (tgr_n 3) (by decide) j_true (j_and (j_call sm_are_rising (j_cons (j_var 0) (j_cons (j_var 3) j_nil))) (j_bin (j_cb (cb_one _) (j_cons (j_var 3) j_nil)) (j_var 1)))) j_nil)))) (js_ret (j_c _)) js_next) (js_ret (j_cb (cb_one _) (j_cons (j_lc (j_zip (j_cons (j_var 2) (j_cons (j_sl (j_var 2) (j_pyes (j_c _)) j_pno) j_nil))) (tgr_t [4, 5]) (by decide) j_true (j_bin (j_var 4) (j_var 5))) j_nil)))))
theorem sm_is_stack : SimF F_is_stack V_is_stack := sim_fn (js_seq (js_if (j_tor (j_tnot (j_tst (j_isi (j_var 0)))) (j_tst (j_bin (j_cb (cb_one _) (j_cons (j_var 0) j_nil)) (j_c _)))) (js_ret (j_c _)) js_next) (js_seq (js_asgT (tgr_t [1, 2, 3]) (j_var 0)) (js_seq (js_if (j_tor (j_tnot (j_tst (j_call sm_is_from (j_cons (j_var 1) (j_cons (j_c _) (j_cons (j_c _) j_nil)))))) (j_tnot (j_tst (j_call sm_is_from (j_cons (j_var 2) (j_cons (j_c _) (j_cons (j_cb (cb_two _) (j_cons (j_var 1) (j_cons (j_c _) j_nil))) j_nil))))))) (js_ret (j_c _)) js_next) (js_ret (j_call sm_are_faces (j_cons (j_var 1) (j_cons (j_var 2) (j_cons (j_var 3) j_nil))))))))
theorem sm_must_stack : SimF F_must_stack V_must_stack := sim_fn (js_if (j_tnot (j_tst (j_call sm_is_stack (j_cons (j_var 0) j_nil)))) (js_raise) js_next)
theorem sm_must_names : SimF F_must_names V_must_names := sim_fn (js_seq (js_if (j_tor (j_tnot (j_tst (j_isi (j_var 1)))) (j_tnot (j_tst (j_cb (cb_one _) (j_cons (j_lc (j_seq (j_var 1)) (tgr_n 2) (by decide) j_true (j_call sm_is_whole (j_cons (j_var 2) j_nil))) j_nil))))) (js_raise) js_next) (js_if (j_tst (j_bin (j_cb (cb_one _) (j_cons (j_var 1) j_nil)) (j_lstRg (j_var 0)))) (js_raise) js_next))
theorem sm_renamed : SimF F_renamed V_renamed := sim_fn (js_ret (j_cb (cb_one _) (j_cons (j_cb (cb_one _) (j_cons (j_lc (j_seq (j_var 0)) (tgr_n 2) (by decide) j_true (j_ix (j_var 1) (j_var 2))) j_nil)) j_nil)))
theorem sm_named : SimF F_named V_named := sim_fn (js_seq (js_drop (j_call sm_must_stack (j_cons (j_var 0) j_nil))) (js_seq (js_drop (j_call sm_must_names (j_cons (j_ix (j_var 0) (j_c _)) (j_cons (j_var 1) j_nil)))) (js_ret (j_tup (j_cons (j_ix (j_var 0) (j_c _)) (j_cons (j_ix (j_var 0) (j_c _)) (j_cons (j_cb (cb_one _) (j_cons (j_cb (cb_one _) (j_cons (j_lc (j_seq (j_ix (j_var 0) (j_c _))) (tgr_n 2) (by decide) j_true (j_call sm_renamed (j_cons (j_var 2) (j_cons (j_var 1) j_nil)))) j_nil)) j_nil)) j_nil)))))))
theorem sm_named_back : SimF F_named_back V_named_back := sim_fn (js_seq (js_drop (j_call sm_must_stack (j_cons (j_var 0) j_nil))) (js_seq (js_drop (j_call sm_must_names (j_cons (j_ix (j_var 0) (j_c _)) (j_cons (j_var 1) j_nil)))) (js_ret (j_cb (cb_one _) (j_cons (j_lc (j_range (j_ix (j_var 0) (j_c _))) (tgr_n 2) (by decide) j_true (j_ms (j_var 1) (j_cons (j_var 2) j_nil))) j_nil)))))
theorem sm_law_cell : SimF F_law_cell V_law_cell := sim_fn (js_seq (js_if (j_tst (j_bin (j_var 1) (j_cb (cb_one _) (j_cons (j_var 0) j_nil)))) (js_ret (j_ix (j_var 0) (j_var 1))) js_next) (js_ret (j_c _)))
theorem sm_law_pen : SimF F_law_pen V_law_pen := sim_fn (js_ret (j_lst (j_cons (j_var 0) (j_cons (j_cb (cb_one _) (j_cons (j_bin (j_var 0) (j_bin (j_c _) (j_c _))) j_nil)) j_nil))))
theorem sm_law_draw : SimF F_law_draw V_law_draw := sim_fn (js_seq (js_if (j_tst (j_bin (j_ix (j_var 0) (j_c _)) (j_c _))) (js_seq (js_asg (j_bin (j_ix (j_var 0) (j_c _)) (j_var 1))) (js_seq (js_set (j_bin (j_ix (j_var 0) (j_c _)) (j_var 1)) (j_var 0) (j_c _)) (js_ret (j_var 2)))) js_next) (js_seq (js_set (j_bin (j_bin (j_bin (j_bin (j_ix (j_var 0) (j_c _)) (j_c _)) (j_c _)) (j_c _)) (j_c _)) (j_var 0) (j_c _)) (js_ret (j_bin (j_bin (j_bin (j_bin (j_bin (j_ix (j_var 0) (j_c _)) (j_ix (j_var 0) (j_c _))) (j_bin (j_c _) (j_ix (j_var 0) (j_c _)))) (j_c _)) (j_c _)) (j_var 1)))))
theorem sm_law_same_v2 : ∀ n, SimF (F_law_same_v2 n) (V_law_same_v2 n)
  | 0 => sim_bad
  | n + 1 => sim_fn (js_seq (js_if (j_tst (j_isN (j_var 1))) (js_ret (j_isN (j_var 0))) js_next) (js_seq (js_if (j_tor (j_tst (j_isi (j_var 1))) (j_tst (j_isi (j_var 1)))) (js_seq (js_if (j_tor (j_tst (j_bin (j_isi (j_var 0)) (j_isi (j_var 1)))) (j_tst (j_bin (j_isi (j_var 0)) (j_isi (j_var 1))))) (js_ret (j_c _)) js_next) (js_seq (js_if (j_tst (j_bin (j_cb (cb_one _) (j_cons (j_var 0) j_nil)) (j_cb (cb_one _) (j_cons (j_var 1) j_nil)))) (js_ret (j_c _)) js_next) (js_seq (js_for (j_zip (j_cons (j_var 0) (j_cons (j_var 1) j_nil))) (tgr_t [2, 3]) (js_if (j_tnot (j_tst (j_call (sm_law_same_v2 n) (j_cons (j_var 2) (j_cons (j_var 3) j_nil))))) (js_ret (j_c _)) js_next)) (js_ret (j_c _))))) js_next) (js_seq (js_if (j_tst (j_isi (j_var 1))) (js_ret (j_and (j_isi (j_var 0)) (j_bin (j_var 0) (j_var 1)))) js_next) (js_ret (j_and (j_bin (j_isi (j_var 0)) (j_isi (j_var 1))) (j_and (j_isi (j_var 0)) (j_bin (j_var 0) (j_var 1))))))))
theorem sm_law_every : SimF F_law_every V_law_every := sim_fn (js_seq (js_asg (j_lst (j_cons (j_tup j_nil) j_nil))) (js_seq (js_for (j_range (j_var 0)) (tgr_n 3) (js_asg (j_bin (j_var 2) (j_lc (j_seq (j_var 2)) (tgr_n 4) (by decide) j_true (j_bin (j_var 4) (j_tup (j_cons (j_var 3) j_nil))))))) (js_ret (j_cb (cb_one _) (j_cons (j_lc (j_seq (j_var 2)) (tgr_n 4) (by decide) (j_tst (j_bin (j_cb (cb_one _) (j_cons (j_var 4) j_nil)) (j_var 1))) (j_var 4)) j_nil)))))
theorem sm_law_size : SimF F_law_size V_law_size := sim_fn (js_seq (js_asg (j_ix (j_lst (j_cons (j_c _) (j_cons (j_c _) (j_cons (j_c _) (j_cons (j_c _) (j_cons (j_c _) (j_cons (j_c _) (j_cons (j_c _) (j_cons (j_c _) j_nil))))))))) (j_call sm_law_draw (j_cons (j_var 0) (j_cons (j_c _) j_nil))))) (js_ret (j_tup (j_cons (j_bin (j_cb (cb_two _) (j_cons (j_c _) (j_cons (j_var 1) j_nil))) (j_call sm_law_draw (j_cons (j_var 0) (j_cons (j_bin (j_c _) (j_cb (cb_two _) (j_cons (j_c _) (j_cons (j_var 1) j_nil)))) j_nil)))) (j_cons (j_var 1) j_nil)))))
theorem sm_law_made : SimF F_law_made V_law_made := sim_fn (js_ret (j_tup (j_cons (j_var 0) (j_cons (j_var 1) (j_cons (j_cb (cb_one _) (j_cons (j_cb (cb_one _) (j_cons (j_var 2) j_nil)) j_nil)) j_nil)))))
theorem sm_law_drawn : SimF F_law_drawn V_law_drawn := sim_fn (js_seq (js_asg (j_call sm_law_every (j_cons (j_var 1) (j_cons (j_var 2) j_nil)))) (js_seq (js_asg (j_bin (j_c _) (j_call sm_law_draw (j_cons (j_var 0) (j_cons (j_cb (cb_two _) (j_cons (j_var 3) (j_cons (j_cb (cb_one _) (j_cons (j_var 4) j_nil)) j_nil))) j_nil))))) (js_ret (j_lc (j_range (j_var 5)) (tgr_n 6) (by decide) j_true (j_mt mt_pop (j_var 4) (j_cons (j_call sm_law_draw (j_cons (j_var 0) (j_cons (j_cb (cb_one _) (j_cons (j_var 4) j_nil)) j_nil))) j_nil))))))
theorem sm_law_common : SimF F_law_common V_law_common := sim_fn (js_ret (j_lc (j_seq (j_var 0)) (tgr_n 2) (by decide) (j_tst (j_bin (j_var 2) (j_var 1))) (j_var 2)))
theorem sm_law_may_v2 : SimF F_law_may_v2 V_law_may_v2 := sim_fn (js_seq (js_asg (j_lc (j_seq (j_var 0)) (tgr_n 5) (by decide) (j_tst (j_bin (j_cb (cb_one _) (j_cons (j_call sm_law_common (j_cons (j_var 1) (j_cons (j_var 5) j_nil))) j_nil)) (j_bin (j_cb (cb_one _) (j_cons (j_var 1) j_nil)) (j_c _)))) (j_var 5))) (js_seq (js_for (j_seq (j_var 0)) (tgr_n 3) (js_seq (js_asg (j_call sm_law_common (j_cons (j_var 1) (j_cons (j_var 3) j_nil)))) (js_if (j_tst (j_bin (j_lc (j_seq (j_var 2)) (tgr_n 5) (by decide) (j_tst (j_bin (j_cb (cb_one _) (j_cons (j_call sm_law_common (j_cons (j_var 4) (j_cons (j_var 5) j_nil))) j_nil)) (j_cb (cb_one _) (j_cons (j_var 4) j_nil)))) (j_var 5)) (j_lst j_nil))) (js_ret (j_c _)) js_next))) (js_ret (j_c _))))
theorem sm_law_grown : SimF F_law_grown V_law_grown := sim_fn (js_seq (js_asg (j_call sm_law_every (j_cons (j_var 1) (j_cons (j_var 2) j_nil)))) (js_seq (js_asg (j_bin (j_c _) (j_call sm_law_draw (j_cons (j_var 0) (j_cons (j_var 3) j_nil))))) (js_seq (js_asg (j_lst (j_cons (j_mt mt_pop (j_var 4) (j_cons (j_call sm_law_draw (j_cons (j_var 0) (j_cons (j_cb (cb_one _) (j_cons (j_var 4) j_nil)) j_nil))) j_nil)) j_nil))) (js_seq (js_for (j_range (j_bin (j_c _) (j_var 3))) (tgr_n 7) (js_if (j_tand (j_tst (j_bin (j_var 4) (j_lst j_nil))) (j_tst (j_bin (j_cb (cb_one _) (j_cons (j_var 6) j_nil)) (j_var 5)))) (js_seq (js_asg (j_mt mt_pop (j_var 4) (j_cons (j_call sm_law_draw (j_cons (j_var 0) (j_cons (j_cb (cb_one _) (j_cons (j_var 4) j_nil)) j_nil))) j_nil))) (js_if (j_tst (j_call sm_law_may_v2 (j_cons (j_var 6) (j_cons (j_var 8) j_nil)))) (js_drop (j_mt mt_app (j_var 6) (j_cons (j_var 8) j_nil))) js_next)) js_next)) (js_ret (j_var 6))))))
theorem sm_law_pairs : SimF F_law_pairs V_law_pairs := sim_fn (js_seq (js_asg (j_lst (j_cons (j_tup j_nil) j_nil))) (js_seq (js_for (j_range (j_var 0)) (tgr_n 2) (js_asg (j_bin (j_lc (j_seq (j_var 1)) (tgr_n 3) (by decide) j_true (j_bin (j_var 3) (j_tup (j_cons (j_bin (j_c _) (j_var 2)) j_nil)))) (j_lc (j_seq (j_var 1)) (tgr_n 3) (by decide) j_true (j_bin (j_var 3) (j_tup (j_cons (j_bin (j_bin (j_c _) (j_var 2)) (j_c _)) j_nil))))))) (js_ret (j_cb (cb_one _) (j_cons (j_var 1) j_nil)))))
theorem sm_law_kindly : SimF F_law_kindly V_law_kindly := sim_fn (js_seq (js_par (by decide) (j_call sm_law_draw (j_cons (j_var 0) (j_cons (j_c _) j_nil))) (j_call sm_law_draw (j_cons (j_var 0) (j_cons (j_c _) j_nil)))) (js_seq (js_if (j_tst (j_bin (j_var 2) (j_c _))) (js_seq (js_asgT (tgr_t [4, 5]) (j_ix (j_lst (j_cons (j_tup (j_cons (j_c _) (j_cons (j_c _) j_nil))) (j_cons (j_tup (j_cons (j_c _) (j_cons (j_c _) j_nil))) (j_cons (j_tup (j_cons (j_c _) (j_cons (j_c _) j_nil))) (j_cons (j_tup (j_cons (j_c _) (j_cons (j_c _) j_nil))) (j_cons (j_tup (j_cons (j_c _) (j_cons (j_c _) j_nil))) (j_cons (j_tup (j_cons (j_c _) (j_cons (j_c _) j_nil))) j_nil))))))) (j_var 3))) (js_ret (j_call sm_law_made (j_cons (j_var 4) (j_cons (j_var 5) (j_cons (j_sl (j_call sm_law_every (j_cons (j_var 4) (j_cons (j_var 5) j_nil))) j_pno (j_pyes (j_var 1))) j_nil)))))) js_next) (js_seq (js_if (j_tst (j_bin (j_var 2) (j_c _))) (js_ret (j_call sm_law_made (j_cons (j_bin (j_c _) (j_bin (j_c _) (j_bin (j_var 3) (j_c _)))) (j_cons (j_bin (j_c _) (j_bin (j_var 3) (j_c _))) (j_cons (j_sl (j_call sm_law_pairs (j_cons (j_bin (j_c _) (j_bin (j_var 3) (j_c _))) j_nil)) j_pno (j_pyes (j_var 1))) j_nil))))) js_next) (js_seq (js_asg (j_lc (j_range (j_bin (j_c _) (j_var 3))) (tgr_n 7) (by decide) j_true (j_tup (j_cons (j_var 7) (j_cons (j_bin (j_var 7) (j_c _)) j_nil))))) (js_seq (js_if (j_tst (j_bin (j_var 2) (j_c _))) (js_asg (j_cb (cb_one _) (j_cons (j_bin (j_var 6) (j_lst (j_cons (j_tup (j_cons (j_c _) (j_cons (j_bin (j_c _) (j_var 3)) j_nil))) j_nil))) j_nil))) js_next) (js_ret (j_call sm_law_made (j_cons (j_bin (j_c _) (j_var 3)) (j_cons (j_c _) (j_cons (j_sl (j_var 6) j_pno (j_pyes (j_var 1))) j_nil))))))))))
theorem sm_law_stack_v2 : SimF F_law_stack_v2 V_law_stack_v2 := sim_fn (js_seq (js_asg (j_call sm_law_draw (j_cons (j_var 0) (j_cons (j_c _) j_nil)))) (js_seq (js_asgT (tgr_t [3, 4]) (j_call sm_law_size (j_cons (j_var 0) j_nil))) (js_seq (js_if (j_tst (j_bin (j_var 2) (j_c _))) (js_ret (j_call sm_law_kindly (j_cons (j_var 0) (j_cons (j_var 1) j_nil)))) js_next) (js_seq (js_if (j_tst (j_bin (j_var 2) (j_c _))) (js_ret (j_call sm_law_made (j_cons (j_var 3) (j_cons (j_var 4) (j_cons (j_call sm_law_drawn (j_cons (j_var 0) (j_cons (j_var 3) (j_cons (j_var 4) (j_cons (j_var 1) j_nil))))) j_nil))))) js_next) (js_ret (j_call sm_law_made (j_cons (j_var 3) (j_cons (j_var 4) (j_cons (j_call sm_law_grown (j_cons (j_var 0) (j_cons (j_var 3) (j_cons (j_var 4) (j_cons (j_var 1) j_nil))))) j_nil)))))))))
theorem sm_law_no_stack : SimF F_law_no_stack V_law_no_stack := sim_fn (js_seq (js_asgT (tgr_t [2, 3, 4]) (j_var 1)) (js_seq (js_asgT (tgr_t [5, 6, 7]) (j_tup (j_cons (j_call sm_law_draw (j_cons (j_var 0) (j_cons (j_c _) j_nil))) (j_cons (j_call sm_law_draw (j_cons (j_var 0) (j_cons (j_cb (cb_one _) (j_cons (j_var 4) j_nil)) j_nil))) (j_cons (j_call sm_law_draw (j_cons (j_var 0) (j_cons (j_cb (cb_two _) (j_cons (j_c _) (j_cons (j_var 3) j_nil))) j_nil))) j_nil))))) (js_seq (js_asg (j_ix (j_lst (j_cons (j_c _) (j_cons (j_c _) (j_cons (j_neg (j_c _)) (j_cons (j_var 2) (j_cons (j_c _) (j_cons (j_tup (j_cons (j_c _) j_nil)) (j_cons (j_bin (j_c _) (j_c _)) j_nil)))))))) (j_call sm_law_draw (j_cons (j_var 0) (j_cons (j_c _) j_nil))))) (js_seq (js_asg (j_ix (j_var 4) (j_var 6))) (js_seq (js_par (by decide) (j_sl (j_var 4) j_pno (j_pyes (j_var 6))) (j_sl (j_var 4) (j_pyes (j_bin (j_var 6) (j_c _))) j_pno)) (js_seq (js_asg (j_bin (j_bin (j_sl (j_var 9) j_pno (j_pyes (j_var 7))) (j_tup (j_cons (j_var 8) j_nil))) (j_sl (j_var 9) (j_pyes (j_bin (j_var 7) (j_c _))) j_pno))) (js_seq (js_asg (j_lst (j_cons (j_tup (j_cons (j_var 2) (j_cons (j_var 3) (j_cons (j_bin (j_bin (j_var 10) (j_tup (j_cons (j_var 12) j_nil))) (j_var 11)) j_nil)))) (j_cons (j_tup (j_cons (j_var 2) (j_cons (j_var 3) (j_cons (j_bin (j_bin (j_var 10) (j_tup (j_cons (j_cb (cb_one _) (j_cons (j_var 9) j_nil)) j_nil))) (j_var 11)) j_nil)))) j_nil)))) (js_seq (js_asg (j_bin (j_var 13) (j_lst (j_cons (j_tup (j_cons (j_var 2) (j_cons (j_var 3) (j_cons (j_bin (j_bin (j_var 10) (j_tup (j_cons (j_var 9) (j_cons (j_var 9) j_nil)))) (j_var 11)) j_nil)))) (j_cons (j_tup (j_cons (j_var 2) (j_cons (j_var 3) (j_cons (j_bin (j_var 4) (j_sl (j_var 4) j_pno (j_pyes (j_c _)))) j_nil)))) (j_cons (j_tup (j_cons (j_var 2) (j_cons (j_var 3) (j_cons (j_cb (cb_one _) (j_cons (j_var 4) j_nil)) j_nil)))) j_nil)))))) (js_seq (js_asg (j_bin (j_var 13) (j_lst (j_cons (j_tup (j_cons (j_var 2) (j_cons (j_var 3) (j_cons (j_tup j_nil) j_nil)))) (j_cons (j_tup (j_cons (j_c _) (j_cons (j_var 3) (j_cons (j_var 4) j_nil)))) (j_cons (j_tup (j_cons (j_c _) (j_cons (j_var 3) (j_cons (j_var 4) j_nil)))) j_nil)))))) (js_seq (js_asg (j_bin (j_var 13) (j_lst (j_cons (j_tup (j_cons (j_var 2) (j_cons (j_c _) (j_cons (j_var 4) j_nil)))) (j_cons (j_tup (j_cons (j_var 2) (j_cons (j_bin (j_var 3) (j_c _)) (j_cons (j_var 4) j_nil)))) (j_cons (j_tup (j_cons (j_var 2) (j_cons (j_bin (j_var 3) (j_c _)) (j_cons (j_var 4) j_nil)))) (j_cons (j_tup (j_cons (j_c _) (j_cons (j_var 3) (j_cons (j_var 4) j_nil)))) (j_cons (j_tup (j_cons (j_var 2) (j_cons (j_c _) (j_cons (j_var 4) j_nil)))) j_nil)))))))) (js_ret (j_ix (j_bin (j_var 13) (j_lst (j_cons (j_lst (j_cons (j_var 2) (j_cons (j_var 3) (j_cons (j_var 4) j_nil)))) (j_cons (j_tup (j_cons (j_var 2) (j_cons (j_var 3) j_nil))) (j_cons (j_c _) (j_cons (j_tup (j_cons (j_var 2) (j_cons (j_var 3) (j_cons (j_var 4) (j_cons (j_c _) j_nil))))) (j_cons (j_c _) (j_cons (j_c _) (j_cons j_dict j_nil))))))))) (j_var 5)))))))))))))
theorem sm_law_names : SimF F_law_names V_law_names := sim_fn (js_seq (js_asg (j_lstRg (j_var 1))) (js_ret (j_cb (cb_one _) (j_cons (j_lc (j_range (j_var 1)) (tgr_n 3) (by decide) j_true (j_mt mt_pop (j_var 2) (j_cons (j_call sm_law_draw (j_cons (j_var 0) (j_cons (j_cb (cb_one _) (j_cons (j_var 2) j_nil)) j_nil))) j_nil))) j_nil))))
theorem sm_law_no_names : SimF F_law_no_names V_law_no_names := sim_fn (js_seq (js_par (by decide) (j_call sm_law_draw (j_cons (j_var 0) (j_cons (j_c _) j_nil))) (j_call sm_law_draw (j_cons (j_var 0) (j_cons (j_cb (cb_one _) (j_cons (j_var 1) j_nil)) j_nil)))) (js_seq (js_asg (j_ix (j_lst (j_cons (j_cb (cb_one _) (j_cons (j_var 1) j_nil)) (j_cons (j_neg (j_c _)) (j_cons (j_c _) (j_cons (j_c _) (j_cons (j_c _) (j_cons (j_tup (j_cons (j_c _) j_nil)) (j_cons (j_bin (j_c _) (j_c _)) j_nil)))))))) (j_call sm_law_draw (j_cons (j_var 0) (j_cons (j_c _) j_nil))))) (js_seq (js_asg (j_lst (j_cons (j_bin (j_bin (j_sl (j_var 1) j_pno (j_pyes (j_var 3))) (j_tup (j_cons (j_var 4) j_nil))) (j_sl (j_var 1) (j_pyes (j_bin (j_var 3) (j_c _))) j_pno)) (j_cons (j_sl (j_var 1) j_pno (j_pyes (j_neg (j_c _)))) (j_cons (j_bin (j_var 1) (j_tup (j_cons (j_cb (cb_one _) (j_cons (j_var 1) j_nil)) j_nil))) (j_cons (j_cb (cb_one _) (j_cons (j_var 1) j_nil)) (j_cons (j_bin (j_var 1) (j_sl (j_var 1) j_pno (j_pyes (j_c _)))) j_nil))))))) (js_seq (js_asg (j_if (j_tst (j_bin (j_cb (cb_one _) (j_cons (j_var 1) j_nil)) (j_c _))) (j_bin (j_sl (j_var 1) (j_pyes (j_neg (j_c _))) j_pno) (j_sl (j_var 1) (j_pyes (j_c _)) j_pno)) (j_tup j_nil))) (js_seq (js_asg (j_bin (j_var 5) (j_lst (j_cons (j_c _) (j_cons (j_c _) (j_cons j_dict (j_cons (j_c _) (j_cons (j_var 6) (j_cons (j_tup (j_cons (j_var 1) j_nil)) (j_cons (j_lst (j_cons (j_var 1) j_nil)) j_nil)))))))))) (js_ret (j_ix (j_var 5) (j_var 2))))))))
theorem sm_law_came_v21 : SimF F_law_came_v21 V_law_came_v21 := sim_fn (js_tryL (js_ret (j_tab (.cons sm_named (.cons sm_named_back .nil)) (j_var 0) (j_cons (j_var 1) (j_cons (j_var 2) j_nil)))))
theorem sm_law : SimF F_law V_law_k80 := sim_fn (js_seq (js_for (j_seq (j_bin (j_lst (j_cons (j_call sm_law_cell (j_cons (j_var 0) (j_cons (j_c _) j_nil))) j_nil)) (j_sl (j_var 0) (j_pyes (j_c _)) (j_pyes (j_c _))))) (tgr_n 1) (js_seq (js_asg (j_call sm_law_pen (j_cons (j_var 1) j_nil))) (js_seq (js_asg (j_call sm_law_stack_v2 (j_cons (j_var 2) (j_cons (j_c _) j_nil)))) (js_seq (js_asg (j_call sm_law_names (j_cons (j_var 2) (j_cons (j_ix (j_var 3) (j_c _)) j_nil)))) (js_seq (js_asg (j_lc (j_seq (j_ix (j_var 3) (j_c _))) (tgr_n 13) (by decide) j_true (j_cb (cb_one _) (j_cons (j_cb (cb_one _) (j_cons (j_lc (j_seq (j_var 13)) (tgr_n 14) (by decide) j_true (j_ix (j_var 4) (j_var 14))) j_nil)) j_nil)))) (js_seq (js_asg (j_lst (j_cons (j_call sm_law_made (j_cons (j_ix (j_var 3) (j_c _)) (j_cons (j_ix (j_var 3) (j_c _)) (j_cons (j_var 5) j_nil)))) (j_cons (j_cb (cb_one _) (j_cons (j_lc (j_range (j_ix (j_var 3) (j_c _))) (tgr_n 14) (by decide) j_true (j_ms (j_var 4) (j_cons (j_var 14) j_nil))) j_nil)) j_nil)))) (js_seq (js_asgT (tgr_t [7, 8, 9]) (j_tup (j_cons (j_call sm_law_no_stack (j_cons (j_var 2) (j_cons (j_var 3) j_nil))) (j_cons (j_call sm_law_no_names (j_cons (j_var 2) (j_cons (j_var 4) j_nil))) (j_cons (j_cb (cb_one _) (j_cons (j_lst (j_cons (j_var 3) (j_cons (j_var 4) j_nil))) j_nil)) j_nil))))) (js_for (j_range (j_c _)) (tgr_n 10) (js_seq (js_for (j_range (j_c _)) (tgr_n 11) (js_if (j_tor (j_tnot (j_tst (j_call (sm_law_same_v2 8) (j_cons (j_call sm_law_came_v21 (j_cons (j_var 10) (j_cons (j_var 3) (j_cons (j_var 4) j_nil)))) (j_cons (j_ix (j_var 6) (j_var 10)) j_nil))))) (j_tst (j_bin (j_cb (cb_one _) (j_cons (j_lst (j_cons (j_var 3) (j_cons (j_var 4) j_nil))) j_nil)) (j_var 9)))) (js_ret (j_c _)) js_next)) (js_seq (js_asg (j_lst (j_cons (j_var 8) (j_cons (j_bin (j_sl (j_var 4) (j_pyes (j_c _)) j_pno) (j_tup (j_cons (j_lst (j_cons (j_c _) j_nil)) j_nil))) (j_cons (j_bin (j_sl (j_var 4) (j_pyes (j_c _)) j_pno) (j_tup (j_cons j_dict j_nil))) j_nil))))) (js_seq (js_drop (j_mt mt_app (j_var 12) (j_cons (j_cb (cb_one _) (j_cons (j_lc (j_seq (j_var 4)) (tgr_n 15) (by decide) j_true (j_ix (j_lst (j_cons (j_var 15) (j_cons (j_c _) j_nil))) (j_cb (cb_one _) (j_cons (j_bin (j_var 15) (j_c _)) j_nil)))) j_nil)) j_nil))) (js_seq (js_if (j_tst (j_bin (j_lc (j_seq (j_var 12)) (tgr_n 16) (by decide) j_true (j_call sm_law_came_v21 (j_cons (j_var 10) (j_cons (j_var 3) (j_cons (j_var 16) j_nil))))) (j_bin (j_lst (j_cons (j_c _) j_nil)) (j_c _)))) (js_ret (j_c _)) js_next) (js_if (j_tst (j_bin (j_lst (j_cons (j_call sm_law_came_v21 (j_cons (j_var 10) (j_cons (j_var 7) (j_cons (j_var 4) j_nil)))) (j_cons (j_call sm_law_came_v21 (j_cons (j_var 10) (j_cons (j_var 7) (j_cons (j_var 8) j_nil)))) j_nil))) (j_bin (j_lst (j_cons (j_c _) j_nil)) (j_c _)))) (js_ret (j_c _)) js_next))))))))))))) (js_ret (j_c _)))
end Lw
set_option Elab.async false
set_option linter.all false
set_option maxRecDepth 100000
set_option maxHeartbeats 1000000
namespace Lw
open PySem PySem.Spec PyProof.Rows L2 Lf Pu
@[simp] def isW : PyData → Bool
  | .int _ => true
  | _ => false
theorem E_is_whole (x : PyData) : V_is_whole [.d x] = .ok (.d (.bool (isW x))) [none] := by
  refine vfn_eval rfl rfl ?_
  cases x <;> simp
theorem E_is_from (x lo hi : Int) : V_is_from [.d (.int x), .d (.int lo), .d (.int hi)] = .ok (.d (.bool (decide (lo ≤ x) && decide (x ≤ hi)))) [none, none, none] := by
  refine vfn_eval rfl rfl ?_
  by_cases h : lo ≤ x <;> simp [E_is_whole, h]
theorem E_must_from {x lo hi : Int} (h : lo ≤ x ∧ x ≤ hi) : V_must_from [.d (.int x), .d (.int lo), .d (.int hi)] = .ok (.d .none) [none, none, none] := by
  refine vfn_eval rfl rfl ?_
  simp [E_is_from, h]
theorem within_dec {p f : List Int} : within p f = p.all fun a => decide (a ∈ f) := by simp [within]
theorem E_within {p f : List Int} (hp : p.length ≤ sizeLine) : V_within [.d (tI p), .d (tI f)] = .ok (.d (.bool (within p f))) [none, none] := by
  refine vfn_eval rfl rfl ?_
  simp
  rw [vlc_mapB PyData.int p (fun a => decide (a ∈ f)) ?hi hp ?hc ?h]
  case hi => rfl
  case hc => rfl
  case h => exact fun a _ => ⟨_, rfl, rfl, by simp⟩
  simp [within_dec]
theorem E_withinL {p f : List Int} (hp : p.length ≤ sizeLine) : V_within [.d (lI p), .d (tI f)] = .ok (.d (.bool (within p f))) [none, none] := by
  refine vfn_eval rfl rfl ?_
  simp
  rw [vlc_mapB PyData.int p (fun a => decide (a ∈ f)) ?hi hp ?hc ?h]
  case hi => rfl
  case hc => rfl
  case h => exact fun a _ => ⟨_, rfl, rfl, by simp⟩
  simp [within_dec]
theorem E_law_within {p f : List Int} (hp : p.length ≤ sizeLine) : V_law_within [.d (tI p), .d (tI f)] = .ok (.d (.bool (within p f))) [none, none] := by
  refine vfn_eval rfl rfl ?_
  simp
  rw [vlc_filterI p (fun a => !decide (a ∈ f)) ?hi hp ?hc ?h]
  case hi => rfl
  case hc => rfl
  case h => exact fun a _ => ⟨_, rfl, rfl, by simp, by simp⟩
  simp [within_dec]
  rw [Bool.eq_iff_iff]
  simp
def pen (c b : Int) : PyData := .list [.int c, .int b]
@[simp] theorem unlO_pen (c b : Int) : unlO (some (pen c b)) = some (pen c b) := rfl
@[simp] theorem isLk_pen (c b : Int) : isLk (pen c b) = false := rfl
theorem E_law_draw {c b n : Int} (h0 : 0 < n) (h1 : n < 2 ^ 64) : ∃ v c', 0 ≤ v ∧ v < n ∧ V_law_draw [.p (pen c b), .d (.int n)] = .ok (.d (.int v)) [some (.p (pen c' b)), none] := by
  by_cases hb : b = 1
  · subst hb
    refine ⟨c % n, c / n, Int.emod_nonneg _ (by omega), Int.emod_lt_of_pos _ h0, vfn_eval rfl rfl ?_⟩
    simp [pen, modV_i h0, fdivV_i ⟨h0, h1⟩]
  · generalize hp : (c % 2147483629 * 48271 + 11) % 2147483629 = p
    have hp1 : p.natAbs < 2 ^ 64 := by omega
    refine ⟨(p * p + 40692 * p) % 2147483647 / 8 % n, p, Int.emod_nonneg _ (by omega), Int.emod_lt_of_pos _ h0, vfn_eval rfl rfl ?_⟩
    simp [pen, modV_i h0, fdivV_i, modV_i, hb, hp, mulV_i (.inl hp1), mulV_i (a := 40692) (b := p) (.inr hp1), mulV_i (a := c % 2147483629) (b := 48271) (.inr (by decide))]
theorem E_law_cell (ns : List Int) : ∃ c : Int, V_law_cell [.k (ns.map .int), .d (.int 0)] = .ok (.d (.int c)) [none, none] := by
  cases ns with
  | nil => exact ⟨0, vfn_eval rfl rfl (by simp)⟩
  | cons c r => exact ⟨c, vfn_eval rfl rfl (by simp)⟩
theorem E_law_pen (c : Int) : ∃ b : Int, V_law_pen [.d (.int c)] = .ok (.o (pen c b)) [none] := by
  refine ⟨if (10 : Int) ^ 18 ≤ c then 1 else 0, vfn_eval rfl rfl ?_⟩
  have hp : powV (.int 10) (.int 18) = some (vI (10 ^ 18)) := powV_i (by decide)
  by_cases h : (10 : Int) ^ 18 ≤ c <;> simp [pen, h, hp, sizeLine]
theorem length_grow (m : Int) (found : List (List Int)) (x : Int) : (grow m found x).length ≤ 2 * found.length := by
  unfold grow
  have := List.length_filter_le (fun o : List Int => decide ((o.length : Int) < m)) found
  simp
  omega
theorem length_fold (m : Int) : ∀ (row : List Int) (found : List (List Int)), (row.foldl (grow m) found).length ≤ 2 ^ row.length * found.length
  | [], found => by simp
  | x :: row, found => by
    rw [List.foldl_cons, List.length_cons, Nat.pow_succ]
    have h1 := length_fold m row (grow m found x)
    have h2 := length_grow m found x
    calc _ ≤ 2 ^ row.length * (grow m found x).length := h1
      _ ≤ 2 ^ row.length * (2 * found.length) := Nat.mul_le_mul_left _ h2
      _ = 2 ^ row.length * 2 * found.length := by rw [Nat.mul_assoc]
theorem subs_len {m : Int} {row : List Int} (h : row.length ≤ 10) : (subs m row).length ≤ 1024 := by
  have := length_fold m row [[]]
  have h2 : 2 ^ row.length ≤ 2 ^ 10 := Nat.pow_le_pow_right (by decide) h
  unfold subs
  simp at this
  omega
theorem picked_len {row : List Int} {m : Int} (hr : row.length ≤ 10) : (picked row m).length ≤ 1024 := Nat.le_trans (List.length_filter_le _ _) (subs_len hr)
end Lw
set_option Elab.async false
set_option linter.all false
set_option maxRecDepth 100000
set_option maxHeartbeats 1000000
namespace Lw
open PySem PySem.Spec PyProof.Rows L2 Lf Pu
theorem E_are_rising {n k : Int} {f : List Int} (F : Face n k f) (hl : f.length ≤ sizeLine) : V_are_rising [.d (.int n), .d (tI f)] = .ok (.d (.bool true)) [none, none] := by
  refine vfn_eval rfl rfl ?_
  simp
  rw [vlc_mapB PyData.int f (fun a => decide (0 ≤ a) && decide (a ≤ n - 1)) ?hi hl ?hc ?h]
  case hi => rfl
  case hc => rfl
  case h => exact fun a _ => ⟨_, rfl, rfl, by simp [E_is_from]⟩
  have h2 : (f.map fun a => decide (0 ≤ a) && decide (a ≤ n - 1)).all id = true := by
    simp only [List.all_map, List.all_eq_true]
    intro a ha
    have := F.2 a ha
    simp
    omega
  simp [-List.all_map, h2]
  rw [vlc_mapB (fun p : Int × Int => pairD (.int p.1) (.int p.2)) (nexts f) (fun p => decide (p.1 < p.2)) ?hi (Nat.le_trans (nexts_len f) hl) ?hc ?h]
  case hi => exact nexts_items PyData.int rfl
  case hc => rfl
  case h => exact fun p _ => ⟨_, rfl, rfl, by simp⟩
  have h3 : ((nexts f).map fun p => decide (p.1 < p.2)).all id = true := by
    simp only [List.all_map, List.all_eq_true]
    intro p hp
    simpa using nexts_all F.1 p hp
  simp [-List.all_map, h3]
end Lw
set_option Elab.async false
set_option linter.all false
set_option maxRecDepth 100000
set_option maxHeartbeats 1000000
namespace Lw
open PySem PySem.Spec PyProof.Rows L2 Lf Pu
theorem E_are_faces {n k : Int} {fs : List (List Int)} (S : Stk n k fs) : V_are_faces [.d (.int n), .d (.int k), .d (tT fs)] = .ok (.d (.bool true)) [none, none, none] := by
  refine vfn_eval rfl rfl ?_
  have h70 := S.few
  have hne : 1 ≤ fs.length := List.length_pos_iff.mpr S.ne
  have hk4 := S.k4
  have h7 : (fs.length : Int) ≤ 70 := by omega
  have h8 : (1 : Int) ≤ fs.length := by omega
  simp [h7, h8]
  rw [vlc_mapB tI fs (fun _ => true) ?hi (by rw [sizeLine]; omega) ?hc ?h]
  case hi => rfl
  case hc => rfl
  case h =>
    intro f hf
    have F := S.face f hf
    have hl := F.len
    exact ⟨_, rfl, rfl, by simp [E_are_rising F (by rw [sizeLine]; omega), hl]⟩
  simp
  rw [vlc_mapB (fun p : List Int × List Int => Lf.pairD (tI p.1) (tI p.2)) (nexts fs) (fun p => decide (p.1 < p.2)) ?hi (Nat.le_trans (nexts_len fs) (by rw [sizeLine]; omega)) ?hc ?h]
  case hi => exact nexts_items tI rfl
  case hc => rfl
  case h => exact fun p _ => ⟨_, rfl, rfl, by simp⟩
  have h3 : ((nexts fs).map fun p => decide (p.1 < p.2)).all id = true := by
    simp only [List.all_map, List.all_eq_true]
    intro p hp
    simpa using nexts_all S.up p hp
  simp [-List.all_map, h3]
theorem E_is_stack {n k : Int} {fs : List (List Int)} (S : Stk n k fs) : V_is_stack [.d (stkD n k fs)] = .ok (.d (.bool true)) [none] := by
  refine vfn_eval rfl rfl ?_
  obtain ⟨h1, h2, h3, h4, h5, h6, h7, h8, h9⟩ := S
  have S : Stk n k fs := ⟨h1, h2, h3, h4, h5, h6, h7, h8, h9⟩
  have h10 : k ≤ if (4 : Int) < n then 4 else n := by split <;> omega
  simp [E_is_from, h1, h2, h3, h10, E_are_faces S]
theorem E_must_stack {n k : Int} {fs : List (List Int)} (S : Stk n k fs) : V_must_stack [.d (stkD n k fs)] = .ok (.d .none) [none] := by
  refine vfn_eval rfl rfl ?_
  simp [E_is_stack S]
structure Lot (fs : List (List Int)) (lot : List Int) : Prop where
  up : Rising lot
  inn : ∀ a ∈ lot, 0 ≤ a ∧ a < fs.length
theorem Lot.len {fs : List (List Int)} {lot : List Int} (L : Lot fs lot) : lot.length ≤ fs.length := by
  have h : lot.Sublist (rgI fs.length) := rising_sub _ _ L.up (rising_rgI _) fun a ha => mem_rgI.mpr (L.inn a ha)
  have := h.length_le
  rw [length_rgI] at this
  omega
end Lw
set_option Elab.async false
set_option linter.all false
set_option maxRecDepth 100000
set_option maxHeartbeats 1000000
namespace Lw
open PySem PySem.Spec PyProof.Rows L2 Lf Pu
def fromB (lo hi : Int) : PyData → Bool
  | .int i => decide (lo ≤ i) && decide (i ≤ hi)
  | _ => false
theorem E_is_fromD (x : PyData) (lo hi : Int) : V_is_from [.d x, .d (.int lo), .d (.int hi)] = .ok (.d (.bool (fromB lo hi x))) [none, none, none] := by
  cases x with
  | int i => exact E_is_from i lo hi
  | _ => exact vfn_eval rfl rfl (by simp [E_is_whole, fromB])
def intOf : PyData → Int
  | .int i => i
  | _ => 0
theorem ints_of {lo hi : Int} : ∀ {ds : List PyData}, (ds.all fun d => fromB lo hi d) = true → ds = (ds.map intOf).map .int
  | [], _ => rfl
  | d :: ds, h => by
    simp only [List.all_cons, Bool.and_eq_true] at h
    rw [List.map_cons, List.map_cons, ← ints_of h.2]
    cases d <;> simp [fromB] at h
    rfl
def upB (l : List Int) : Bool := (nexts l).all fun p => decide (p.1 < p.2)
def risingB (n : Int) : PyData → Bool
  | .tuple ds => (ds.all fun d => fromB 0 (n - 1) d) && upB (ds.map intOf)
  | _ => false
def fewB : PyData → Bool
  | .tuple ds => decide (ds.length ≤ 1000)
  | _ => true
theorem E_are_risingD (n : Int) {x : PyData} (hs : fewB x = true) : V_are_rising [.d (.int n), .d x] = .ok (.d (.bool (risingB n x))) [none, none] := by
  cases x with
  | tuple ds =>
    have hl : ds.length ≤ sizeLine := by simp only [fewB, decide_eq_true_eq] at hs; rw [sizeLine]; omega
    refine vfn_eval rfl rfl ?_
    simp
    rw [vlc_mapB (fun d : PyData => d) ds (fun d => fromB 0 (n - 1) d) ?hi hl ?hc ?h]
    case hi => rw [List.map_id']; rfl
    case hc => rw [List.map_id']; rfl
    case h => exact fun a _ => ⟨_, rfl, rfl, by simp [E_is_fromD]⟩
    by_cases h : (ds.all fun d => fromB 0 (n - 1) d) = true
    · have h2 : (ds.map fun d => fromB 0 (n - 1) d).all id = true := by rw [List.all_map]; exact h
      simp [-List.all_map, h2]
      have e := ints_of h
      generalize hf : ds.map intOf = f at e
      have hl2 : f.length ≤ sizeLine := by rw [← hf, List.length_map]; exact hl
      rw [vlc_mapB (fun p : Int × Int => pairD (.int p.1) (.int p.2)) (nexts f) (fun p => decide (p.1 < p.2)) ?hi2 (Nat.le_trans (nexts_len f) hl2) ?hc2 ?h2]
      case hi2 => rw [e]; exact nexts_items PyData.int rfl
      case hc2 => rfl
      case h2 => exact fun p _ => ⟨_, rfl, rfl, by simp⟩
      have h3 : ((nexts f).map fun p => decide (p.1 < p.2)).all id = upB f := by rw [List.all_map]; rfl
      simp [-List.all_map, h3, risingB, h, hf]
    · have h0 : (ds.all fun d => fromB 0 (n - 1) d) = false := by simpa using h
      have h2 : (ds.map fun d => fromB 0 (n - 1) d).all id = false := by rw [List.all_map]; exact h0
      simp [-List.all_map, -List.all_eq_false, h2, risingB, h0]
  | _ => exact vfn_eval rfl rfl (by simp [risingB])
def lenB (k : Int) : PyData → Bool
  | .tuple ds => decide ((ds.length : Int) = k)
  | _ => false
def rowOf : PyData → List Int
  | .tuple ds => ds.map intOf
  | _ => []
def upT (l : List (List Int)) : Bool := (nexts l).all fun p => decide (p.1 < p.2)
def facesB (n k : Int) : PyData → Bool
  | .tuple ds => decide ((1 : Int) ≤ ds.length) && decide ((ds.length : Int) ≤ 70) && (ds.all fun d => risingB n d && lenB k d) && upT (ds.map rowOf)
  | _ => false
theorem rows_of {n k : Int} : ∀ {ds : List PyData}, (ds.all fun d => risingB n d && lenB k d) = true → ds = (ds.map rowOf).map tI
  | [], _ => rfl
  | d :: ds, h => by
    simp only [List.all_cons, Bool.and_eq_true] at h
    rw [List.map_cons, List.map_cons, ← rows_of h.2]
    cases d <;> simp [risingB] at h
    rename_i es
    have := ints_of (List.all_eq_true.mpr h.1.1.1)
    rw [show tI (rowOf (.tuple es)) = .tuple ((es.map intOf).map .int) from rfl, ← this]
def fewF : PyData → Bool
  | .tuple ds => ds.all fewB
  | _ => true
theorem E_are_facesD (n k : Int) {x : PyData} (hs : fewF x = true) : V_are_faces [.d (.int n), .d (.int k), .d x] = .ok (.d (.bool (facesB n k x))) [none, none, none] := by
  cases x with
  | tuple ds =>
    have hs := List.all_eq_true.mp hs
    refine vfn_eval rfl rfl ?_
    by_cases h1 : (1 : Int) ≤ ds.length
    · by_cases h7 : (ds.length : Int) ≤ 70
      · simp [h1, h7]
        rw [vlc_mapB (fun d : PyData => d) ds (fun d => risingB n d && lenB k d) ?hi (by rw [sizeLine]; omega) ?hc ?h]
        case hi => rw [List.map_id']; rfl
        case hc => rw [List.map_id']; rfl
        case h =>
          intro d hd
          refine ⟨_, rfl, rfl, ?_⟩
          cases hr : risingB n d with
          | false => simp [E_are_risingD n (hs d hd), hr]
          | true =>
            cases d with
            | tuple es => simp [E_are_risingD n (hs _ hd), hr, lenB]
            | _ => cases hr
        by_cases h : (ds.all fun d => risingB n d && lenB k d) = true
        · have h2 : (ds.map fun d => risingB n d && lenB k d).all id = true := by rw [List.all_map]; exact h
          simp [-List.all_map, h2]
          have e := rows_of h
          generalize hf : ds.map rowOf = fs at e
          have hl2 : fs.length ≤ sizeLine := by rw [← hf, List.length_map, sizeLine]; omega
          rw [vlc_mapB (fun p : List Int × List Int => pairD (tI p.1) (tI p.2)) (nexts fs) (fun p => decide (p.1 < p.2)) ?hi2 (Nat.le_trans (nexts_len fs) hl2) ?hc2 ?h2]
          case hi2 => rw [e]; exact nexts_items tI rfl
          case hc2 => rfl
          case h2 => exact fun p _ => ⟨_, rfl, rfl, by simp⟩
          have h3 : ((nexts fs).map fun p => decide (p.1 < p.2)).all id = upT fs := by rw [List.all_map]; rfl
          simp [-List.all_map, h3, facesB, h, hf, h1, h7]
        · have h0 : (ds.all fun d => risingB n d && lenB k d) = false := by simpa using h
          have h2 : (ds.map fun d => risingB n d && lenB k d).all id = false := by rw [List.all_map]; exact h0
          simp [-List.all_map, -List.all_eq_false, h2, facesB, h0]
      · simp [h1, h7, facesB]
    · simp [h1, facesB]
  | _ => exact vfn_eval rfl rfl (by simp [facesB])
def stackB : PyData → Bool
  | .tuple [n, k, fs] => fromB 1 8 n && fromB 0 (if 4 < intOf n then 4 else intOf n) k && facesB (intOf n) (intOf k) fs
  | _ => false
theorem stackB_int (n : Int) (k fs : PyData) : stackB (.tuple [.int n, k, fs]) = (fromB 1 8 (.int n) && fromB 0 (if 4 < n then 4 else n) k && facesB n (intOf k) fs) := rfl
def fewS : PyData → Bool
  | .tuple [_, _, fs] => fewF fs
  | _ => true
theorem E_is_stackD {x : PyData} (hs : fewS x = true) : V_is_stack [.d x] = .ok (.d (.bool (stackB x))) [none] := by
  cases x with
  | tuple ds =>
    match ds, hs with
    | [n, k, fs], hs =>
      refine vfn_eval rfl rfl ?_
      have hs : fewF fs = true := hs
      cases h1 : fromB 1 8 n with
      | false => simp [E_is_fromD, h1, stackB]
      | true =>
        cases n <;> try (cases h1; done)
        rename_i n
        cases h2 : fromB 0 (if 4 < n then 4 else n) k with
        | false => simp [E_is_fromD, h1, h2, stackB_int]
        | true =>
          cases k <;> try (cases h2; done)
          rename_i k
          simp [E_is_fromD, h1, h2, stackB_int, intOf, E_are_facesD n k hs]
    | [], _ => exact vfn_eval rfl rfl (by simp [stackB])
    | [_], _ => exact vfn_eval rfl rfl (by simp [stackB])
    | [_, _], _ => exact vfn_eval rfl rfl (by simp [stackB])
    | _ :: _ :: _ :: _ :: l, _ =>
      refine vfn_eval rfl rfl ?_
      have h : ¬ ((l.length : Int) + 1 + 1 + 1 + 1 = 3) := by omega
      simp [stackB, h]
  | _ => exact vfn_eval rfl rfl (by simp [stackB])
theorem E_must_stackX {x : PyData} (hs : fewS x = true) (h : stackB x = false) : V_must_stack [.d x] = .ex ⟨"NoStack", []⟩ [none] := by
  refine vfn_eval rfl rfl ?_
  simp [E_is_stackD hs, h]
end Lw
set_option Elab.async false
set_option linter.all false
set_option maxRecDepth 100000
set_option maxHeartbeats 1000000
namespace Lw
open PySem PySem.Spec PyProof.Rows L2 Lf Pu
theorem flatMap_len {A B : Type} (g : A → List B) (c : Nat) : ∀ (d : List A), (∀ x ∈ d, (g x).length ≤ c) → (d.flatMap g).length ≤ c * d.length
  | [], _ => by simp
  | x :: d, h => by
    have h1 := h x (by simp)
    have h2 := flatMap_len g c d fun y hy => h y (List.mem_cons_of_mem _ hy)
    rw [List.flatMap_cons, List.length_append, List.length_cons, Nat.mul_succ]
    omega
end Lw
set_option Elab.async false
set_option linter.all false
set_option maxRecDepth 100000
set_option maxHeartbeats 2000000
namespace Lw
open PySem PySem.Spec PyProof.Rows L2 Lf Pu
theorem draw {c b : Int} (n : Int) (h : 0 < n ∧ n < 2 ^ 64) : ∃ v c', (0 ≤ v ∧ v < n) ∧ V_law_draw [.p (pen c b), .d (.int n)] = .ok (.d (.int v)) [some (.p (pen c' b)), none] := by
  obtain ⟨v, c', h1, h2, h3⟩ := E_law_draw (c := c) (b := b) h.1 h.2
  exact ⟨v, c', ⟨h1, h2⟩, h3⟩
theorem Face.mono {n m k : Int} {f : List Int} (F : Face n k f) (h : n ≤ m) : Face m k f := ⟨F.1, fun a ha => by have := F.2 a ha; omega, F.3⟩
end Lw
set_option Elab.async false
set_option linter.all false
set_option maxRecDepth 100000
set_option maxHeartbeats 1000000
namespace Lw
open PySem PySem.Spec PyProof.Rows L2 Lf Pu
theorem atI_mem {l : List PyData} {v : Int} (h : 0 ≤ v ∧ v < l.length) : ∃ x ∈ l, atI l v = some x := by
  obtain ⟨m, rfl⟩ := Int.eq_ofNat_of_zero_le h.1
  have hl : m < l.length := by omega
  refine ⟨l[m], List.getElem_mem hl, ?_⟩
  simp [atI, ixN, hl]
def oddL (n : Int) : List PyData := [.none, .bool true, .int (-1), .int n, .str "0", .tuple [.int 0], .int 1000000000000000000000000000000]
theorem odd_not {n : Int} (hn : n ≤ 8) : ∀ x ∈ oddL n, fromB 0 (n - 1) x = false := by
  intro x hx
  simp only [oddL, List.mem_cons, List.not_mem_nil, or_false] at hx
  rcases hx with rfl | rfl | rfl | rfl | rfl | rfl | rfl
  · rfl
  · rfl
  · rfl
  · have : ¬ (n ≤ n - 1) := by omega
    simp [fromB, this]
  · rfl
  · rfl
  · have h8 : (8 : Int) < 1000000000000000000000000000000 := by decide
    have : ¬ ((1000000000000000000000000000000 : Int) ≤ n - 1) := fun q => absurd (Int.lt_of_lt_of_le h8 q) (by omega)
    simp only [fromB, this, decide_false, Bool.and_false]
def bentD (f : List Int) (at_ : Nat) (odd : PyData) : PyData := .tuple ((f.take at_).map .int ++ [odd] ++ (f.drop (at_ + 1)).map .int)
theorem bent_not {n : Int} {f : List Int} {a : Nat} {odd : PyData} (h : fromB 0 (n - 1) odd = false) : risingB n (bentD f a odd) = false := by
  have : (((f.take a).map PyData.int ++ [odd] ++ (f.drop (a + 1)).map PyData.int).all fun d => fromB 0 (n - 1) d) = false := by
    rw [List.all_append, List.all_append]
    simp [h]
  simp only [bentD, risingB, this, Bool.false_and]
theorem faces_not {n k : Int} {ds : List PyData} {d : PyData} (hd : d ∈ ds) (h : (risingB n d && lenB k d) = false) : facesB n k (.tuple ds) = false := by
  have : (ds.all fun d => risingB n d && lenB k d) = false := by
    rw [List.all_eq_false]
    exact ⟨d, hd, by rw [h]; decide⟩
  simp only [facesB, this, Bool.and_false, Bool.false_and]
theorem rowOf_tI (f : List Int) : rowOf (tI f) = f := by
  simp only [rowOf, tI, List.map_map]
  exact List.map_id'' (fun _ => rfl) f
theorem rows_tI (fs : List (List Int)) : (fs.map tI).map rowOf = fs := by
  rw [List.map_map]
  exact List.map_id'' (fun f => rowOf_tI f) fs
theorem nexts_at {A : Type} : ∀ (a b : List A) (x y : A), (x, y) ∈ nexts (a ++ x :: y :: b)
  | [], b, x, y => by simp [nexts]
  | [z], b, x, y => by simp [nexts]
  | z :: w :: a, b, x, y => by
    have ih := nexts_at (w :: a) b x y
    simp only [nexts, List.cons_append, List.drop_succ_cons, List.drop_zero, List.zip_cons_cons, List.mem_cons] at ih ⊢
    exact .inr ih
theorem upT_not {l a b : List (List Int)} {x y : List Int} (e : l = a ++ x :: y :: b) (h : ¬ x < y) : upT l = false := by
  subst e
  unfold upT
  rw [List.all_eq_false]
  exact ⟨(x, y), nexts_at a b x y, by simpa using h⟩
theorem faces_up {n k : Int} {fs a b : List (List Int)} {x y : List Int} (e : fs = a ++ x :: y :: b) (h : ¬ x < y) : facesB n k (tT fs) = false := by
  have e2 : upT ((fs.map tI).map rowOf) = false := by rw [rows_tI]; exact upT_not e h
  simp only [tT, facesB, e2, Bool.and_false]
theorem faces_len {n k m : Int} {fs : List (List Int)} (S : Stk n k fs) (h : m ≠ k) (n' : Int) : facesB n' m (tT fs) = false := by
  obtain ⟨f, fs', rfl⟩ := List.exists_cons_of_ne_nil S.ne
  have F := S.face f List.mem_cons_self
  have hl := F.len
  refine faces_not (d := tI f) (by simp) ?_
  have : lenB m (tI f) = false := by
    simp only [lenB, tI, List.length_map, hl]
    simpa using fun q => h q.symm
  rw [this, Bool.and_false]
theorem few_tI {f : List Int} (h : f.length ≤ 1000) : fewB (tI f) = true := by simpa [fewB, tI] using h
theorem fewF_tT {fs : List (List Int)} (h : ∀ f ∈ fs, f.length ≤ 1000) : fewF (tT fs) = true := by
  simp only [fewF, tT, List.all_map, List.all_eq_true]
  intro f hf
  exact few_tI (h f hf)
def badL (n k : Int) (fs ah be : List (List Int)) (f : List Int) (bent : PyData) : List PyData :=
  [.tuple [.int n, .int k, .tuple (ah.map tI ++ [bent] ++ be.map tI)], .tuple [.int n, .int k, .tuple (ah.map tI ++ [lI f] ++ be.map tI)],
   .tuple [.int n, .int k, .tuple (ah.map tI ++ [tI f, tI f] ++ be.map tI)], .tuple [.int n, .int k, tT (fs ++ fs.take 1)], .tuple [.int n, .int k, lT fs],
   .tuple [.int n, .int k, .tuple []], .tuple [.int 0, .int k, tT fs], .tuple [.int 9, .int k, tT fs],
   .tuple [.int n, .int 5, tT fs], .tuple [.int n, .int (k + 1), tT fs], .tuple [.int n, .int (k - 1), tT fs], .tuple [.bool true, .int k, tT fs], .tuple [.int n, .none, tT fs],
   .list [.int n, .int k, tT fs], .tuple [.int n, .int k], .none, .tuple [.int n, .int k, tT fs, .int 0], .int 7, .str "3 2: 01 02 12", .dict []]
theorem stk_flen {n k : Int} {fs : List (List Int)} (S : Stk n k fs) : ∀ f ∈ fs, f.length ≤ 4 := fun f hf => by
  have := (S.face f hf).len
  have := S.k4
  omega
theorem bad_all {n k : Int} {fs ah be : List (List Int)} {f : List Int} {bent : PyData} (S : Stk n k fs) (e : fs = ah ++ f :: be) (hb : risingB n bent = false) (hf : fewB bent = true) : ∀ x ∈ badL n k fs ah be f bent, stackB x = false ∧ fewS x = true := by
  have hl := stk_flen S
  have fw : fewF (tT fs) = true := fewF_tT fun g hg => by have := hl g hg; omega
  have fa : ∀ g ∈ ah, g.length ≤ 1000 := fun g hg => by have := hl g (by rw [e]; simp [hg]); omega
  have fb : ∀ g ∈ be, g.length ≤ 1000 := fun g hg => by have := hl g (by rw [e]; simp [hg]); omega
  have ff : f.length ≤ 1000 := by have := hl f (by rw [e]; simp); omega
  have fa' : (ah.map tI).all fewB = true := fewF_tT fa
  have fb' : (be.map tI).all fewB = true := fewF_tT fb
  have hn0 := S.n1
  have hn8 := S.n8
  have hk0 := S.k0
  have hk4 := S.k4
  intro x hx
  simp only [badL, List.mem_cons, List.not_mem_nil, or_false] at hx
  rcases hx with rfl | rfl | rfl | rfl | rfl | rfl | rfl | rfl | rfl | rfl | rfl | rfl | rfl | rfl | rfl | rfl | rfl | rfl | rfl | rfl
  · refine ⟨?_, ?_⟩
    · rw [stackB_int, faces_not (d := bent) (by simp) (by rw [hb]; rfl), Bool.and_false]
    · simp only [fewS, fewF, List.all_append, fa', fb', List.all_cons, List.all_nil, hf, Bool.and_true]
  · refine ⟨?_, ?_⟩
    · rw [stackB_int, faces_not (d := lI f) (by simp) (by rfl), Bool.and_false]
    · simp only [fewS, fewF, List.all_append, fa', fb', List.all_cons, List.all_nil, Bool.and_true]; rfl
  · refine ⟨?_, ?_⟩
    · have := faces_up (n := n) (k := intOf (.int k)) (fs := ah ++ f :: f :: be) rfl (List.lt_irrefl f)
      rw [stackB_int, show PyData.tuple (ah.map tI ++ [tI f, tI f] ++ be.map tI) = tT (ah ++ f :: f :: be) by simp [tT], this, Bool.and_false]
    · simp only [fewS, fewF, List.all_append, fa', fb', List.all_cons, List.all_nil, Bool.and_true, few_tI ff]
  · refine ⟨?_, ?_⟩
    · have : facesB n (intOf (.int k)) (tT (fs ++ fs.take 1)) = false := by
        obtain ⟨g, r, hg⟩ := List.exists_cons_of_ne_nil S.ne
        have hu := S.up
        rcases List.eq_nil_or_concat r with rfl | ⟨r', z, rfl⟩
        · exact faces_up (a := []) (b := []) (x := g) (y := g) (by rw [hg]; rfl) (List.lt_irrefl g)
        · refine faces_up (a := g :: r') (b := []) (x := z) (y := g) (by rw [hg]; simp) fun q => ?_
          rw [hg] at hu
          have h1 := (List.pairwise_cons.mp hu).1 z (by simp)
          exact List.lt_irrefl g (List.lt_trans h1 q)
      rw [stackB_int, this, Bool.and_false]
    · refine fewF_tT fun g hg => ?_
      rcases List.mem_append.mp hg with h | h
      · have := hl g h; omega
      · have := hl g (List.mem_of_mem_take h); omega
  · exact ⟨by rw [stackB_int]; simp [facesB, lT], rfl⟩
  · exact ⟨by rw [stackB_int]; simp [facesB], rfl⟩
  · exact ⟨by rw [stackB_int]; simp [fromB], fw⟩
  · exact ⟨by rw [stackB_int]; simp [fromB], fw⟩
  · refine ⟨?_, fw⟩
    rw [stackB_int]
    have : fromB 0 (if 4 < n then 4 else n) (.int 5) = false := by
      simp only [fromB]
      split
      · rfl
      · have : ¬ ((5 : Int) ≤ n) := by omega
        simp [this]
    rw [this, Bool.and_false, Bool.false_and]
  · exact ⟨by rw [stackB_int, faces_len S (m := intOf (.int (k + 1))) (by simp only [intOf]; omega), Bool.and_false], fw⟩
  · exact ⟨by rw [stackB_int, faces_len S (m := intOf (.int (k - 1))) (by simp only [intOf]; omega), Bool.and_false], fw⟩
  · exact ⟨by simp [stackB, fromB], fw⟩
  · exact ⟨by rw [stackB_int]; simp [fromB], fw⟩
  all_goals exact ⟨rfl, rfl⟩
theorem split_at {fs : List (List Int)} {i : Int} (h : 0 ≤ i ∧ i < fs.length) : fs = fs.take i.toNat ++ nthT fs i :: fs.drop (i.toNat + 1) := by
  have hl : i.toNat < fs.length := by omega
  have : nthT fs i = fs[i.toNat] := by simp [nthT, hl]
  rw [this, List.getElem_cons_drop hl, List.take_append_drop]
theorem pow30 : powV (.int 10) (.int 30) = some (vI 1000000000000000000000000000000) := powV_i (by decide)
theorem E_law_no_stack {c b n k : Int} {fs : List (List Int)} (S : Stk n k fs) : ∃ (bad : PyData) (c' : Int), stackB bad = false ∧ fewS bad = true ∧ V_law_no_stack [.p (pen c b), .d (stkD n k fs)] = .ok (.d bad) [some (.p (pen c' b)), none] := by
  have hne : 0 < fs.length := List.length_pos_iff.mpr S.ne
  have hfew := S.few
  have hk0 := S.k0
  have hk4 := S.k4
  obtain ⟨way, c1, h1, d1⟩ := draw (c := c) (b := b) 20 (by decide)
  obtain ⟨spot, c2, h2, d2⟩ := draw (c := c1) (b := b) fs.length (by omega)
  obtain ⟨at_, c3, h3, d3⟩ := draw (c := c2) (b := b) (if k > 1 then k else 1) (by split <;> omega)
  obtain ⟨o, c4, h4, d4⟩ := draw (c := c3) (b := b) 7 (by decide)
  obtain ⟨odd, ho, eo⟩ := atI_mem (l := oddL n) (v := o) h4
  have es := split_at h2
  have hf := S.face _ (nthT_mem h2)
  have hfl := hf.len
  have hb := bent_not (f := nthT fs spot) (a := at_.toNat) (odd_not S.n8 odd ho)
  have hfb : fewB (bentD (nthT fs spot) at_.toNat odd) = true := by
    simp only [fewB, bentD, decide_eq_true_eq, List.length_append, List.length_map, List.length_take, List.length_drop, List.length_cons, List.length_nil]
    omega
  have hall := bad_all S es hb hfb
  have hw : 0 ≤ way ∧ way < (badL n k fs (fs.take spot.toNat) (fs.drop (spot.toNat + 1)) (nthT fs spot) (bentD (nthT fs spot) at_.toNat odd)).length := h1
  obtain ⟨bad, hbm, eb⟩ := atI_mem hw
  refine ⟨bad, c4, (hall bad hbm).1, (hall bad hbm).2, vfn_eval rfl rfl ?_⟩
  have e1 : (spot + 1).toNat = spot.toNat + 1 := by omega
  have e2 : (at_ + 1).toNat = at_.toNat + 1 := by omega
  unfold oddL at eo
  unfold badL at eb
  have hl1 : ((nthT fs spot).take at_.toNat).length ≤ 4 := by rw [List.length_take]; omega
  have hl2 : ((nthT fs spot).drop (at_.toNat + 1)).length ≤ 4 := by rw [List.length_drop]; omega
  have hl3 : (fs.take spot.toNat).length ≤ 70 := by rw [List.length_take]; omega
  have hl4 : (fs.drop (spot.toNat + 1)).length ≤ 70 := by rw [List.length_drop]; omega
  have a1 : addV (tI ((nthT fs spot).take at_.toNat)) (.tuple [odd]) = some (.w (.d (.tuple (((nthT fs spot).take at_.toNat).map .int ++ [odd])))) := addV_T (by simp [sizeLine]; omega)
  have a2 : addV (.tuple (((nthT fs spot).take at_.toNat).map PyData.int ++ [odd])) (tI ((nthT fs spot).drop (at_.toNat + 1))) = some (.w (.d (bentD (nthT fs spot) at_.toNat odd))) := addV_T (by simp [sizeLine]; omega)
  have a3 : ∀ x : PyData, addV (tT (fs.take spot.toNat)) (.tuple [x]) = some (.w (.d (.tuple ((fs.take spot.toNat).map tI ++ [x])))) := fun x => addV_T (by simp [sizeLine]; omega)
  have a4 : ∀ x : PyData, addV (.tuple ((fs.take spot.toNat).map tI ++ [x])) (tT (fs.drop (spot.toNat + 1))) = some (.w (.d (.tuple ((fs.take spot.toNat).map tI ++ [x] ++ (fs.drop (spot.toNat + 1)).map tI)))) := fun x => addV_T (by simp [sizeLine]; omega)
  have a5 : ∀ x y : PyData, addV (tT (fs.take spot.toNat)) (.tuple [x, y]) = some (.w (.d (.tuple ((fs.take spot.toNat).map tI ++ [x, y])))) := fun x y => addV_T (by simp [sizeLine]; omega)
  have a6 : ∀ x y : PyData, addV (.tuple ((fs.take spot.toNat).map tI ++ [x, y])) (tT (fs.drop (spot.toNat + 1))) = some (.w (.d (.tuple ((fs.take spot.toNat).map tI ++ [x, y] ++ (fs.drop (spot.toNat + 1)).map tI)))) := fun x y => addV_T (by simp [sizeLine]; omega)
  have a7 : addV (tT fs) (tT (fs.take 1)) = some (.w (.d (tT (fs ++ fs.take 1)))) := addV_tT (by rw [List.length_take, sizeLine]; omega)
  have s1 : slV none (some 1) (tT fs) = some (.w (.d (tT (fs.take 1)))) := sl_to_tT fs (by decide)
  have aL : ∀ a b : List PyData, a.length ≤ 30 → b.length ≤ 30 → addV (.list a) (.list b) = some (.own (.list (a ++ b))) := fun a b ha hb => addV_L (by rw [sizeLine]; omega)
  rw [vseq_next (e' := [some (.p (pen c b)), some (.d (stkD n k fs)), some (.d (.int n)), some (.d (.int k)), some (.d (tT fs)), none, none, none, none, none, none, none, none, none]) (by simp)]
  rw [vseq_next (e' := [some (.p (pen c3 b)), some (.d (stkD n k fs)), some (.d (.int n)), some (.d (.int k)), some (.d (tT fs)), some (.d (.int way)), some (.d (.int spot)), some (.d (.int at_)), none, none, none, none, none, none]) (by simp [d1, d2, d3, sizeLine])]
  rw [vseq_next (e' := [some (.p (pen c4 b)), some (.d (stkD n k fs)), some (.d (.int n)), some (.d (.int k)), some (.d (tT fs)), some (.d (.int way)), some (.d (.int spot)), some (.d (.int at_)), some (.d odd), none, none, none, none, none]) (by simp [d4, sizeLine, pow30, eo])]
  rw [vseq_next (e' := [some (.p (pen c4 b)), some (.d (stkD n k fs)), some (.d (.int n)), some (.d (.int k)), some (.d (tT fs)), some (.d (.int way)), some (.d (.int spot)), some (.d (.int at_)), some (.d odd), some (.d (tI (nthT fs spot))), none, none, none, none]) (by simp [ixV_tT h2])]
  rw [vseq_next (e' := [some (.p (pen c4 b)), some (.d (stkD n k fs)), some (.d (.int n)), some (.d (.int k)), some (.d (tT fs)), some (.d (.int way)), some (.d (.int spot)), some (.d (.int at_)), some (.d odd), some (.d (tI (nthT fs spot))), some (.d (tT (fs.take spot.toNat))), some (.d (tT (fs.drop (spot.toNat + 1)))), none, none]) (by simp [sl_to_tT fs h2.1, sl_from_tT fs (v := spot + 1) (by omega), e1])]
  rw [vseq_next (e' := [some (.p (pen c4 b)), some (.d (stkD n k fs)), some (.d (.int n)), some (.d (.int k)), some (.d (tT fs)), some (.d (.int way)), some (.d (.int spot)), some (.d (.int at_)), some (.d odd), some (.d (tI (nthT fs spot))), some (.d (tT (fs.take spot.toNat))), some (.d (tT (fs.drop (spot.toNat + 1)))), some (.d (bentD (nthT fs spot) at_.toNat odd)), none]) (by simp [sl_to_tI _ h3.1, sl_from_tI _ (v := at_ + 1) (by omega), e2, sizeLine, a1, a2, -List.map_take, -List.map_drop])]
  simp [a3, a4, a5, a6, a7, s1, sizeLine, aL, -List.map_take, -List.map_drop]
  simp [-List.map_take, -List.map_drop] at eb
  rw [eb]
  rfl
end Lw
set_option Elab.async false
set_option linter.all false
set_option maxRecDepth 100000
set_option maxHeartbeats 1000000
namespace Lw
open PySem PySem.Spec PyProof.Rows L2 Lf Pu
theorem vfor_invP {A : Type} (enc : A → PyData) (l : List A) (R : List A → VE → Prop) {ks : List Nat} {it : VE → Rs VItems} {tg : PyData → VE → Option VE} {body : VDS} {e e1 : VE} {j : Nat} {dj : List PyData} (hi : it e = .ok (l.map enc, some (j, dj)) e1) (ho : isOwn e1 j = false) (h0 : R [] (mask ks e1))
    (hs : ∀ d x r e, l = d ++ x :: r → R d e → vchkP (l.map enc, some (j, dj)) e = true ∧ ∃ e1, tg (enc x) e = some e1 ∧ ∃ e2, body e1 = .next e2 ∧ R (d ++ [x]) (mask ks e2)) (hc : ∀ e, R l e → vchkP (l.map enc, some (j, dj)) e = true) : ∃ e', vsFor ks it tg body e = .next e' ∧ R l e' := by
  unfold vsFor
  rw [hi]
  obtain ⟨e', h1, h2⟩ := forV_inv enc (ks := ks) (chk := vchkP (l.map enc, some (j, dj))) (tg := tg) (body := body) R l [] _ h0 hs hc
  refine ⟨e', ?_, h2⟩
  simp only [Rs.go, ho, h1]
  rfl
theorem zip_same (xs : List PyData) : List.zipWith pairD xs xs = xs.map fun x => pairD x x := by
  induction xs with
  | nil => rfl
  | cons x xs ih => simp [ih]
theorem depth_mem {xs : List PyData} {x : PyData} (h : x ∈ xs) : x.depth ≤ PyData.depthAll xs := by
  induction xs with
  | nil => cases h
  | cons y ys ih =>
    simp only [PyData.depthAll]
    rcases List.mem_cons.mp h with rfl | h
    · omega
    · have := ih h; omega
theorem lay_mem {xs : List PyData} {x : PyData} (hc : PyData.canLayAll0 xs = true) (h : x ∈ xs) : x.canLay0 = true := by
  induction xs with
  | nil => cases h
  | cons y ys ih =>
    simp only [PyData.canLayAll0, Bool.and_eq_true] at hc
    rcases List.mem_cons.mp h with rfl | h
    · exact hc.1
    · exact ih hc.2 h
theorem same2_refl : ∀ (m : Nat) (d : PyData), d.canLay0 = true → d.depth < m → V_law_same_v2 m [.d d, .d d] = .ok (.d (.bool true)) [none, none]
  | 0, _, _, h => absurd h (Nat.not_lt_zero _)
  | m + 1, d, hc, hd => by
    have loop : ∀ (xs : List PyData) (x0 : PyData), PyData.canLayAll0 xs = true → PyData.depthAll xs < m → viZip (vaCons (vdVar 0) (vaCons (vdVar 1) vaNil)) [some (.d x0), some (.d x0), none, none] = .ok (List.zipWith pairD xs xs, none) [some (.d x0), some (.d x0), none, none] →
        vsFor [0] (viZip (vaCons (vdVar 0) (vaCons (vdVar 1) vaNil))) (vtgT [2, 3]) (W_law_same_v2_1 (V_law_same_v2 m)) [some (.d x0), some (.d x0), none, none] = .next [some (.d x0), none, none, none] := by
      intro xs x0 h1 h2 hi
      obtain ⟨e', h3, rfl⟩ := vfor_inv (fun x : PyData => pairD x x) xs (fun _ e => e = [some (.d x0), none, none, none]) (ks := [0]) (it := viZip (vaCons (vdVar 0) (vaCons (vdVar 1) vaNil))) (tg := vtgT [2, 3]) (body := W_law_same_v2_1 (V_law_same_v2 m)) (e := [some (.d x0), some (.d x0), none, none]) (e1 := [some (.d x0), some (.d x0), none, none]) (by rw [hi, zip_same]) rfl (fun d x r e hd hR => by
        subst hR
        have hx : x ∈ xs := by rw [hd]; simp
        refine ⟨[some (.d x0), none, some (.d x), some (.d x)], rfl, [some (.d x0), none, some (.d x), some (.d x)], ?_, rfl⟩
        unfold W_law_same_v2_1
        simp [same2_refl m x (lay_mem h1 hx) (Nat.lt_of_le_of_lt (depth_mem hx) h2)])
      exact h3
    cases d with
    | none => exact vfn_eval rfl rfl (by simp)
    | bool b => exact vfn_eval rfl rfl (by cases b <;> simp)
    | int i => exact vfn_eval rfl rfl (by simp)
    | str x =>
      have hx : PyData.strOk x = true := by simpa [PyData.canLay0] using hc
      exact vfn_eval rfl rfl (by simp [eqV_s hx hx])
    | dict kv => cases hc
    | list xs =>
      simp only [PyData.canLay0, PyData.depth] at hc hd
      refine vfn_eval rfl rfl ?_
      simp
      rw [loop xs (.list xs) hc (by omega) rfl]
      simp
    | tuple xs =>
      simp only [PyData.canLay0, PyData.depth] at hc hd
      refine vfn_eval rfl rfl ?_
      simp
      rw [loop xs (.tuple xs) hc (by omega) rfl]
      simp
theorem same2_reflP {xs : List PyData} {m : Nat} (hc : PyData.canLayAll0 xs = true) (hd : PyData.depthAll xs < m) : V_law_same_v2 (m + 1) [.p (.list xs), .d (.list xs)] = .ok (.d (.bool true)) [some (.p (.list xs)), none] := by
  refine vfn_eval rfl rfl ?_
  simp
  obtain ⟨e', h3, rfl⟩ := vfor_invP (fun x : PyData => pairD x x) xs (fun _ e => e = [some (.p (.list xs)), none, none, none]) (ks := [0]) (it := viZip (vaCons (vdVar 0) (vaCons (vdVar 1) vaNil))) (tg := vtgT [2, 3]) (body := W_law_same_v2_1 (V_law_same_v2 m)) (e := [some (.p (.list xs)), some (.d (.list xs)), none, none]) (e1 := [some (.p (.list xs)), some (.d (.list xs)), none, none]) (j := 0) (dj := xs) (by rw [← zip_same]; rfl) rfl rfl (fun d x r e hd' hR => by
    subst hR
    have hx : x ∈ xs := by rw [hd']; simp
    refine ⟨by simp, [some (.p (.list xs)), none, some (.d x), some (.d x)], rfl, [some (.p (.list xs)), none, some (.d x), some (.d x)], ?_, rfl⟩
    unfold W_law_same_v2_1
    simp [same2_refl m x (lay_mem hc hx) (Nat.lt_of_le_of_lt (depth_mem hx) hd)]) (fun e hR => by subst hR; simp)
  rw [h3]
  simp
end Lw
set_option Elab.async false
set_option linter.all false
set_option maxRecDepth 100000
set_option maxHeartbeats 1000000
namespace Lw
open PySem PySem.Spec PyProof.Rows L2 Lf Pu
def growA (found : List (List Int)) (x : Int) : List (List Int) := found ++ found.map (· ++ [x])
theorem growA_filter (m : Int) (found : List (List Int)) (x : Int) : grow m (found.filter fun o => decide ((o.length : Int) ≤ m)) x = (growA found x).filter fun o => decide ((o.length : Int) ≤ m) := by
  unfold grow growA
  rw [List.filter_append, List.filter_filter, List.filter_map]
  congr 2
  apply List.filter_congr
  intro o _
  rw [Bool.eq_iff_iff]
  simp
  omega
theorem foldA_filter (m : Int) : ∀ (row : List Int) (found : List (List Int)), row.foldl (grow m) (found.filter fun o => decide ((o.length : Int) ≤ m)) = (row.foldl growA found).filter fun o => decide ((o.length : Int) ≤ m)
  | [], _ => rfl
  | x :: row, found => by rw [List.foldl_cons, List.foldl_cons, growA_filter, foldA_filter m row]
theorem every_picked {row : List Int} {k : Int} (hk : 0 ≤ k) : (row.foldl growA [[]]).filter (fun o => decide ((o.length : Int) = k)) = picked row k := by
  have h := foldA_filter k row [[]]
  have e : ([[]] : List (List Int)).filter (fun o => decide ((o.length : Int) ≤ k)) = [[]] := by simp [hk]
  rw [e] at h
  unfold picked subs
  rw [h, List.filter_filter]
  apply List.filter_congr
  intro o _
  rw [Bool.eq_iff_iff]
  simp
  omega
theorem foldA_len : ∀ (row : List Int) (found : List (List Int)), (row.foldl growA found).length = 2 ^ row.length * found.length
  | [], found => by simp
  | x :: row, found => by
    rw [List.foldl_cons, foldA_len row, List.length_cons, Nat.pow_succ]
    unfold growA
    simp
    rw [Nat.mul_assoc]
    congr 1
    omega
theorem foldA_each : ∀ (row : List Int) (found : List (List Int)) (c : Nat), (∀ o ∈ found, o.length ≤ c) → ∀ o ∈ row.foldl growA found, o.length ≤ c + row.length
  | [], _, _, h, o, ho => h o ho
  | x :: row, found, c, h, o, ho => by
    rw [List.foldl_cons] at ho
    have := foldA_each row (growA found x) (c + 1) (fun o ho => by
      unfold growA at ho
      rcases List.mem_append.mp ho with ho | ho
      · have := h o ho; omega
      · obtain ⟨y, hy, rfl⟩ := List.mem_map.mp ho
        have := h y hy
        simp; omega) o ho
    rw [List.length_cons]
    omega
theorem E_law_every {n k : Int} (hn : 0 ≤ n ∧ n ≤ 10) (hk : 0 ≤ k) : V_law_every [.d (.int n), .d (.int k)] = .ok (.o (lT (allL n k))) [none, none] := by
  refine vfn_eval rfl rfl ?_
  have hr : (rgI n).length ≤ 10 := by rw [length_rgI]; omega
  have hlen : ∀ d : List Int, d.length ≤ 10 → (d.foldl growA [[]]).length ≤ 1024 := fun d hd => by
    rw [foldA_len]
    have : 2 ^ d.length ≤ 2 ^ 10 := Nat.pow_le_pow_right (by decide) hd
    simp
    omega
  have heach : ∀ d : List Int, d.length ≤ 10 → ∀ o ∈ d.foldl growA [[]], o.length ≤ 10 := fun d hd o ho => by
    have := foldA_each d [[]] 0 (by simp) o ho
    omega
  simp [sizeLine, lT_nil1]
  rw [vfor_fold PyData.int (rgI n) (fun found => [none, some (.d (.int k)), some (.d (lT found)), none, none]) growA [[]] (it := viRange (vdVar 0)) (range_items rfl (by omega)) rfl ?hs]
  case hs =>
    intro d x r hd
    refine ⟨_, rfl, ?_⟩
    have h1 : d.length ≤ 10 := by rw [hd] at hr; simp at hr; omega
    have h2 := hlen d h1
    unfold W_law_every_1
    simp
    rw [vlc_evalT tI (d.foldl growA [[]]) (fun _ => true) (fun o => o ++ [x]) ?hi (by rw [sizeLine]; omega) ?hc ?h]
    case hi => rfl
    case hc => rfl
    case h =>
      intro o ho
      have := heach d h1 o ho
      refine ⟨_, rfl, rfl, by simp, fun _ => by simp [sizeLine, addV_tI1 (show o.length < sizeLine by rw [sizeLine]; omega)]⟩
    have ft : (d.foldl growA [[]]).filter (fun _ => true) = d.foldl growA [[]] := List.filter_eq_self.mpr (fun _ _ => rfl)
    rw [ft]
    simp [addV_lT (a := d.foldl growA [[]]) (b := (d.foldl growA [[]]).map (fun o => o ++ [x])) (by rw [List.length_map, sizeLine]; omega), growA]
  simp
  rw [vlc_filterT ((rgI n).foldl growA [[]]) (fun o => decide ((o.length : Int) = k)) ?hi ?hl ?hc ?h]
  case hi => rfl
  case hl => have := hlen (rgI n) hr; rw [sizeLine]; omega
  case hc => rfl
  case h => exact fun o _ => ⟨_, rfl, rfl, by simp, by simp⟩
  simp [every_picked hk, sortV_lT (a := picked (rgI n) k) (by have := picked_len (m := k) hr; rw [sizeLine]; omega), allL]
theorem E_law_size {c b : Int} : ∃ n k c' : Int, (1 ≤ n ∧ n ≤ 8) ∧ (0 ≤ k ∧ k ≤ n ∧ k ≤ 4) ∧ V_law_size [.p (pen c b)] = .ok (.d (.tuple [.int n, .int k])) [some (.p (pen c' b))] := by
  obtain ⟨a1, c1, h1, d1⟩ := draw (c := c) (b := b) 8 (by decide)
  have i1 : ixV (.list [.int 2, .int 3, .int 2, .int 3, .int 1, .int 4, .int 0, .int 2]) (.int a1) = some (.int (nthI [2, 3, 2, 3, 1, 4, 0, 2] a1)) := ixV_lI (fs := [2, 3, 2, 3, 1, 4, 0, 2]) h1
  have hk : 0 ≤ nthI [2, 3, 2, 3, 1, 4, 0, 2] a1 ∧ nthI [2, 3, 2, 3, 1, 4, 0, 2] a1 ≤ 4 := by
    have := nthI_mem (fs := [2, 3, 2, 3, 1, 4, 0, 2]) h1
    simp at this
    omega
  generalize nthI [2, 3, 2, 3, 1, 4, 0, 2] a1 = k at i1 hk
  generalize hm : (if k > 1 then k else 1) = m
  have hmm : 1 ≤ m ∧ m ≤ 4 ∧ k ≤ m := by split at hm <;> omega
  obtain ⟨a2, c2, h2, d2⟩ := draw (c := c1) (b := b) (9 - m) (by omega)
  refine ⟨m + a2, k, c2, by omega, by omega, vfn_eval rfl rfl ?_⟩
  have hm' : (if 1 < k then k else 1) = m := hm
  simp at i1
  simp [d1, i1, hm', d2, sizeLine]
theorem E_law_made {n k : Int} {fs : List (List Int)} (h : fs.length ≤ 1000) : V_law_made [.d (.int n), .d (.int k), .d (lT fs)] = .ok (.d (stkD n k (sortT fs))) [none, none, none] := by
  refine vfn_eval rfl rfl ?_
  simp [sortV_lT (a := fs) (by rw [sizeLine]; omega), sizeLine, stkD, tT]
def growP (found : List (List Int)) (p : Int) : List (List Int) := found.map (· ++ [2 * p]) ++ found.map (· ++ [2 * p + 1])
def pairsL (d : Int) : List (List Int) := (rgI d).foldl growP [[]]
theorem growP_len (found : List (List Int)) (p : Int) : (growP found p).length = 2 * found.length := by
  unfold growP
  simp
  omega
theorem foldP_len : ∀ (row : List Int) (found : List (List Int)), (row.foldl growP found).length = 2 ^ row.length * found.length
  | [], found => by simp
  | x :: row, found => by
    rw [List.foldl_cons, foldP_len row, List.length_cons, Nat.pow_succ, growP_len, Nat.mul_assoc]
theorem foldP_each : ∀ (row : List Int) (found : List (List Int)) (c : Nat), (∀ o ∈ found, o.length ≤ c) → ∀ o ∈ row.foldl growP found, o.length ≤ c + row.length
  | [], _, _, h, o, ho => h o ho
  | x :: row, found, c, h, o, ho => by
    rw [List.foldl_cons] at ho
    have := foldP_each row (growP found x) (c + 1) (fun o ho => by
      unfold growP at ho
      rcases List.mem_append.mp ho with ho | ho
      · obtain ⟨y, hy, rfl⟩ := List.mem_map.mp ho
        have := h y hy
        simp; omega
      · obtain ⟨y, hy, rfl⟩ := List.mem_map.mp ho
        have := h y hy
        simp; omega) o ho
    rw [List.length_cons]
    omega
theorem E_law_pairs {d : Int} (hd : 0 ≤ d ∧ d ≤ 4) : V_law_pairs [.d (.int d)] = .ok (.o (lT (sortT (pairsL d)))) [none] := by
  refine vfn_eval rfl rfl ?_
  have hr : (rgI d).length ≤ 4 := by rw [length_rgI]; omega
  have hlen : ∀ d : List Int, d.length ≤ 4 → (d.foldl growP [[]]).length ≤ 16 := fun d hd => by
    rw [foldP_len]
    have : 2 ^ d.length ≤ 2 ^ 4 := Nat.pow_le_pow_right (by decide) hd
    simp
    omega
  have heach : ∀ d : List Int, d.length ≤ 4 → ∀ o ∈ d.foldl growP [[]], o.length ≤ 4 := fun d hd o ho => by
    have := foldP_each d [[]] 0 (by simp) o ho
    omega
  simp [sizeLine, lT_nil1]
  rw [vfor_fold PyData.int (rgI d) (fun found => [none, some (.d (lT found)), none, none]) growP [[]] (it := viRange (vdVar 0)) (range_items rfl (by omega)) rfl ?hs]
  case hs =>
    intro d x r hd
    have h1 : d.length ≤ 4 := by rw [hd] at hr; simp at hr; omega
    have hx : x = d.length := rgI_at hd
    have h2 := hlen d h1
    refine ⟨_, rfl, ?_⟩
    have ft : (d.foldl growP [[]]).filter (fun _ => true) = d.foldl growP [[]] := List.filter_eq_self.mpr (fun _ _ => rfl)
    have hm : mulV (.int 2) (.int x) = some (vI (2 * x)) := mulV_i (.inl (by decide))
    unfold W_law_pairs_1
    simp
    rw [vlc_evalT tI (d.foldl growP [[]]) (fun _ => true) (fun o => o ++ [2 * x]) ?hi (by rw [sizeLine]; omega) ?hc ?h]
    case hi => rfl
    case hc => rfl
    case h =>
      intro o ho
      have := heach d h1 o ho
      refine ⟨_, rfl, rfl, by simp, fun _ => by simp [hm, sizeLine, addV_tI1 (show o.length < sizeLine by rw [sizeLine]; omega)]⟩
    simp
    rw [vlc_evalT tI (d.foldl growP [[]]) (fun _ => true) (fun o => o ++ [2 * x + 1]) ?hi2 (by rw [sizeLine]; omega) ?hc2 ?h2]
    case hi2 => rfl
    case hc2 => rfl
    case h2 =>
      intro o ho
      have := heach d h1 o ho
      refine ⟨_, rfl, rfl, by simp, fun _ => by simp [hm, sizeLine, addV_tI1 (show o.length < sizeLine by rw [sizeLine]; omega)]⟩
    rw [ft]
    simp [addV_lT (a := (d.foldl growP [[]]).map (fun o => o ++ [2 * x])) (b := (d.foldl growP [[]]).map (fun o => o ++ [2 * x + 1])) (by rw [List.length_map, List.length_map, sizeLine]; omega), growP]
  have := hlen (rgI d) hr
  simp [sortV_lT (a := (rgI d).foldl growP [[]]) (by rw [sizeLine]; omega), pairsL]
def faceB (n k : Int) (f : List Int) : Bool := decide ((f.length : Int) = k) && (f.all fun a => decide (0 ≤ a) && decide (a < n)) && decide (f.Pairwise (· < ·))
theorem pairs_ok : ∀ d ∈ [(1 : Int), 2, 3, 4], (pairsL d).all (faceB (2 * d) d) = true ∧ (pairsL d).Nodup ∧ (pairsL d) ≠ [] := by decide +kernel
theorem faceB_ok {n k : Int} {f : List Int} (h : faceB n k f = true) : Face n k f := by
  simp only [faceB, Bool.and_eq_true, decide_eq_true_eq, List.all_eq_true] at h
  exact ⟨h.2, fun a ha => h.1.2 a ha, h.1.1⟩
end Lw
set_option Elab.async false
set_option linter.all false
set_option maxRecDepth 100000
set_option maxHeartbeats 2000000
namespace Lw
open PySem PySem.Spec PyProof.Rows L2 Lf Pu
inductive IsRow (p : List Int) : PyData → Prop
  | tup : IsRow p (tI p)
  | lst : IsRow p (lI p)
theorem row_items {p : List Int} {x : PyData} {e : VE} {j : Nat} (hx : IsRow p x) (h : e[j]? = some (some (.d x))) : viSeq (vdVar j) e = .ok (p.map .int, none) e := by
  simp only [viSeq, vdVar, h, Rs.bind]
  cases hx <;> rfl
theorem E_law_within2 {p f : List Int} {x y : PyData} (hx : IsRow p x) (hy : IsRow f y) (hp : p.length ≤ sizeLine) : V_law_within [.d x, .d y] = .ok (.d (.bool (within p f))) [none, none] := by
  refine vfn_eval rfl rfl ?_
  simp
  rw [vlc_filterI p (fun a => !decide (a ∈ f)) ?hi hp ?hc ?h]
  case hi => exact row_items hx rfl
  case hc => rfl
  case h => exact fun a _ => ⟨_, rfl, rfl, by cases hy <;> simp, by simp⟩
  simp [within_dec]
  rw [Bool.eq_iff_iff]
  simp
def common (a b : List Int) : List Int := a.filter fun x => decide (x ∈ b)
theorem common_len (a b : List Int) : (common a b).length ≤ a.length := List.length_filter_le _ _
theorem E_law_common {a b : List Int} {x y : PyData} (hx : IsRow a x) (hy : IsRow b y) (hl : a.length ≤ sizeLine) : V_law_common [.d x, .d y] = .ok (.o (lI (common a b))) [none, none] := by
  refine vfn_eval rfl rfl ?_
  simp
  rw [vlc_filterI a (fun x => decide (x ∈ b)) ?hi hl ?hc ?h]
  case hi => exact row_items hx rfl
  case hc => rfl
  case h => exact fun a _ => ⟨_, rfl, rfl, by cases hy <;> simp, by simp⟩
  simp [common]
def lLI (ls : List (List Int)) : PyData := .list (ls.map lI)
end Lw
set_option Elab.async false
set_option linter.all false
set_option maxRecDepth 100000
set_option maxHeartbeats 1000000
namespace Lw
open PySem PySem.Spec PyProof.Rows L2 Lf Pu
theorem pop_lT {l : List (List Int)} {v : Int} {e : VE} (h : 0 ≤ v ∧ v < l.length) (hl : l.length ≤ 1000000) : vpopF (lT l) [.d (.int v)] e = some (.w (.d (tI (nthT l v))), lT (l.eraseIdx v.toNat)) := by
  obtain ⟨m, rfl⟩ := Int.eq_ofNat_of_zero_le h.1
  have hm : m < l.length := by omega
  have h1 : ((m : Int)).natAbs < 2 ^ 63 := by omega
  have h2 : seqIndex? (m : Int) (l.map tI).length = some m := by
    simp [seqIndex?]
    omega
  have h3 : (l.map tI)[m]? = some (tI (nthT l m)) := by simp [nthT, hm]
  have h4 : (l.map tI).eraseIdx m = (l.eraseIdx m).map tI := by
    rw [List.eraseIdx_eq_take_drop_succ, List.eraseIdx_eq_take_drop_succ, List.map_append, List.map_take, List.map_drop]
  simp only [vpopF, lT, h1, if_true, h2, h3, h4, Int.toNat_natCast]
theorem pop_perm {l fs a : List (List Int)} {v : Int} (h : 0 ≤ v ∧ v < l.length) (hp : (fs ++ l).Perm a) : (fs ++ [nthT l v] ++ l.eraseIdx v.toNat).Perm a := by
  obtain ⟨m, rfl⟩ := Int.eq_ofNat_of_zero_le h.1
  have hm : m < l.length := by omega
  have e : nthT l (m : Int) = l[m] := by simp [nthT, hm]
  refine List.Perm.trans ?_ hp
  rw [List.append_assoc]
  refine List.Perm.append_left fs ?_
  rw [e]
  rw [List.eraseIdx_eq_take_drop_succ]
  have h2 : l = l.take m ++ l[m] :: l.drop (m + 1) := by rw [List.getElem_cons_drop hm, List.take_append_drop]
  conv => rhs; rw [h2]
  rw [Int.toNat_natCast, List.singleton_append]
  exact List.perm_middle.symm
theorem E_law_drawn {c b n k most : Int} (hn : 1 ≤ n ∧ n ≤ 8) (hk : 0 ≤ k ∧ k ≤ n ∧ k ≤ 4) (hm : 1 ≤ most ∧ most ≤ 1000) :
    ∃ (fs : List (List Int)) (c' : Int), (∀ f ∈ fs, Face n k f) ∧ fs.Nodup ∧ fs ≠ [] ∧ (fs.length : Int) ≤ most ∧ V_law_drawn [.p (pen c b), .d (.int n), .d (.int k), .d (.int most)] = .ok (.o (lT fs)) [some (.p (pen c' b)), none, none, none] := by
  have hal := allL_le (n := n) (m := k) (by omega) (by omega)
  have hane : 0 < (allL n k).length := List.length_pos_iff.mpr (allL_ne hk.1 hk.2.1)
  have hnd : (allL n k).Nodup := nodup_allL n k
  generalize hmm : (if ((allL n k).length : Int) < most then ((allL n k).length : Int) else most) = m
  have hm2 : 1 ≤ m ∧ m ≤ most ∧ m ≤ (allL n k).length := by split at hmm <;> omega
  obtain ⟨v, c1, h1, d1⟩ := draw (c := c) (b := b) m (by omega)
  obtain ⟨acc, e', hlc, fs, left, c', hacc, he, hp, hlen⟩ := vlc_inv (it := viRange (vdVar 5)) (vs := [6]) (tg := vtgN 6) (tt := vtTrue) (elt := vdMt vpopF (vdVar 4) (vaCons (vdCall V_law_draw (vaCons (vdVar 0) (vaCons (vdCB (vone lenV) (vaCons (vdVar 4) vaNil)) vaNil))) vaNil))
    (e := [some (.p (pen c1 b)), some (.d (.int n)), some (.d (.int k)), some (.d (.int most)), some (.m (lT (allL n k))), some (.d (.int (1 + v))), none]) PyData.int (rgI (1 + v))
    (fun d acc e => ∃ fs left c', acc = fs.map tI ∧ e = [some (.p (pen c' b)), some (.d (.int n)), some (.d (.int k)), some (.d (.int most)), some (.m (lT left)), some (.d (.int (1 + v))), none] ∧ (fs ++ left).Perm (allL n k) ∧ fs.length = d.length)
    (range_items rfl (by omega)) (by rw [length_rgI, sizeLine]; omega) ⟨[], allL n k, c1, rfl, rfl, List.Perm.refl _, rfl⟩ (fun d x r acc e hd hR => by
      obtain ⟨fs, left, c', rfl, rfl, hp, hl⟩ := hR
      refine ⟨rfl, _, rfl, .inr ?_⟩
      have hdl : d.length < (rgI (1 + v)).length := by rw [hd]; simp
      rw [length_rgI] at hdl
      have hpl := hp.length_eq
      rw [List.length_append] at hpl
      obtain ⟨v2, c2, h2, d2⟩ := draw (c := c') (b := b) left.length (by omega)
      refine ⟨_, .d (tI (nthT left v2)), _, tI (nthT left v2), rfl, by simp [d2, pop_lT h2 (by omega)]; rfl, rfl, fs ++ [nthT left v2], left.eraseIdx v2.toNat, c2, by simp, rfl, pop_perm h2 hp, by simp [hl]⟩) (fun _ _ _ => rfl)
  subst hacc he
  rw [length_rgI] at hlen
  have hsub : ∀ f ∈ fs, f ∈ allL n k := fun f hf => hp.subset (List.mem_append_left _ hf)
  have hnd2 : fs.Nodup := (hp.nodup_iff.mpr hnd).sublist (List.sublist_append_left _ _)
  refine ⟨fs, c', fun f hf => (mem_allL hk.1).mp (hsub f hf), hnd2, fun e => by rw [e] at hlen; simp at hlen; omega, by omega, vfn_eval rfl rfl ?_⟩
  have hmm' : (if ((allL n k).length : Int) < most then ((allL n k).length : Int) else most) = m := hmm
  simp [E_law_every (n := n) (k := k) (by omega) hk.1, hmm', d1]
  rw [hlc]
  have e0 : PyData.list (fs.map tI) = lT fs := rfl
  simp [e0]
theorem vfor_findP {A : Type} (enc : A → PyData) (l : List A) (p : A → Bool) (res : A → VR) (P : VE → Prop) {ks : List Nat} {it : VE → Rs VItems} {tg : PyData → VE → Option VE} {body : VDS} {e e1 E : VE} {j : Nat} {dj : List PyData} (hi : it e = .ok (l.map enc, some (j, dj)) e1) (ho : isOwn e1 j = false) (hE : mask ks e1 = E) (hc : vchkP (l.map enc, some (j, dj)) E = true)
    (h : ∀ x ∈ l, ∃ e1, tg (enc x) E = some e1 ∧ (p x = true → ∃ e2, body e1 = .ret (res x) e2 ∧ P e2) ∧ (p x = false → ∃ e2, body e1 = .next e2 ∧ mask ks e2 = E)) :
    (∀ x, l.find? p = some x → ∃ e2, vsFor ks it tg body e = .ret (res x) e2 ∧ P e2) ∧ (l.find? p = none → vsFor ks it tg body e = .next E) := by
  unfold vsFor
  rw [hi]
  simp only [Rs.go, ho]
  show (∀ x, l.find? p = some x → ∃ e2, forV ks (vchkP (l.map enc, some (j, dj))) tg body (l.map enc) (mask ks e1) = .ret (res x) e2 ∧ P e2) ∧ (l.find? p = none → forV ks (vchkP (l.map enc, some (j, dj))) tg body (l.map enc) (mask ks e1) = .next E)
  rw [hE]
  exact forV_find enc p res P hc l h
def beside2 (fs : List (List Int)) (f : List Int) : List (List Int) := fs.filter fun o => decide (((common f o).length : Int) = f.length - 1)
def lacks2 (fs : List (List Int)) (f o : List Int) : Bool := decide ((beside2 fs f).filter (fun r => decide (((common (common f o) r).length : Int) = (common f o).length)) = [])
def may2 (fs : List (List Int)) (f : List Int) : Bool := (fs.find? (lacks2 fs f)).isNone
theorem E_law_may_v2 {fs : List (List Int)} {f : List Int} (hfs : fs.length ≤ 1000) (hf : f.length ≤ 1000) : V_law_may_v2 [.p (lT fs), .d (tI f)] = .ok (.d (.bool (may2 fs f))) [some (.p (lT fs)), none] := by
  have hl : fs.length ≤ sizeLine := by rw [sizeLine]; omega
  have hfl : f.length ≤ sizeLine := by rw [sizeLine]; omega
  refine vfn_eval rfl rfl ?_
  simp
  rw [vlc_filterT fs (fun o => decide (((common f o).length : Int) = f.length - 1)) (o := some (0, fs.map tI)) ?hi hl ?hc ?h]
  case hi => rfl
  case hc => simp
  case h => exact fun o _ => ⟨_, rfl, rfl, by simp [E_law_common (.tup) (.tup (p := o)) hfl], by simp⟩
  have e1 : fs.filter (fun o => decide (((common f o).length : Int) = f.length - 1)) = beside2 fs f := rfl
  have hbl : (beside2 fs f).length ≤ sizeLine := Nat.le_trans (List.length_filter_le _ _) hl
  simp [e1]
  obtain ⟨q1, q2⟩ := vfor_findP (ks := [0, 1, 2]) (it := viSeq (vdVar 0)) (tg := vtgN 3) (body := W_law_may_v2_1) (e := [some (.p (lT fs)), some (.d (tI f)), some (.d (lT (beside2 fs f))), none, none, none]) (e1 := [some (.p (lT fs)), some (.d (tI f)), some (.d (lT (beside2 fs f))), none, none, none]) (E := [some (.p (lT fs)), some (.d (tI f)), some (.d (lT (beside2 fs f))), none, none, none]) (j := 0) (dj := fs.map tI) tI fs (lacks2 fs f) (fun _ => .d (.bool false)) (fun e => keepP 2 e = [some (.p (lT fs)), none]) rfl rfl rfl (by simp) (fun o ho => by
    refine ⟨_, rfl, ?_⟩
    have hol : (common f o).length ≤ sizeLine := Nat.le_trans (common_len f o) hfl
    unfold W_law_may_v2_1
    simp [E_law_common (.tup) (.tup (p := o)) hfl]
    rw [vlc_filterT (beside2 fs f) (fun r => decide (((common (common f o) r).length : Int) = (common f o).length)) ?hi hbl ?hc ?h]
    case hi => rfl
    case hc => rfl
    case h => exact fun r _ => ⟨_, rfl, rfl, by simp [E_law_common (.lst) (.tup (p := r)) hol], by simp⟩
    have e3 : decide ((beside2 fs f).filter (fun r => decide (((common (common f o) r).length : Int) = (common f o).length)) = []) = lacks2 fs f o := rfl
    simp only [Rs.bind, vlstR, vdats, vdLst, vaNil, List.length_nil, Nat.zero_le, if_true, vopR, VR.rd, eqV_lT0, e3, vofR, VR.of, vB]
    cases lacks2 fs f o <;> simp)
  cases hq : fs.find? (lacks2 fs f) with
  | none =>
    rw [q2 hq]
    simp [may2, hq]
  | some x =>
    obtain ⟨e2, q3, q4⟩ := q1 x hq
    rw [q3]
    simp only [vendR, VS.then]
    simp [may2, hq]
    exact q4
theorem E_law_grown {c b n k most : Int} (hn : 1 ≤ n ∧ n ≤ 8) (hk : 0 ≤ k ∧ k ≤ n ∧ k ≤ 4) (hm : 1 ≤ most ∧ most ≤ 1000) :
    ∃ (fs : List (List Int)) (c' : Int), (∀ f ∈ fs, Face n k f) ∧ fs.Nodup ∧ fs ≠ [] ∧ (fs.length : Int) ≤ most ∧ V_law_grown [.p (pen c b), .d (.int n), .d (.int k), .d (.int most)] = .ok (.o (lT fs)) [some (.p (pen c' b)), none, none, none] := by
  have hal := allL_le (n := n) (m := k) (by omega) (by omega)
  have hane : 0 < (allL n k).length := List.length_pos_iff.mpr (allL_ne hk.1 hk.2.1)
  have hnd : (allL n k).Nodup := nodup_allL n k
  obtain ⟨v, c1, h1, d1⟩ := draw (c := c) (b := b) most (by omega)
  obtain ⟨v2, c2, h2, d2⟩ := draw (c := c1) (b := b) (allL n k).length (by omega)
  have hmul : mulV (.int 3) (.int most) = some (vI (3 * most)) := mulV_i (.inl (by decide))
  have p0 := pop_perm (fs := []) h2 (List.Perm.refl (allL n k))
  obtain ⟨e', hfor, c', left, laid, gone, he, hp, hne, hlen⟩ := vfor_inv (ks := [0, 4, 5, 6]) (it := viRange (vdBin mulV (vdC (.int 3)) (vdVar 3))) (tg := vtgN 7) (body := W_law_grown_1)
    (e := [some (.p (pen c2 b)), some (.d (.int n)), some (.d (.int k)), some (.d (.int most)), some (.m (lT ((allL n k).eraseIdx v2.toNat))), some (.d (.int (1 + v))), some (.m (lT [nthT (allL n k) v2])), none, none]) PyData.int (rgI (3 * most))
    (fun _ e => ∃ c' left laid gone, e = [some (.p (pen c' b)), none, none, none, some (.m (lT left)), some (.d (.int (1 + v))), some (.m (lT laid)), none, none] ∧ (laid ++ left ++ gone).Perm (allL n k) ∧ laid ≠ [] ∧ (laid.length : Int) ≤ 1 + v)
    (range_items (by simp [hmul]; rfl) (by omega)) ⟨c2, _, [nthT (allL n k) v2], [], rfl, by simpa using p0, by simp, by rw [List.length_singleton]; omega⟩ (fun d x r e hd hR => by
      obtain ⟨c', left, laid, gone, rfl, hp, hne, hlen⟩ := hR
      refine ⟨_, rfl, ?_⟩
      unfold W_law_grown_1
      have hpl := hp.length_eq
      rw [List.length_append, List.length_append] at hpl
      by_cases hq : left = [] ∨ ¬ ((laid.length : Int) < 1 + v)
      · refine ⟨[some (.p (pen c' b)), none, none, none, some (.m (lT left)), some (.d (.int (1 + v))), some (.m (lT laid)), some (.d (.int x)), none], ?_, c', left, laid, gone, rfl, hp, hne, hlen⟩
        by_cases hl : left = []
        · simp [hl]
        · have : ¬ ((laid.length : Int) < 1 + v) := by rcases hq with h | h; exact absurd h hl; exact h
          simp [hl, this]
      · have hl : left ≠ [] := fun h => hq (.inl h)
        have hll : (laid.length : Int) < 1 + v := Classical.byContradiction fun h => hq (.inr h)
        have hlp : 0 < left.length := List.length_pos_iff.mpr hl
        obtain ⟨v3, c3, h3, d3⟩ := draw (c := c') (b := b) left.length (by omega)
        have hp2 := pop_perm (fs := laid) (l := left ++ gone) (v := v3) (a := allL n k) (by rw [List.length_append]; omega) (by rw [← List.append_assoc]; exact hp)
        have ei : (left ++ gone).eraseIdx v3.toNat = left.eraseIdx v3.toNat ++ gone := List.eraseIdx_append_of_lt_length (by omega) _
        have en : nthT (left ++ gone) v3 = nthT left v3 := by
          have : v3.toNat < left.length := by omega
          simp [nthT, List.getElem?_append_left this]
        rw [ei, en] at hp2
        have hmem : nthT left v3 ∈ allL n k := hp2.subset (by simp)
        have hF := (mem_allL hk.1).mp hmem
        have hFl := hF.len
        have hmay := E_law_may_v2 (fs := laid) (f := nthT left v3) (by omega) (by omega)
        cases hb : may2 laid (nthT left v3) with
        | true =>
          refine ⟨[some (.p (pen c3 b)), none, none, none, some (.m (lT (left.eraseIdx v3.toNat))), some (.d (.int (1 + v))), some (.m (lT (laid ++ [nthT left v3]))), some (.d (.int x)), some (.d (tI (nthT left v3)))], ?_, c3, _, laid ++ [nthT left v3], gone, rfl, by simpa using hp2, by simp, by simp; omega⟩
          simp [hl, hll, d3, pop_lT h3 (by omega), hmay, hb, app_lT (show laid.length < sizeLine by rw [sizeLine]; omega)]
        | false =>
          refine ⟨[some (.p (pen c3 b)), none, none, none, some (.m (lT (left.eraseIdx v3.toNat))), some (.d (.int (1 + v))), some (.m (lT laid)), some (.d (.int x)), some (.d (tI (nthT left v3)))], ?_, c3, _, laid, nthT left v3 :: gone, rfl, List.Perm.trans ?_ hp2, hne, hlen⟩
          · simp [hl, hll, d3, pop_lT h3 (by omega), hmay, hb]
          · simp only [List.append_assoc]
            refine List.Perm.append_left laid ?_
            rw [List.singleton_append]
            exact List.perm_middle)
  subst he
  have hsub : ∀ f ∈ laid, f ∈ allL n k := fun f hf => hp.subset (by simp [hf])
  have hnd2 : laid.Nodup := (hp.nodup_iff.mpr hnd).sublist (by rw [List.append_assoc]; exact List.sublist_append_left _ _)
  refine ⟨laid, c', fun f hf => (mem_allL hk.1).mp (hsub f hf), hnd2, hne, by omega, vfn_eval rfl rfl ?_⟩
  simp [E_law_every (n := n) (k := k) (by omega) hk.1, d1, d2, pop_lT h2 (by omega), sizeLine]
  rw [show PyData.list [tI (nthT (allL n k) v2)] = lT [nthT (allL n k) v2] from rfl, hfor]
  simp
end Lw
set_option Elab.async false
set_option linter.all false
set_option maxRecDepth 100000
set_option maxHeartbeats 1000000
namespace Lf
open PySem PySem.Spec PyProof.Rows L2 Pu
class LenLe {A : Type} (l : List A) (m : outParam Nat) : Prop where
  le : l.length ≤ m
class AllLe {A : Type} (l : List (List A)) (m : outParam Nat) : Prop where
  le : ∀ f ∈ l, f.length ≤ m
section
variable {A B : Type} {l a b : List A} {m n : Nat}
instance (priority := low) : LenLe l l.length := ⟨Nat.le_refl _⟩
instance : LenLe ([] : List A) 0 := ⟨Nat.le_refl _⟩
instance [h : LenLe l m] {x : A} : LenLe (x :: l) (m + 1) := ⟨by have := h.le; simp; omega⟩
instance [h : LenLe a m] [h2 : LenLe b n] : LenLe (a ++ b) (m + n) := ⟨by have := h.le; have := h2.le; simp; omega⟩
instance [h : LenLe l m] {p : A → Bool} : LenLe (l.filter p) m := ⟨Nat.le_trans (List.length_filter_le _ _) h.le⟩
instance [h : LenLe l m] {f : A → B} : LenLe (l.map f) m := ⟨by rw [List.length_map]; exact h.le⟩
instance [h : LenLe l m] {j : Nat} : LenLe (l.take j) m := ⟨by have := h.le; rw [List.length_take]; omega⟩
instance [h : LenLe l m] {j : Nat} : LenLe (l.drop j) m := ⟨by have := h.le; rw [List.length_drop]; omega⟩
instance [h : LenLe l m] : LenLe l.reverse m := ⟨by rw [List.length_reverse]; exact h.le⟩
instance [h : LenLe l m] {j : Nat} : LenLe (l.eraseIdx j) m := ⟨Nat.le_trans (List.length_eraseIdx_le _ _) h.le⟩
instance [h : LenLe l m] : LenLe (nexts l) m := ⟨Nat.le_trans (nexts_len l) h.le⟩
instance [h : LenLe l m] {r : List B} : LenLe (l.zip r) m := ⟨by have := h.le; rw [List.length_zip]; omega⟩
instance {l : List Int} [h : LenLe l m] : LenLe (sortI l) m := ⟨by unfold sortI; rw [List.length_mergeSort]; exact h.le⟩
instance {l : List (List Int)} [h : LenLe l m] : LenLe (sortT l) m := ⟨by unfold sortT; rw [List.length_mergeSort]; exact h.le⟩
instance {f : List Int} {p : Int} [h : LenLe f m] : LenLe (rest f p) m := ⟨Nat.le_trans (List.length_filter_le _ _) h.le⟩
instance {l : List (List A)} [h : AllLe l m] {p : List A → Bool} : AllLe (l.filter p) m := ⟨fun f hf => h.le f (List.mem_filter.mp hf).1⟩
instance {l : List (List A)} [h : AllLe l m] {j : Nat} : AllLe (l.take j) m := ⟨fun f hf => h.le f (List.mem_of_mem_take hf)⟩
instance {l : List (List A)} [h : AllLe l m] {j : Nat} : AllLe (l.drop j) m := ⟨fun f hf => h.le f (List.mem_of_mem_drop hf)⟩
instance : AllLe ([] : List (List A)) 0 := ⟨fun f hf => by cases hf⟩
instance {l : List (List A)} [h : AllLe l m] : AllLe l.reverse m := ⟨fun f hf => h.le f (List.mem_reverse.mp hf)⟩
instance {l : List (List Int)} [h : AllLe l m] : AllLe (sortT l) m := ⟨fun f hf => h.le f (by unfold sortT at hf; exact List.mem_mergeSort.mp hf)⟩
instance {fs : List (List Int)} {i : Int} [h : AllLe fs m] : LenLe (nthT fs i) m := ⟨by
  unfold nthT
  rw [List.getD_eq_getElem?_getD]
  cases hq : fs[i.toNat]? with
  | none => simp
  | some f => exact h.le f (List.mem_of_getElem? hq)⟩
end
class AbsLe (n : Int) (m : outParam Nat) : Prop where
  le : n.natAbs ≤ m
instance (priority := low) {n : Int} : AbsLe n n.natAbs := ⟨Nat.le_refl _⟩
instance {n : Int} {m : Nat} [h : AbsLe n m] : AbsLe (-n) m := ⟨by have := h.le; omega⟩
instance {a b : Int} {m n : Nat} [h : AbsLe a m] [h2 : AbsLe b n] : AbsLe (a + b) (m + n) := ⟨by have := h.le; have := h2.le; omega⟩
instance {a b : Int} {m n : Nat} [h : AbsLe a m] [h2 : AbsLe b n] : AbsLe (a - b) (m + n) := ⟨by have := h.le; have := h2.le; omega⟩
instance {a b : Int} {m n : Nat} [h : AbsLe a m] [h2 : AbsLe b n] : AbsLe (a * b) (m * n) := ⟨by rw [Int.natAbs_mul]; exact Nat.mul_le_mul h.le h2.le⟩
instance {A : Type} {l : List A} {m : Nat} [h : LenLe l m] : AbsLe (l.length : Int) m := ⟨by have := h.le; omega⟩
instance {n : Int} {m : Nat} [h : AbsLe n m] : LenLe (rgI n) m := ⟨by rw [length_rgI]; have := h.le; omega⟩
instance {c : Prop} [Decidable c] {a b : Int} {m n : Nat} [h : AbsLe a m] [h2 : AbsLe b n] : AbsLe (if c then a else b) (m + n) := ⟨by have := h.le; have := h2.le; split <;> omega⟩
def lLI (ls : List (List Int)) : PyData := .list (ls.map lI)
@[simp] theorem unlO_lLI (l : List (List Int)) : unlO (some (lLI l)) = some (lLI l) := rfl
@[simp] theorem isLk_lLI (l : List (List Int)) : isLk (lLI l) = false := rfl
class Mm {A : Type} (a : A) (l : outParam (List A)) : Prop where
  h : a ∈ l
class InR (l : List Int) (m : outParam Nat) : Prop where
  h : ∀ a ∈ l, 0 ≤ a ∧ a < m
set_option synthInstance.checkSynthOrder false in
instance {A : Type} {l : List (List A)} {a : List A} {m : Nat} [i : Mm a l] [h : AllLe l m] : LenLe a m := ⟨h.le a i.h⟩
def orFind {A B : Type} (o : Option A) (f : A → B) (k : B) : B := match o with
  | some a => f a
  | none => k
inductive TR where
  | stop (r : VS)
  | go (e : VE)
def VS.tr (ks : List Nat) : VS → TR
  | .next e => .go (mask ks e)
  | .cont e => .go (mask ks e)
  | .brk e => .stop (.next (mask ks e))
  | .ret r e => .stop (.ret r e)
  | .ex x e => .stop (.ex x e)
  | .bad => .stop .bad
def TR.run (r : TR) (k : VDS) : VS := match r with
  | .stop r => r
  | .go e => k e
def turnT (ks : List Nat) (tg : PyData → VE → Option VE) (body : VDS) (d : PyData) (w : VE) : TR := match tg d w with
  | none => .stop .bad
  | some e1 => VS.tr ks (body e1)
def optIf (b : Bool) (x : Rs VR) (T : VE) : Rs (Option VR) := if b = true then x.bind (fun r e => .ok (some r) e) else .ok none T
def oneC (tg : PyData → VE → Option VE) (tt : VDT) (elt : VD) (d : PyData) (w : VE) : Rs (Option VR) := match tg d w with
  | none => .bad
  | some e1 => (tt e1).bind fun b e2 => optIf b (elt e2) e2
def oneD (r : Option VE) (tt : VDT) (elt : VD) : Rs (Option VR) := match r with
  | none => .bad
  | some e1 => (tt e1).bind fun b e2 => optIf b (elt e2) e2
def lcA (r : Rs VItems) (vs : List Nat) (tg : PyData → VE → Option VE) (tt : VDT) (elt : VD) : Rs VR := r.bind fun a e1 => (lcV vs (vchk a) tg tt elt a.1 [] (wipeV e1 vs)).bind fun r e2 => .ok r (backV e1 vs e2)
def datC : Rs (Option VR) → Option PyData
  | .ok (some v) _ => (match v.fz with
    | .d d => some d
    | _ => none)
  | _ => none
def lcG {A : Type} (vs : List Nat) (chk : Bool) (l : List A) (w : VE) (f : (a : A) → Mm a l → Rs (Option VR)) : Prop := chk = true ∧ l.length ≤ sizeLine ∧ ∀ a (h : a ∈ l), ∃ r T, f a ⟨h⟩ = .ok r T ∧ wipeV T vs = w ∧ ∀ v, r = some v → ∃ d, v.fz = .d d
open Classical in
noncomputable def lcW {A : Type} (vs : List Nat) (chk : Bool) (l : List A) (w e3 : VE) (f : (a : A) → Mm a l → Rs (Option VR)) (o : Rs VR) : Rs VR := if lcG vs chk l w f then .ok (.o (.list (l.attach.filterMap fun a => datC (f a.1 ⟨a.2⟩)))) e3 else o
noncomputable def lcR (vs : List Nat) (chk : Bool) (n : Int) (w e3 : VE) (f : (a : Int) → 0 ≤ a ∧ a < n → Rs (Option VR)) (o : Rs VR) : Rs VR := lcW vs chk (rgI n) w e3 (fun a h => f a (mem_rgI.mp h.h)) o
noncomputable def lcB {A : Type} (chk : Bool) (w e3 : VE) (vs : List Nat) (l : List A) (enc : A → PyData) (tg : PyData → VE → Option VE) (tt : VDT) (elt : VD) (o : Rs VR) : Rs VR := lcW vs chk l w e3 (fun a _ => oneC tg tt elt (enc a) w) o
def forA (ks : List Nat) (r : Rs VItems) (tg : PyData → VE → Option VE) (body : VDS) : VS := r.go fun a e1 => match a.2 with
  | none => forV ks (fun _ => true) tg body a.1 (mask ks e1)
  | some (j, _) => if isOwn e1 j = true then unpinS j (forV ks (vchkP a) tg body a.1 (mask ks (pinV j e1))) else forV ks (vchkP a) tg body a.1 (mask ks e1)
def forL (ks : List Nat) (tg : PyData → VE → Option VE) (body : VDS) : List PyData → VDS
  | [], e => .next e
  | x :: xs, e => (turnT ks tg body x e).run (forL ks tg body xs)
def TR.stop? : TR → Option VS
  | .stop r => some r
  | .go _ => none
open Classical in
noncomputable def forW {A : Type} (l : List A) (w : VE) (f : (a : A) → Mm a l → TR) (o : VS) : VS := if ∀ a (h : a ∈ l), f a ⟨h⟩ = .go w ∨ ∃ r, f a ⟨h⟩ = .stop r then orFind (l.attach.findSome? fun a => (f a.1 ⟨a.2⟩).stop?) id (.next w) else o
noncomputable def forB {A : Type} (w : VE) (ks : List Nat) (l : List A) (enc : A → PyData) (tg : PyData → VE → Option VE) (body : VDS) (o : VS) : VS := forW l w (fun a _ => turnT ks tg body (enc a) w) o
noncomputable def forR (n : Int) (w : VE) (f : (a : Int) → 0 ≤ a ∧ a < n → TR) (o : VS) : VS := forW (rgI n) w (fun a h => f a (mem_rgI.mp h.h)) o
theorem findSome_att {A B : Type} (l : List A) (f : A → Option B) : (l.attach.findSome? fun a => f a.1) = l.findSome? f := by
  conv => rhs; rw [← List.attach_map_subtype_val l, List.findSome?_map]
  rfl
theorem filterMap_att {A B : Type} (l : List A) (f : A → Option B) : (l.attach.filterMap fun a => f a.1) = l.filterMap f := by
  conv => rhs; rw [← List.attach_map_subtype_val l, List.filterMap_map]
  rfl
theorem forV_L (ks : List Nat) (tg : PyData → VE → Option VE) (body : VDS) : ∀ (xs : List PyData) (e : VE), forV ks (fun _ => true) tg body xs e = forL ks tg body xs e
  | [], e => by unfold forV forL; rfl
  | x :: xs, e => by
    unfold forV forL turnT
    simp only [if_true]
    cases tg x e with
    | none => rfl
    | some e1 =>
      simp only []
      cases hb : body e1 <;> simp only [VS.tr, TR.run, forV_L ks tg body xs]
theorem forW_eq {A : Type} (ks : List Nat) (tg : PyData → VE → Option VE) (body : VDS) (enc : A → PyData) (l : List A) (w : VE) (o : VS) (ho : o = forL ks tg body (l.map enc) w) : o = forW l w (fun a _ => turnT ks tg body (enc a) w) o := by
  unfold forW
  split
  · rename_i h
    rw [findSome_att l fun a => (turnT ks tg body (enc a) w).stop?]
    subst ho
    induction l with
    | nil => rfl
    | cons a l ih =>
      rw [List.map_cons]
      unfold forL
      rcases h a List.mem_cons_self with h1 | ⟨r, h1⟩
      · replace h1 : turnT ks tg body (enc a) w = TR.go w := h1
        rw [h1]
        simp only [TR.run, List.findSome?_cons, h1, TR.stop?]
        exact ih fun b hb => h b (List.mem_cons_of_mem _ hb)
      · replace h1 : turnT ks tg body (enc a) w = TR.stop r := h1
        rw [h1]
        simp only [TR.run, List.findSome?_cons, h1, TR.stop?, orFind, id]
  · rfl
theorem lcV_acc {vs : List Nat} {chk : VE → Bool} {tg : PyData → VE → Option VE} {tt : VDT} {elt : VD} {A : Type} (enc : A → PyData) {w : VE} : ∀ (l : List A) (acc : List PyData), chk w = true → acc.length + l.length ≤ sizeLine → (∀ a ∈ l, ∃ r T, oneC tg tt elt (enc a) w = .ok r T ∧ wipeV T vs = w ∧ ∀ v, r = some v → ∃ d, v.fz = .d d) →
    lcV vs chk tg tt elt (l.map enc) acc w = .ok (.o (.list (acc ++ l.filterMap fun a => datC (oneC tg tt elt (enc a) w)))) w
  | [], acc, hc, hl, h => by
    rw [List.map_nil]
    unfold lcV
    rw [if_pos ⟨hc, by simpa using hl⟩]
    simp
  | a :: l, acc, hc, hl, h => by
    obtain ⟨r, T, h1, h2, h3⟩ := h a List.mem_cons_self
    have ih := fun acc hl => lcV_acc (vs := vs) (chk := chk) (tg := tg) (tt := tt) (elt := elt) enc l acc hc hl fun b hb => h b (List.mem_cons_of_mem _ hb)
    rw [List.length_cons] at hl
    rw [List.map_cons]
    unfold lcV
    rw [if_pos hc]
    rw [List.filterMap_cons, h1]
    unfold oneC at h1
    cases ht : tg (enc a) w with
    | none => rw [ht] at h1; cases h1
    | some e1 =>
      rw [ht] at h1
      simp only [] at h1 ⊢
      cases hb : tt e1 with
      | bad => rw [hb] at h1; cases h1
      | ex x e2 => rw [hb] at h1; cases h1
      | ok b e2 =>
        rw [hb] at h1
        simp only [Rs.bind] at h1
        unfold optIf at h1
        cases b with
        | false =>
          simp only [Bool.false_eq_true, if_false] at h1
          cases h1
          simp only [h2, datC]
          exact ih acc (by omega)
        | true =>
          simp only [if_true] at h1
          cases he : elt e2 with
          | bad => rw [he] at h1; cases h1
          | ex x e2 => rw [he] at h1; cases h1
          | ok v e3 =>
            rw [he] at h1
            simp only [Rs.bind] at h1
            cases h1
            obtain ⟨d, hd⟩ := h3 v rfl
            simp only [he, hd]
            rw [if_pos (by omega), h2]
            rw [ih (acc ++ [d]) (by simp; omega)]
            have hdat : datC (Rs.ok (some v) T) = some d := by simp only [datC, hd]
            rw [hdat]
            simp
theorem lcW_eq {A : Type} (enc : A → PyData) (l : List A) (o : Option (Nat × List PyData)) (e1 : VE) (vs : List Nat) (tg : PyData → VE → Option VE) (tt : VDT) (elt : VD) :
    lcA (.ok (l.map enc, o) e1) vs tg tt elt = lcW vs (vchk (l.map enc, o) (wipeV e1 vs)) l (wipeV e1 vs) (backV e1 vs (wipeV e1 vs)) (fun a _ => oneC tg tt elt (enc a) (wipeV e1 vs)) (lcA (.ok (l.map enc, o) e1) vs tg tt elt) := by
  unfold lcW
  split
  · rename_i h
    obtain ⟨h1, h2, h3⟩ := h
    show (lcV vs (vchk (l.map enc, o)) tg tt elt (l.map enc) [] (wipeV e1 vs)).bind (fun r e2 => .ok r (backV e1 vs e2)) = _
    rw [lcV_acc enc l [] h1 (by simpa using h2) h3, filterMap_att l fun a => datC (oneC tg tt elt (enc a) (wipeV e1 vs))]
    rfl
  · rfl
def rangeR (n : Int) (e : VE) : Rs VItems := if n.natAbs < 2 ^ 62 then .ok (rgD 0 n, none) e else .bad
def k_vaCons1 (r : VR) (rs : List VR) (e2 : VE) : Rs (List VR) := .ok (r.fz :: rs) e2
def k_vaCons2 (g : VDA) (r : VR) (e1 : VE) : Rs (List VR) := (g e1).bind (k_vaCons1 r)
def k_vdBin1 (F : PyData → PyData → Option Rv) (x : VR) (y : VR) (e2 : VE) : Rs VR := vopR F x y e2
def k_vdBin2 (F : PyData → PyData → Option Rv) (g : VD) (x : VR) (e1 : VE) : Rs VR := (g e1).bind (k_vdBin1 F x)
def k_vdNeg1 (x : VR) (e1 : VE) : Rs VR := match x with
  | .d (.int n) => .ok (.d (.int (-n))) e1
  | _ => .bad
def k_vdChain1 (F' : PyData → PyData → Option Rv) (y : VR) (w : VR) (e5 : VE) : Rs VR := vopR F' y w e5
def k_vdChain2 (F' : PyData → PyData → Option Rv) (h : VD) (y : VR) (b : Bool) (e4 : VE) : Rs VR := if b = true then (h e4).bind (k_vdChain1 F' y) else .ok (.d (.bool false)) e4
def k_vdChain3 (F' : PyData → PyData → Option Rv) (h : VD) (y : VR) (z : VR) (e3 : VE) : Rs VR := (vasB z e3).bind (k_vdChain2 F' h y)
def k_vdChain4 (F : PyData → PyData → Option Rv) (F' : PyData → PyData → Option Rv) (h : VD) (x : VR) (y : VR) (e2 : VE) : Rs VR := (vopR F x y e2).bind (k_vdChain3 F' h y)
def k_vdChain5 (F : PyData → PyData → Option Rv) (F' : PyData → PyData → Option Rv) (g : VD) (h : VD) (x : VR) (e1 : VE) : Rs VR := (g e1).bind (k_vdChain4 F F' h x)
def k_vdIsN1 (x : VR) (e1 : VE) : Rs VR := .ok (.d (.bool x.isN)) e1
def k_vdNotN1 (x : VR) (e1 : VE) : Rs VR := .ok (.d (.bool (!x.isN))) e1
def k_vdAnd1 (g : VD) (b : Bool) (e2 : VE) : Rs VR := if b = true then g e2 else .ok (.d (.bool false)) e2
def k_vdAnd2 (g : VD) (x : VR) (e1 : VE) : Rs VR := (vasB x e1).bind (k_vdAnd1 g)
def k_vdOr1 (g : VD) (b : Bool) (e2 : VE) : Rs VR := if b = true then .ok (.d (.bool true)) e2 else g e2
def k_vdOr2 (g : VD) (x : VR) (e1 : VE) : Rs VR := (vasB x e1).bind (k_vdOr1 g)
def k_vdNot1 (b : Bool) (e2 : VE) : Rs VR := .ok (.d (.bool (!b))) e2
def k_vdNot2 (x : VR) (e1 : VE) : Rs VR := (vasB x e1).bind (k_vdNot1)
def k_vtAndD1 (g : VDT) (b : Bool) (e1 : VE) : Rs Bool := if b = true then g e1 else .ok false e1
def k_vtOrD1 (g : VDT) (b : Bool) (e1 : VE) : Rs Bool := if b = true then .ok true e1 else g e1
def k_vtNotD1 (b : Bool) (e1 : VE) : Rs Bool := .ok (!b) e1
def k_vdIf1 (f : VD) (g : VD) (b : Bool) (e1 : VE) : Rs VR := if b = true then f e1 else g e1
def k_vdIx1 (x : VR) (y : VR) (e2 : VE) : Rs VR := vixR x y e2
def k_vdIx2 (g : VD) (x : VR) (e1 : VE) : Rs VR := (g e1).bind (k_vdIx1 x)
def k_vdCB1 (F : List VR → VE → Option Rv) (ws : List VR) (e1 : VE) : Rs VR := vofR (F ws e1) e1
def k_vdIsi1 (Ts : List String) (x : VR) (e1 : VE) : Rs VR := match x.rdK e1 with
  | some d => .ok (.d (.bool (isV Ts d))) e1
  | none => .bad
def k_vdTupRg1 (n : Int) (e2 : VE) : Rs VR := if rgOk 0 n = true then .ok (.d (.tuple (rgD 0 n))) e2 else .bad
def k_vdTupRg2 (x : VR) (e1 : VE) : Rs VR := (vasI x e1).bind (k_vdTupRg1)
def k_vdLstRg1 (n : Int) (e2 : VE) : Rs VR := if rgOk 0 n = true then .ok (.o (.list (rgD 0 n))) e2 else .bad
def k_vdLstRg2 (x : VR) (e1 : VE) : Rs VR := (vasI x e1).bind (k_vdLstRg1)
def k_vpYes1 (n : Int) (e2 : VE) : Rs (Option Int) := .ok (some n) e2
def k_vpYes2 (x : VR) (e1 : VE) : Rs (Option Int) := (vasI x e1).bind (k_vpYes1)
def k_vdSl1 (x : VR) (l : Option Int) (h : Option Int) (e3 : VE) : Rs VR := vslR x l h e3
def k_vdSl2 (hi : VE → Rs (Option Int)) (x : VR) (l : Option Int) (e2 : VE) : Rs VR := (hi e2).bind (k_vdSl1 x l)
def k_vdSl3 (lo : VE → Rs (Option Int)) (hi : VE → Rs (Option Int)) (x : VR) (e1 : VE) : Rs VR := (lo e1).bind (k_vdSl2 hi x)
def k_vdMt1 (F : VMt) (o : VR) (ws : List VR) (e2 : VE) : Rs VR := vmtR F o ws e2
def k_vdMt2 (F : VMt) (fa : VDA) (o : VR) (e1 : VE) : Rs VR := if visL o e1 = true then (fa e1).bind (k_vdMt1 F o) else .bad
def k_viRange1 (n : Int) (e2 : VE) : Rs VItems := rangeR n e2
def k_viRange2 (x : VR) (e1 : VE) : Rs VItems := (vasI x e1).bind (k_viRange1)
def k_viRange21 (a : Int) (b : Int) (e4 : VE) : Rs VItems := if a.natAbs < 2 ^ 62 ∧ b.natAbs < 2 ^ 62 then .ok (rgD a b, none) e4 else .bad
def k_viRange22 (a : Int) (y : VR) (e3 : VE) : Rs VItems := (vasI y e3).bind (k_viRange21 a)
def k_viRange23 (g : VD) (a : Int) (e2 : VE) : Rs VItems := (g e2).bind (k_viRange22 a)
def k_viRange24 (g : VD) (x : VR) (e1 : VE) : Rs VItems := (vasI x e1).bind (k_viRange23 g)
def k_vsIf1 (f : VDS) (g : VDS) (b : Bool) (e1 : VE) : VS := if b = true then f e1 else g e1
def k_vsRet1 (r : VR) (e1 : VE) : VS := .ret r e1
def k_vsDrop1 (u : VR) (e1 : VE) : VS := .next e1
def k_vsAsgT1 (tg : PyData → VE → Option VE) (r : VR) (e1 : VE) : VS := match r.fz with
  | .d x => (match tg x e1 with
    | some e2 => .next e2
    | none => .bad)
  | _ => .bad
def k_vsSet1 (x : VR) (o : VR) (k : VR) (e3 : VE) : VS := vsetR o.fz k.fz x.fz e3
def k_vsSet2 (fi : VD) (x : VR) (o : VR) (e2 : VE) : VS := (fi e2).go (k_vsSet1 x o)
def k_vsSet3 (fo : VD) (fi : VD) (x : VR) (e1 : VE) : VS := (fo e1).go (k_vsSet2 fi x)
def k_vsPar1 (i : Nat) (j : Nat) (al : Bool) (bl : Bool) (r : VR) (q : VR) (e2 : VE) : VS := match vtakeR al r, vtakeR bl q with
  | some v, some u => if e2.free i = true ∧ e2.free j = true then .next ((e2.set i (some v)).set j (some u)) else .bad
  | _, _ => .bad
def k_vsPar2 (i : Nat) (j : Nat) (al : Bool) (bl : Bool) (g : VD) (r : VR) (e1 : VE) : VS := (g e1).go (k_vsPar1 i j al bl r)
def k_vdMr1 (F : PyData → PyData → Option Rv) (o : VR) (ws : List VR) (e2 : VE) : Rs VR := vmrR F o ws e2
def k_vdMr2 (F : PyData → PyData → Option Rv) (fa : VDA) (o : VR) (e1 : VE) : Rs VR := if visRL o e1 = true then (fa e1).bind (k_vdMr1 F o) else .bad
def k_one (elt : VD) (b : Bool) (e2 : VE) : Rs (Option VR) := optIf b (elt e2) e2
def isLO : Option PyData → Bool
  | some (.list _) => true
  | _ => false
def seqM (j : Nat) : Option PyData → Option (Bool × VItems)
  | some (.list ds) => some (false, ds, some (j, ds))
  | _ => none
def lcO (r : Rs VItems) (vs : List Nat) (tg : PyData → VE → Option VE) (tt : VDT) (elt : VD) : Rs VR := lcA r vs tg tt elt
def forO (ks : List Nat) (r : Rs VItems) (tg : PyData → VE → Option VE) (body : VDS) : VS := forA ks r tg body
end Lf
namespace Lx
open PySem PySem.Spec PyProof.Rows L2 Lf Pu
@[scoped simp] theorem lcR_W {vs : List Nat} {c : Bool} {n : Int} {w e : VE} {f : Int → Rs (Option VR)} {o : Rs VR} : lcR vs c n w e (fun a _ => f a) o = lcW vs c (rgI n) w e (fun a _ => f a) o := id rfl
@[scoped simp] theorem forR_W {n : Int} {w : VE} {f : Int → TR} {o : VS} : forR n w (fun a _ => f a) o = forW (rgI n) w (fun a _ => f a) o := id rfl
section
variable {A B : Type}
@[scoped simp] theorem bind_ok (a : A) (e : VE) (k : A → VE → Rs B) : (Rs.ok a e).bind k = k a e := id rfl
@[scoped simp] theorem bind_ex (x : Xn) (e : VE) (k : A → VE → Rs B) : (Rs.ex x e).bind k = .ex x e := id rfl
@[scoped simp] theorem bind_bad (k : A → VE → Rs B) : (Rs.bad).bind k = .bad := id rfl
@[scoped simp] theorem go_ok (a : A) (e : VE) (k : A → VE → VS) : (Rs.ok a e).go k = k a e := id rfl
@[scoped simp] theorem go_ex (x : Xn) (e : VE) (k : A → VE → VS) : (Rs.ex x e).go k = .ex x e := id rfl
@[scoped simp] theorem go_bad (k : A → VE → VS) : (Rs.bad).go k = .bad := id rfl
@[scoped simp] theorem then_next (e : VE) (g : VDS) : (VS.next e).then g = g e := id rfl
@[scoped simp] theorem then_ret (r : VR) (e : VE) (g : VDS) : (VS.ret r e).then g = .ret r e := id rfl
@[scoped simp] theorem then_brk (e : VE) (g : VDS) : (VS.brk e).then g = .brk e := id rfl
@[scoped simp] theorem then_cont (e : VE) (g : VDS) : (VS.cont e).then g = .cont e := id rfl
@[scoped simp] theorem then_ex (x : Xn) (e : VE) (g : VDS) : (VS.ex x e).then g = .ex x e := id rfl
@[scoped simp] theorem then_bad (g : VDS) : (VS.bad).then g = .bad := id rfl
@[scoped simp] theorem end_next (n : Nat) (e : VE) : vendR n (.next e) = .ok (.d .none) (keepP n e) := id rfl
@[scoped simp] theorem end_d (n : Nat) (e : VE) (x : PyData) : vendR n (.ret (.d x) e) = .ok (.d x) (keepP n e) := id rfl
@[scoped simp] theorem end_o (n : Nat) (e : VE) (x : PyData) : vendR n (.ret (.o x) e) = .ok (.o x) (keepP n e) := id rfl
@[scoped simp] theorem end_k (n : Nat) (e : VE) (x : List PyData) : vendR n (.ret (.k x) e) = .ok (.k x) (keepP n e) := id rfl
def refR (n : Nat) (e : VE) : Option (Option VV) → Rs VR
  | some (some (.m x)) => if isLk x = true then .bad else .ok (.o x) (keepP n e)
  | _ => .bad
@[scoped simp] theorem end_ref (n : Nat) (e : VE) (j : Nat) : vendR n (.ret (.ref j) e) = refR n e e[j]? := id rfl
@[scoped simp] theorem refR_m (n : Nat) (e : VE) (x : PyData) (h : isLk x = false) : refR n e (some (some (.m x))) = .ok (.o x) (keepP n e) := by unfold refR; simp only [h]; rfl
@[scoped simp high] theorem x_unlO (x : PyData) (h : isLk x = false) : unlO (some x) = some x := unlO_ok h
@[scoped simp] theorem end_ex (n : Nat) (e : VE) (x : Xn) : vendR n (.ex x e) = .ex x (keepP n e) := id rfl
@[scoped simp] theorem end_bad (n : Nat) : vendR n .bad = .bad := id rfl
@[scoped simp] theorem tr_next (ks : List Nat) (e : VE) : VS.tr ks (.next e) = .go (mask ks e) := id rfl
@[scoped simp] theorem tr_cont (ks : List Nat) (e : VE) : VS.tr ks (.cont e) = .go (mask ks e) := id rfl
@[scoped simp] theorem tr_brk (ks : List Nat) (e : VE) : VS.tr ks (.brk e) = .stop (.next (mask ks e)) := id rfl
@[scoped simp] theorem tr_ret (ks : List Nat) (r : VR) (e : VE) : VS.tr ks (.ret r e) = .stop (.ret r e) := id rfl
@[scoped simp] theorem tr_ex (ks : List Nat) (x : Xn) (e : VE) : VS.tr ks (.ex x e) = .stop (.ex x e) := id rfl
@[scoped simp] theorem tr_bad (ks : List Nat) : VS.tr ks .bad = .stop .bad := id rfl
@[scoped simp] theorem run_stop (r : VS) (k : VDS) : (TR.stop r).run k = r := id rfl
@[scoped simp] theorem run_go (e : VE) (k : VDS) : (TR.go e).run k = k e := id rfl
@[scoped simp high] theorem get0 (x : Option VV) (l : VE) : (x :: l)[0]? = some x := by simp
@[scoped simp high] theorem getS (x : Option VV) (l : VE) (j : Nat) : (x :: l)[j + 1]? = l[j]? := by simp
variable {c : Prop} [Decidable c]
@[scoped simp] theorem then_ite (a b : VS) (g : VDS) : (if c then a else b).then g = if c then a.then g else b.then g := by split <;> rfl
@[scoped simp] theorem tr_ite (ks : List Nat) (a b : VS) : VS.tr ks (if c then a else b) = if c then VS.tr ks a else VS.tr ks b := by split <;> rfl
@[scoped simp] theorem run_ite (a b : TR) (k : VDS) : (if c then a else b).run k = if c then a.run k else b.run k := by split <;> rfl
@[scoped simp] theorem end_ite (a b : VS) (n : Nat) : vendR n (if c then a else b) = if c then vendR n a else vendR n b := by split <;> rfl
@[scoped simp] theorem bind_ite (a b : Rs A) (k : A → VE → Rs B) : (if c then a else b).bind k = if c then a.bind k else b.bind k := by split <;> rfl
@[scoped simp] theorem go_ite (a b : Rs A) (k : A → VE → VS) : (if c then a else b).go k = if c then a.go k else b.go k := by split <;> rfl
@[scoped simp] theorem ok_ite_B (x y : Bool) (e : VE) : (if c then Rs.ok (VR.d (.bool x)) e else Rs.ok (VR.d (.bool y)) e) = Rs.ok (VR.d (.bool (if c then x else y))) e := by split <;> rfl
@[scoped simp] theorem ok_ite_I (x y : Int) (e : VE) : (if c then Rs.ok (VR.d (.int x)) e else Rs.ok (VR.d (.int y)) e) = Rs.ok (VR.d (.int (if c then x else y))) e := by split <;> rfl
@[scoped simp] theorem ok_ite_b (x y : Bool) (e : VE) : (if c then Rs.ok x e else Rs.ok y e) = Rs.ok (if c then x else y) e := by split <;> rfl
@[scoped simp] theorem ok_ite_tI (x y : List Int) (e : VE) : (if c then Rs.ok (VR.d (tI x)) e else Rs.ok (VR.d (tI y)) e) = Rs.ok (VR.d (tI (if c then x else y))) e := by split <;> rfl
@[scoped simp] theorem tr_or {d : Prop} [Decidable d] (x : VS) (y : TR) : (if c then TR.stop x else if d then TR.stop x else y) = if c ∨ d then TR.stop x else y := by
  by_cases h : c
  · simp [h]
  · simp [h]
@[scoped simp] theorem orFind_then (o : Option A) (f : A → VS) (k : VS) (g : VDS) : (orFind o f k).then g = orFind o (fun a => (f a).then g) (k.then g) := by cases o <;> rfl
@[scoped simp] theorem orFind_end (o : Option A) (f : A → VS) (k : VS) (n : Nat) : vendR n (orFind o f k) = orFind o (fun a => vendR n (f a)) (vendR n k) := by cases o <;> rfl
@[scoped simp] theorem orFind_tr (o : Option A) (f : A → VS) (k : VS) (ks : List Nat) : VS.tr ks (orFind o f k) = orFind o (fun a => VS.tr ks (f a)) (VS.tr ks k) := by cases o <;> rfl
@[scoped simp] theorem orFind_run (o : Option A) (f : A → TR) (k : TR) (g : VDS) : (orFind o f k).run g = orFind o (fun a => (f a).run g) (k.run g) := by cases o <;> rfl
theorem orFind_const (l : List A) (p : A → Bool) (x k : B) : orFind (l.find? p) (fun _ => x) k = if l.any p = true then x else k := by
  cases h : l.find? p with
  | none =>
    have : l.any p = false := by rw [List.any_eq_false]; exact fun x hx => by simpa using (List.find?_eq_none.mp h) x hx
    simp [orFind, this]
  | some a =>
    have : l.any p = true := by rw [List.any_eq_true]; exact ⟨a, List.mem_of_find?_eq_some h, List.find?_some h⟩
    simp [orFind, this]
@[scoped simp] theorem orFind_bool (l : List A) (p : A → Bool) (x y : Bool) (e : VE) : orFind (l.find? p) (fun _ => Rs.ok (VR.d (.bool x)) e) (Rs.ok (VR.d (.bool y)) e) = Rs.ok (VR.d (.bool (bif l.any p then x else y))) e := by
  rw [orFind_const]
  cases l.any p <;> rfl
end
@[scoped simp high] theorem vitR_tI (l : List Int) (e : VE) : vitR (.d (tI l)) e = .ok (l.map .int, none) e := rfl
@[scoped simp high] theorem vitR_lI (l : List Int) (e : VE) : vitR (.d (lI l)) e = .ok (l.map .int, none) e := rfl
@[scoped simp high] theorem vitR_tT (l : List (List Int)) (e : VE) : vitR (.d (tT l)) e = .ok (l.map tI, none) e := rfl
@[scoped simp high] theorem vitR_lT (l : List (List Int)) (e : VE) : vitR (.d (lT l)) e = .ok (l.map tI, none) e := rfl
@[scoped simp high] theorem vitR_lB (l : List Bool) (e : VE) : vitR (.d (lB l)) e = .ok (l.map .bool, none) e := rfl
@[scoped simp high] theorem vitR_oI (l : List Int) (e : VE) : vitR (.o (lI l)) e = .ok (l.map .int, none) e := rfl
@[scoped simp high] theorem vitR_oT (l : List (List Int)) (e : VE) : vitR (.o (lT l)) e = .ok (l.map tI, none) e := rfl
@[scoped simp high] theorem vitR_oB (l : List Bool) (e : VE) : vitR (.o (lB l)) e = .ok (l.map .bool, none) e := rfl
@[scoped simp high] theorem vitR_dl (l : List PyData) (e : VE) : vitR (.d (.list l)) e = .ok (l, none) e := rfl
@[scoped simp high] theorem vitR_ol (l : List PyData) (e : VE) : vitR (.o (.list l)) e = .ok (l, none) e := rfl
@[scoped simp high] theorem vitR_dt (l : List PyData) (e : VE) : vitR (.d (.tuple l)) e = .ok (l, none) e := rfl
@[scoped simp high] theorem vitR_k (l : List PyData) (e : VE) : vitR (.k l) e = .ok (l, none) e := rfl
def itM (j : Nat) (e : VE) : Option PyData → Rs VItems
  | some (.list ds) => .ok (ds, some (j, ds)) e
  | _ => .bad
@[scoped simp high] theorem vitR_ref (j : Nat) (e : VE) : vitR (.ref j) e = itM j e (slotM e j) := rfl
@[scoped simp high] theorem itM_lI (j : Nat) (e : VE) (l : List Int) : itM j e (some (lI l)) = .ok (l.map .int, some (j, l.map .int)) e := rfl
@[scoped simp high] theorem itM_lT (j : Nat) (e : VE) (l : List (List Int)) : itM j e (some (lT l)) = .ok (l.map tI, some (j, l.map tI)) e := rfl
@[scoped simp high] theorem itM_l (j : Nat) (e : VE) (l : List PyData) : itM j e (some (.list l)) = .ok (l, some (j, l)) e := rfl
@[scoped simp high] theorem vseqC_tI (l : List Int) (e : VE) : vseqC (.d (tI l)) e = some (true, l.map .int, none) := rfl
@[scoped simp high] theorem vseqC_tT (l : List (List Int)) (e : VE) : vseqC (.d (tT l)) e = some (true, l.map tI, none) := rfl
@[scoped simp high] theorem vseqC_lI (l : List Int) (e : VE) : vseqC (.d (lI l)) e = some (false, l.map .int, none) := rfl
@[scoped simp high] theorem vseqC_lT (l : List (List Int)) (e : VE) : vseqC (.d (lT l)) e = some (false, l.map tI, none) := rfl
@[scoped simp] theorem rangeR_ok {n : Int} {m : Nat} [h : AbsLe n m] (hm : m ≤ 1000000000) (e : VE) : rangeR n e = .ok ((rgI n).map .int, none) e := by
  have : n.natAbs < 2 ^ 62 := by have := h.le; omega
  simp only [rangeR, if_pos this, rgD_rgI]
@[scoped simp] theorem rgOk_ok {n : Int} {m : Nat} [h : AbsLe n m] (hm : m ≤ 1000000) : rgOk 0 n = true := by have := h.le; simp; omega
@[scoped simp ↓] theorem x_vdVar (j : Nat) (e : VE) : vdVar j e = match e[j]? with
  | some (some (.d x)) => .ok (.d x) e
  | some (some (.k x)) => .ok (.k x) e
  | some (some (.f x)) => .ok (.f x) e
  | some (some (.m _)) => .ok (.ref j) e
  | some (some (.p _)) => .ok (.ref j) e
  | _ => .bad := id rfl
@[scoped simp ↓] theorem x_vdC (x : PyData) (e : VE) : vdC x e = .ok (.d x) e := id rfl
@[scoped simp ↓] theorem x_vdF (x : Addr) (e : VE) : vdF x e = .ok (.f x) e := id rfl
@[scoped simp ↓] theorem x_vaNil (e : VE) : vaNil e = .ok [] e := id rfl
@[scoped simp ↓] theorem x_k_vaCons1 (r : VR) (rs : List VR) (e2 : VE) : k_vaCons1 r rs e2 = .ok (r.fz :: rs) e2 := id rfl
@[scoped simp ↓] theorem x_k_vaCons2 (g : VDA) (r : VR) (e1 : VE) : k_vaCons2 g r e1 = (g e1).bind (k_vaCons1 r) := id rfl
@[scoped simp ↓] theorem x_vaCons (f : VD) (g : VDA) (e : VE) : vaCons f g e = (f e).bind (k_vaCons2 g) := id rfl
@[scoped simp ↓] theorem x_vdTup (f : VDA) (e : VE) : vdTup f e = (f e).bind vtupR := id rfl
@[scoped simp ↓] theorem x_vdLst (f : VDA) (e : VE) : vdLst f e = (f e).bind vlstR := id rfl
@[scoped simp ↓] theorem x_k_vdBin1 (F : PyData → PyData → Option Rv) (x : VR) (y : VR) (e2 : VE) : k_vdBin1 F x y e2 = vopR F x y e2 := id rfl
@[scoped simp ↓] theorem x_k_vdBin2 (F : PyData → PyData → Option Rv) (g : VD) (x : VR) (e1 : VE) : k_vdBin2 F g x e1 = (g e1).bind (k_vdBin1 F x) := id rfl
@[scoped simp ↓] theorem x_vdBin (F : PyData → PyData → Option Rv) (f g : VD) (e : VE) : vdBin F f g e = (f e).bind (k_vdBin2 F g) := id rfl
@[scoped simp ↓] theorem x_k_vdNeg1 (x : VR) (e1 : VE) : k_vdNeg1 x e1 = match x with
  | .d (.int n) => .ok (.d (.int (-n))) e1
  | _ => .bad := id rfl
@[scoped simp ↓] theorem x_vdNeg (f : VD) (e : VE) : vdNeg f e = (f e).bind (k_vdNeg1) := id rfl
@[scoped simp ↓] theorem x_k_vdChain1 (F' : PyData → PyData → Option Rv) (y : VR) (w : VR) (e5 : VE) : k_vdChain1 F' y w e5 = vopR F' y w e5 := id rfl
@[scoped simp ↓] theorem x_k_vdChain2 (F' : PyData → PyData → Option Rv) (h : VD) (y : VR) (b : Bool) (e4 : VE) : k_vdChain2 F' h y b e4 = if b = true then (h e4).bind (k_vdChain1 F' y) else .ok (.d (.bool false)) e4 := id rfl
@[scoped simp ↓] theorem x_k_vdChain3 (F' : PyData → PyData → Option Rv) (h : VD) (y : VR) (z : VR) (e3 : VE) : k_vdChain3 F' h y z e3 = (vasB z e3).bind (k_vdChain2 F' h y) := id rfl
@[scoped simp ↓] theorem x_k_vdChain4 (F : PyData → PyData → Option Rv) (F' : PyData → PyData → Option Rv) (h : VD) (x : VR) (y : VR) (e2 : VE) : k_vdChain4 F F' h x y e2 = (vopR F x y e2).bind (k_vdChain3 F' h y) := id rfl
@[scoped simp ↓] theorem x_k_vdChain5 (F : PyData → PyData → Option Rv) (F' : PyData → PyData → Option Rv) (g : VD) (h : VD) (x : VR) (e1 : VE) : k_vdChain5 F F' g h x e1 = (g e1).bind (k_vdChain4 F F' h x) := id rfl
@[scoped simp ↓] theorem x_vdChain (F F' : PyData → PyData → Option Rv) (f g h : VD) (e : VE) : vdChain F F' f g h e = (f e).bind (k_vdChain5 F F' g h) := id rfl
@[scoped simp ↓] theorem x_k_vdIsN1 (x : VR) (e1 : VE) : k_vdIsN1 x e1 = .ok (.d (.bool x.isN)) e1 := id rfl
@[scoped simp ↓] theorem x_vdIsN (f : VD) (e : VE) : vdIsN f e = (f e).bind (k_vdIsN1) := id rfl
@[scoped simp ↓] theorem x_k_vdNotN1 (x : VR) (e1 : VE) : k_vdNotN1 x e1 = .ok (.d (.bool (!x.isN))) e1 := id rfl
@[scoped simp ↓] theorem x_vdNotN (f : VD) (e : VE) : vdNotN f e = (f e).bind (k_vdNotN1) := id rfl
@[scoped simp ↓] theorem x_vtst (f : VD) (e : VE) : vtst f e = (f e).bind vasB := id rfl
@[scoped simp ↓] theorem x_k_vdAnd1 (g : VD) (b : Bool) (e2 : VE) : k_vdAnd1 g b e2 = if b = true then g e2 else .ok (.d (.bool false)) e2 := id rfl
@[scoped simp ↓] theorem x_k_vdAnd2 (g : VD) (x : VR) (e1 : VE) : k_vdAnd2 g x e1 = (vasB x e1).bind (k_vdAnd1 g) := id rfl
@[scoped simp ↓] theorem x_vdAnd (f g : VD) (e : VE) : vdAnd f g e = (f e).bind (k_vdAnd2 g) := id rfl
@[scoped simp ↓] theorem x_k_vdOr1 (g : VD) (b : Bool) (e2 : VE) : k_vdOr1 g b e2 = if b = true then .ok (.d (.bool true)) e2 else g e2 := id rfl
@[scoped simp ↓] theorem x_k_vdOr2 (g : VD) (x : VR) (e1 : VE) : k_vdOr2 g x e1 = (vasB x e1).bind (k_vdOr1 g) := id rfl
@[scoped simp ↓] theorem x_vdOr (f g : VD) (e : VE) : vdOr f g e = (f e).bind (k_vdOr2 g) := id rfl
@[scoped simp ↓] theorem x_k_vdNot1 (b : Bool) (e2 : VE) : k_vdNot1 b e2 = .ok (.d (.bool (!b))) e2 := id rfl
@[scoped simp ↓] theorem x_k_vdNot2 (x : VR) (e1 : VE) : k_vdNot2 x e1 = (vasB x e1).bind (k_vdNot1) := id rfl
@[scoped simp ↓] theorem x_vdNot (f : VD) (e : VE) : vdNot f e = (f e).bind (k_vdNot2) := id rfl
@[scoped simp ↓] theorem x_k_vtAndD1 (g : VDT) (b : Bool) (e1 : VE) : k_vtAndD1 g b e1 = if b = true then g e1 else .ok false e1 := id rfl
@[scoped simp ↓] theorem x_vtAndD (f g : VDT) (e : VE) : vtAndD f g e = (f e).bind (k_vtAndD1 g) := id rfl
@[scoped simp ↓] theorem x_k_vtOrD1 (g : VDT) (b : Bool) (e1 : VE) : k_vtOrD1 g b e1 = if b = true then .ok true e1 else g e1 := id rfl
@[scoped simp ↓] theorem x_vtOrD (f g : VDT) (e : VE) : vtOrD f g e = (f e).bind (k_vtOrD1 g) := id rfl
@[scoped simp ↓] theorem x_k_vtNotD1 (b : Bool) (e1 : VE) : k_vtNotD1 b e1 = .ok (!b) e1 := id rfl
@[scoped simp ↓] theorem x_vtNotD (f : VDT) (e : VE) : vtNotD f e = (f e).bind (k_vtNotD1) := id rfl
@[scoped simp ↓] theorem x_vtTrue (e : VE) : vtTrue e = .ok true e := id rfl
@[scoped simp ↓] theorem x_k_vdIf1 (f : VD) (g : VD) (b : Bool) (e1 : VE) : k_vdIf1 f g b e1 = if b = true then f e1 else g e1 := id rfl
@[scoped simp ↓] theorem x_vdIf (t : VDT) (f g : VD) (e : VE) : vdIf t f g e = (t e).bind (k_vdIf1 f g) := id rfl
@[scoped simp ↓] theorem x_k_vdIx1 (x : VR) (y : VR) (e2 : VE) : k_vdIx1 x y e2 = vixR x y e2 := id rfl
@[scoped simp ↓] theorem x_k_vdIx2 (g : VD) (x : VR) (e1 : VE) : k_vdIx2 g x e1 = (g e1).bind (k_vdIx1 x) := id rfl
@[scoped simp ↓] theorem x_vdIx (f g : VD) (e : VE) : vdIx f g e = (f e).bind (k_vdIx2 g) := id rfl
@[scoped simp ↓] theorem x_k_vdCB1 (F : List VR → VE → Option Rv) (ws : List VR) (e1 : VE) : k_vdCB1 F ws e1 = vofR (F ws e1) e1 := id rfl
@[scoped simp ↓] theorem x_vdCB (F : List VR → VE → Option Rv) (f : VDA) (e : VE) : vdCB F f e = (f e).bind (k_vdCB1 F) := id rfl
@[scoped simp ↓] theorem x_k_vdIsi1 (Ts : List String) (x : VR) (e1 : VE) : k_vdIsi1 Ts x e1 = match x.rdK e1 with
  | some d => .ok (.d (.bool (isV Ts d))) e1
  | none => .bad := id rfl
@[scoped simp ↓] theorem x_vdIsi (Ts : List String) (f : VD) (e : VE) : vdIsi Ts f e = (f e).bind (k_vdIsi1 Ts) := id rfl
@[scoped simp ↓] theorem x_k_vdTupRg1 (n : Int) (e2 : VE) : k_vdTupRg1 n e2 = if rgOk 0 n = true then .ok (.d (.tuple (rgD 0 n))) e2 else .bad := id rfl
@[scoped simp ↓] theorem x_k_vdTupRg2 (x : VR) (e1 : VE) : k_vdTupRg2 x e1 = (vasI x e1).bind (k_vdTupRg1) := id rfl
@[scoped simp ↓] theorem x_vdTupRg (f : VD) (e : VE) : vdTupRg f e = (f e).bind (k_vdTupRg2) := id rfl
@[scoped simp ↓] theorem x_k_vdLstRg1 (n : Int) (e2 : VE) : k_vdLstRg1 n e2 = if rgOk 0 n = true then .ok (.o (.list (rgD 0 n))) e2 else .bad := id rfl
@[scoped simp ↓] theorem x_k_vdLstRg2 (x : VR) (e1 : VE) : k_vdLstRg2 x e1 = (vasI x e1).bind (k_vdLstRg1) := id rfl
@[scoped simp ↓] theorem x_vdLstRg (f : VD) (e : VE) : vdLstRg f e = (f e).bind (k_vdLstRg2) := id rfl
@[scoped simp ↓] theorem x_vpNo (e : VE) : vpNo e = .ok none e := id rfl
@[scoped simp ↓] theorem x_k_vpYes1 (n : Int) (e2 : VE) : k_vpYes1 n e2 = .ok (some n) e2 := id rfl
@[scoped simp ↓] theorem x_k_vpYes2 (x : VR) (e1 : VE) : k_vpYes2 x e1 = (vasI x e1).bind (k_vpYes1) := id rfl
@[scoped simp ↓] theorem x_vpYes (f : VD) (e : VE) : vpYes f e = (f e).bind (k_vpYes2) := id rfl
@[scoped simp ↓] theorem x_k_vdSl1 (x : VR) (l : Option Int) (h : Option Int) (e3 : VE) : k_vdSl1 x l h e3 = vslR x l h e3 := id rfl
@[scoped simp ↓] theorem x_k_vdSl2 (hi : VE → Rs (Option Int)) (x : VR) (l : Option Int) (e2 : VE) : k_vdSl2 hi x l e2 = (hi e2).bind (k_vdSl1 x l) := id rfl
@[scoped simp ↓] theorem x_k_vdSl3 (lo : VE → Rs (Option Int)) (hi : VE → Rs (Option Int)) (x : VR) (e1 : VE) : k_vdSl3 lo hi x e1 = (lo e1).bind (k_vdSl2 hi x) := id rfl
@[scoped simp ↓] theorem x_vdSl (f : VD) (lo hi : VE → Rs (Option Int)) (e : VE) : vdSl f lo hi e = (f e).bind (k_vdSl3 lo hi) := id rfl
@[scoped simp ↓] theorem x_vdDict (e : VE) : vdDict e = .ok (.o (.dict [])) e := id rfl
@[scoped simp ↓] theorem x_k_vdMt1 (F : VMt) (o : VR) (ws : List VR) (e2 : VE) : k_vdMt1 F o ws e2 = vmtR F o ws e2 := id rfl
@[scoped simp ↓] theorem x_k_vdMt2 (F : VMt) (fa : VDA) (o : VR) (e1 : VE) : k_vdMt2 F fa o e1 = if visL o e1 = true then (fa e1).bind (k_vdMt1 F o) else .bad := id rfl
@[scoped simp ↓] theorem x_vdMt (F : VMt) (f : VD) (fa : VDA) (e : VE) : vdMt F f fa e = (f e).bind (k_vdMt2 F fa) := id rfl
@[scoped simp ↓] theorem x_viSeq (f : VD) (e : VE) : viSeq f e = (f e).bind vitR := id rfl
@[scoped simp ↓] theorem x_k_viRange1 (n : Int) (e2 : VE) : k_viRange1 n e2 = rangeR n e2 := id rfl
@[scoped simp ↓] theorem x_k_viRange2 (x : VR) (e1 : VE) : k_viRange2 x e1 = (vasI x e1).bind (k_viRange1) := id rfl
@[scoped simp ↓] theorem x_viRange (f : VD) (e : VE) : viRange f e = (f e).bind (k_viRange2) := id rfl
@[scoped simp ↓] theorem x_k_viRange22 (a : Int) (y : VR) (e3 : VE) : k_viRange22 a y e3 = (vasI y e3).bind (k_viRange21 a) := id rfl
@[scoped simp ↓] theorem x_k_viRange23 (g : VD) (a : Int) (e2 : VE) : k_viRange23 g a e2 = (g e2).bind (k_viRange22 a) := id rfl
@[scoped simp ↓] theorem x_k_viRange24 (g : VD) (x : VR) (e1 : VE) : k_viRange24 g x e1 = (vasI x e1).bind (k_viRange23 g) := id rfl
@[scoped simp ↓] theorem x_viRange2 (f g : VD) (e : VE) : viRange2 f g e = (f e).bind (k_viRange24 g) := id rfl
@[scoped simp ↓] theorem x_viZip (f : VDA) (e : VE) : viZip f e = (f e).bind vzipR := id rfl
@[scoped simp ↓] theorem x_viEnum (f : VDA) (e : VE) : viEnum f e = (f e).bind venR := id rfl
@[scoped simp ↓] theorem x_vsNext (e : VE) : vsNext e = .next e := id rfl
@[scoped simp ↓] theorem x_vsSeq (f g : VDS) (e : VE) : vsSeq f g e = (f e).then g := id rfl
@[scoped simp ↓] theorem x_k_vsIf1 (f : VDS) (g : VDS) (b : Bool) (e1 : VE) : k_vsIf1 f g b e1 = if b = true then f e1 else g e1 := id rfl
@[scoped simp ↓] theorem x_vsIf (t : VDT) (f g : VDS) (e : VE) : vsIf t f g e = (t e).go (k_vsIf1 f g) := id rfl
@[scoped simp ↓] theorem x_k_vsRet1 (r : VR) (e1 : VE) : k_vsRet1 r e1 = .ret r e1 := id rfl
@[scoped simp ↓] theorem x_vsRet (f : VD) (e : VE) : vsRet f e = (f e).go (k_vsRet1) := id rfl
@[scoped simp ↓] theorem x_vsRetN (e : VE) : vsRetN e = .ret (.d .none) e := id rfl
@[scoped simp ↓] theorem x_k_vsDrop1 (u : VR) (e1 : VE) : k_vsDrop1 u e1 = .next e1 := id rfl
@[scoped simp ↓] theorem x_vsDrop (f : VD) (e : VE) : vsDrop f e = (f e).go (k_vsDrop1) := id rfl
@[scoped simp ↓] theorem x_vsBrk (e : VE) : vsBrk e = .brk e := id rfl
@[scoped simp ↓] theorem x_vsCont (e : VE) : vsCont e = .cont e := id rfl
@[scoped simp ↓] theorem x_vsAsg (j : Nat) (al : Bool) (f : VD) (e : VE) : vsAsg j al f e = (f e).go (vasgR j al) := id rfl
@[scoped simp ↓] theorem x_k_vsAsgT1 (tg : PyData → VE → Option VE) (r : VR) (e1 : VE) : k_vsAsgT1 tg r e1 = match r.fz with
  | .d x => (match tg x e1 with
    | some e2 => .next e2
    | none => .bad)
  | _ => .bad := id rfl
@[scoped simp ↓] theorem x_vsAsgT (tg : PyData → VE → Option VE) (f : VD) (e : VE) : vsAsgT tg f e = (f e).go (k_vsAsgT1 tg) := id rfl
@[scoped simp ↓] theorem x_k_vsSet1 (x : VR) (o : VR) (k : VR) (e3 : VE) : k_vsSet1 x o k e3 = vsetR o.fz k.fz x.fz e3 := id rfl
@[scoped simp ↓] theorem x_k_vsSet2 (fi : VD) (x : VR) (o : VR) (e2 : VE) : k_vsSet2 fi x o e2 = (fi e2).go (k_vsSet1 x o) := id rfl
@[scoped simp ↓] theorem x_k_vsSet3 (fo : VD) (fi : VD) (x : VR) (e1 : VE) : k_vsSet3 fo fi x e1 = (fo e1).go (k_vsSet2 fi x) := id rfl
@[scoped simp ↓] theorem x_vsSet (fv fo fi : VD) (e : VE) : vsSet fv fo fi e = (fv e).go (k_vsSet3 fo fi) := id rfl
@[scoped simp ↓] theorem x_k_vsPar1 (i : Nat) (j : Nat) (al : Bool) (bl : Bool) (r : VR) (q : VR) (e2 : VE) : k_vsPar1 i j al bl r q e2 = match vtakeR al r, vtakeR bl q with
  | some v, some u => if e2.free i = true ∧ e2.free j = true then .next ((e2.set i (some v)).set j (some u)) else .bad
  | _, _ => .bad := id rfl
@[scoped simp ↓] theorem x_k_vsPar2 (i : Nat) (j : Nat) (al : Bool) (bl : Bool) (g : VD) (r : VR) (e1 : VE) : k_vsPar2 i j al bl g r e1 = (g e1).go (k_vsPar1 i j al bl r) := id rfl
@[scoped simp ↓] theorem x_vsPar (i j : Nat) (al bl : Bool) (f g : VD) (e : VE) : vsPar i j al bl f g e = (f e).go (k_vsPar2 i j al bl g) := id rfl
@[scoped simp ↓] theorem x_vdCall (V : VF) (fa : VDA) (e : VE) : vdCall V fa e = (fa e).bind (vcallR V) := id rfl
@[scoped simp ↓] theorem x_vsRaise (x : Str) (e : VE) : vsRaise x e = .ex ⟨x, []⟩ e := id rfl
@[scoped simp ↓] theorem x_vsTryK (j : Nat) (kind : Xn → Option VR) (fb : VDS) (e : VE) : vsTryK j kind fb e = match fb e with
  | .ex x e1 => (match kind x with
    | some r => if j < e1.length then .ret r e1 else .bad
    | none => .bad)
  | r => r := id rfl
@[scoped simp ↓] theorem x_k_vdMr1 (F : PyData → PyData → Option Rv) (o : VR) (ws : List VR) (e2 : VE) : k_vdMr1 F o ws e2 = vmrR F o ws e2 := id rfl
@[scoped simp ↓] theorem x_k_vdMr2 (F : PyData → PyData → Option Rv) (fa : VDA) (o : VR) (e1 : VE) : k_vdMr2 F fa o e1 = if visRL o e1 = true then (fa e1).bind (k_vdMr1 F o) else .bad := id rfl
@[scoped simp ↓] theorem x_vdMr (F : PyData → PyData → Option Rv) (f : VD) (fa : VDA) (e : VE) : vdMr F f fa e = (f e).bind (k_vdMr2 F fa) := id rfl
@[scoped simp ↓] theorem x_vtgN (j : Nat) (d : PyData) (e : VE) : vtgN j d e = some (e.set j (some (.d d))) := id rfl
@[scoped simp ↓] theorem x_vsBad (e : VE) : vsBad e = .bad := id rfl
@[scoped simp ↓] theorem x_vdGet2 (f g h : VD) (e : VE) : vdGet2 f g h e = (f e).bind (k_vdGet3 g h) := id rfl
@[scoped simp] theorem x_k_vdGet3 (g h : VD) (o : VR) (e1 : VE) : k_vdGet3 g h o e1 = if isDct (o.rd e1) = true then (g e1).bind (k_vdGet2 h o) else .bad := id rfl
@[scoped simp ↓] theorem x_k_vdGet2 (h : VD) (o y : VR) (e2 : VE) : k_vdGet2 h o y e2 = (h e2).bind (k_vdGet1 o y) := id rfl
@[scoped simp] theorem x_k_vdGet1 (o y z : VR) (e3 : VE) : k_vdGet1 o y z e3 = getK (o.rd e3) (y.rd e3) z.fz e3 := id rfl
@[scoped simp] theorem x_getK (c k d : PyData) (e : VE) : getK (some c) (some k) (.d d) e = getC c k d e := id rfl
@[scoped simp] theorem isDct_d (ds : List (PyData × PyData)) : isDct (some (.dict ds)) = true := id rfl
@[scoped simp] theorem isDct_TI (kvs : List (List Int × Int)) : isDct (some (dTI kvs)) = true := id rfl
@[scoped simp] theorem isDct_II (kvs : List (Int × Int)) : isDct (some (dII kvs)) = true := id rfl
theorem get_enc {K B : Type} [DecidableEq K] {ek : K → PyData} {ev : B → PyData} (E : EncK ek) (k : K) (d : B) (kvs : List (K × B)) (e : VE) : getC (Lf.encD ek ev kvs) (ek k) (ev d) e = .ok (.d (ev ((getA k kvs).getD d))) e := by
  unfold getC getF Lf.encD
  simp only [E.ok ev k kvs, if_true, E.getD]
  cases getA k kvs <;> rfl
@[scoped simp] theorem get_dII (k d : Int) (kvs : List (Int × Int)) (e : VE) : getC (dII kvs) (.int k) (.int d) e = .ok (.d (.int ((getA k kvs).getD d))) e := get_enc (ev := PyData.int) keyI k d kvs e
@[scoped simp ↓] theorem x_vdRev (f : VD) (e : VE) : vdRev f e = (f e).bind k_vdRev := id rfl
@[scoped simp] theorem x_k_vdRev (x : VR) (e1 : VE) : k_vdRev x e1 = revC (x.rdK e1) e1 := id rfl
@[scoped simp] theorem x_revC (d : PyData) (e : VE) : revC (some d) e = vofR (revF d) e := id rfl
@[scoped simp] theorem rev_tI (l : List Int) : revF (tI l) = some (.w (.d (tI l.reverse))) := by simp only [revF, tI, List.map_reverse]
@[scoped simp] theorem rev_tT (l : List (List Int)) : revF (tT l) = some (.w (.d (tT l.reverse))) := by simp only [revF, tT, List.map_reverse]
@[scoped simp] theorem rev_lI (l : List Int) : revF (lI l) = some (.own (lI l.reverse)) := by simp only [revF, lI, List.map_reverse]
@[scoped simp] theorem rev_lT (l : List (List Int)) : revF (lT l) = some (.own (lT l.reverse)) := by simp only [revF, lT, List.map_reverse]
@[scoped simp low] theorem rev_t (l : List PyData) : revF (.tuple l) = some (.w (.d (.tuple l.reverse))) := id rfl
@[scoped simp low] theorem rev_l (l : List PyData) : revF (.list l) = some (.own (.list l.reverse)) := id rfl
@[scoped simp] theorem x_min_tI {l : List Int} (h : l ≠ []) : minTV (tI l) = some (vI (minL l)) := min_tI h
@[scoped simp high] theorem x_visRL (o : VR) (e : VE) : visRL o e = isLO (o.rdK e) := by unfold visRL isLO; cases o.rdK e with | none => rfl | some d => cases d <;> rfl
@[scoped simp] theorem isLO_lI (l : List Int) : isLO (some (lI l)) = true := id rfl
@[scoped simp] theorem isLO_lT (l : List (List Int)) : isLO (some (lT l)) = true := id rfl
@[scoped simp] theorem isLO_lB (l : List Bool) : isLO (some (lB l)) = true := id rfl
@[scoped simp] theorem isLO_l (l : List PyData) : isLO (some (.list l)) = true := id rfl
@[scoped simp] theorem vseqC_dl (l : List PyData) (e : VE) : vseqC (.d (.list l)) e = some (false, l, none) := id rfl
@[scoped simp] theorem vseqC_dt (l : List PyData) (e : VE) : vseqC (.d (.tuple l)) e = some (true, l, none) := id rfl
@[scoped simp] theorem vseqC_k (l : List PyData) (e : VE) : vseqC (.k l) e = some (false, l, none) := id rfl
@[scoped simp] theorem vseqC_ref (j : Nat) (e : VE) : vseqC (.ref j) e = seqM j (slotM e j) := id rfl
@[scoped simp] theorem seqM_lI (j : Nat) (l : List Int) : seqM j (some (lI l)) = some (false, l.map .int, some (j, l.map .int)) := id rfl
@[scoped simp] theorem seqM_lT (j : Nat) (l : List (List Int)) : seqM j (some (lT l)) = some (false, l.map tI, some (j, l.map tI)) := id rfl
@[scoped simp] theorem seqM_l (j : Nat) (l : List PyData) : seqM j (some (.list l)) = some (false, l, some (j, l)) := id rfl
@[scoped simp ↓] theorem x_vdTab (Vs : List VF) (g : VD) (fa : VDA) (e : VE) : vdTab Vs g fa e = (g e).bind (k_vdTab Vs fa) := id rfl
@[scoped simp] theorem x_k_vdTab (Vs : List VF) (fa : VDA) (n : Int) (e1 : VE) : k_vdTab Vs fa (.d (.int n)) e1 = tabC (atI Vs n) fa e1 := id rfl
@[scoped simp] theorem x_tabC (V : VF) (fa : VDA) (e1 : VE) : tabC (some V) fa e1 = (fa e1).bind (vcallR V) := id rfl
@[scoped simp ↓] theorem x_vdLc (it : VE → Rs VItems) (vs : List Nat) (tg : PyData → VE → Option VE) (tt : VDT) (elt : VD) (e : VE) : vdLc it vs tg tt elt e = lcA (it e) vs tg tt elt := id rfl
section
variable {A B : Type} {vs : List Nat} {l : List A} {w e3 : VE} {o : Rs VR} {m : Nat}
@[scoped simp] theorem lcA_ok (enc : A → PyData) (l : List A) (o : Option (Nat × List PyData)) (e1 : VE) (vs : List Nat) (tg : PyData → VE → Option VE) (tt : VDT) (elt : VD) : lcA (.ok (l.map enc, o) e1) vs tg tt elt = lcB (vchk (l.map enc, o) (wipeV e1 vs)) (wipeV e1 vs) (backV e1 vs (wipeV e1 vs)) vs l enc tg tt elt (lcO (.ok (l.map enc, o) e1) vs tg tt elt) := lcW_eq enc l o e1 vs tg tt elt
@[scoped simp] theorem lcB_t (enc : A → PyData) (l : List A) (w e3 : VE) (vs : List Nat) (tg : PyData → VE → Option VE) (tt : VDT) (elt : VD) (o : Rs VR) : lcB true w e3 vs l enc tg tt elt o = lcW vs true l w e3 (fun a _ => oneC tg tt elt (enc a) w) o := id rfl
@[scoped simp high] theorem lcB_r (enc : Int → PyData) (n : Int) (w e3 : VE) (vs : List Nat) (tg : PyData → VE → Option VE) (tt : VDT) (elt : VD) (o : Rs VR) : lcB true w e3 vs (rgI n) enc tg tt elt o = lcR vs true n w e3 (fun a _ => oneC tg tt elt (enc a) w) o := id rfl
@[scoped simp] theorem lcA_ex (x : Xn) (e1 : VE) (vs : List Nat) (tg : PyData → VE → Option VE) (tt : VDT) (elt : VD) : lcA (.ex x e1) vs tg tt elt = .ex x e1 := id rfl
@[scoped simp ↓] theorem oneC_d (tg : PyData → VE → Option VE) (tt : VDT) (elt : VD) (d : PyData) (w : VE) : oneC tg tt elt d w = oneD (tg d w) tt elt := id rfl
@[scoped simp] theorem oneD_some (e1 : VE) (tt : VDT) (elt : VD) : oneD (some e1) tt elt = (tt e1).bind (k_one elt) := id rfl
@[scoped simp ↓] theorem x_k_one (elt : VD) (b : Bool) (e2 : VE) : k_one elt b e2 = optIf b (elt e2) e2 := id rfl
@[scoped simp] theorem optIf_t (r : VR) (e T : VE) : optIf true (Rs.ok r e) T = Rs.ok (some r) e := id rfl
@[scoped simp] theorem optIf_f (x : Rs VR) (T : VE) : optIf false x T = Rs.ok none T := id rfl
theorem lcW_all {p : A → Bool} {r : A → VR} {T : A → VE} {g : A → PyData} [h : LenLe l m] (hm : m ≤ 16777216) (hT : ∀ a, wipeV (T a) vs = w) (hr : ∀ a, (r a).fz = .d (g a)) : lcW vs true l w e3 (fun a _ => optIf (p a) (Rs.ok (r a) (T a)) (T a)) o = .ok (.o (.list ((l.filter p).map g))) e3 := by
  have hg : lcG vs true l w (fun a _ => optIf (p a) (Rs.ok (r a) (T a)) (T a)) := by
    refine ⟨rfl, Nat.le_trans h.le (by rw [sizeLine]; exact hm), fun a ha => ?_⟩
    cases hp : p a with
    | false => exact ⟨none, T a, by simp [optIf, hp], hT a, fun v hv => by cases hv⟩
    | true => exact ⟨some (r a), T a, by simp [optIf, hp], hT a, fun v hv => by cases hv; exact ⟨g a, hr a⟩⟩
  unfold lcW
  rw [if_pos hg, filterMap_att l fun a => datC (optIf (p a) (Rs.ok (r a) (T a)) (T a))]
  · congr 3
    clear h hg
    induction l with
    | nil => rfl
    | cons a l ih =>
      rw [List.filterMap_cons, List.filter_cons]
      cases hp : p a with
      | false =>
        have : datC (optIf false (Rs.ok (r a) (T a)) (T a)) = none := rfl
        simp only [this, Bool.false_eq_true, if_false]; exact ih
      | true =>
        have : datC (optIf true (Rs.ok (r a) (T a)) (T a)) = some (g a) := by show datC (Rs.ok (some (r a)) (T a)) = _; simp only [datC, hr]
        simp only [this, if_true, List.map_cons]; rw [ih]
theorem lcW_map {r : A → VR} {T : A → VE} {g : A → PyData} [h : LenLe l m] (hm : m ≤ 16777216) (hT : ∀ a, wipeV (T a) vs = w) (hr : ∀ a, (r a).fz = .d (g a)) : lcW vs true l w e3 (fun a _ => Rs.ok (some (r a)) (T a)) o = .ok (.o (.list (l.map g))) e3 := by
  have := lcW_all (p := fun _ => true) (r := r) (T := T) (g := g) (o := o) (e3 := e3) (l := l) hm hT hr
  rw [List.filter_eq_self.mpr fun _ _ => rfl] at this
  exact this
theorem map_map {l : List A} {g : A → B} {enc : B → PyData} : l.map (fun a => enc (g a)) = (l.map g).map enc := by rw [List.map_map]; rfl
@[scoped simp] theorem lc_int_d {p : A → Bool} {T : A → VE} {g : A → Int} [h : LenLe l m] (hm : m ≤ 16777216) (hT : ∀ a, wipeV (T a) vs = w) : lcW vs true l w e3 (fun a _ => optIf (p a) (Rs.ok (VR.d (PyData.int (g a))) (T a)) (T a)) o = .ok (.o (lI ((l.filter p).map g))) e3 := (lcW_all (r := fun a => VR.d (PyData.int (g a))) hm hT (fun _ => rfl)).trans (by rw [map_map]; rfl)
@[scoped simp] theorem lc_int_dm {T : A → VE} {g : A → Int} [h : LenLe l m] (hm : m ≤ 16777216) (hT : ∀ a, wipeV (T a) vs = w) : lcW vs true l w e3 (fun a _ => Rs.ok (some (VR.d (PyData.int (g a)))) (T a)) o = .ok (.o (lI (l.map g))) e3 := (lcW_map (r := fun a => VR.d (PyData.int (g a))) hm hT (fun _ => rfl)).trans (by rw [map_map]; rfl)
@[scoped simp] theorem lc_int_o {p : A → Bool} {T : A → VE} {g : A → Int} [h : LenLe l m] (hm : m ≤ 16777216) (hT : ∀ a, wipeV (T a) vs = w) : lcW vs true l w e3 (fun a _ => optIf (p a) (Rs.ok (VR.o (PyData.int (g a))) (T a)) (T a)) o = .ok (.o (lI ((l.filter p).map g))) e3 := (lcW_all (r := fun a => VR.o (PyData.int (g a))) hm hT (fun _ => rfl)).trans (by rw [map_map]; rfl)
@[scoped simp] theorem lc_int_om {T : A → VE} {g : A → Int} [h : LenLe l m] (hm : m ≤ 16777216) (hT : ∀ a, wipeV (T a) vs = w) : lcW vs true l w e3 (fun a _ => Rs.ok (some (VR.o (PyData.int (g a)))) (T a)) o = .ok (.o (lI (l.map g))) e3 := (lcW_map (r := fun a => VR.o (PyData.int (g a))) hm hT (fun _ => rfl)).trans (by rw [map_map]; rfl)
@[scoped simp] theorem lc_bool_d {p : A → Bool} {T : A → VE} {g : A → Bool} [h : LenLe l m] (hm : m ≤ 16777216) (hT : ∀ a, wipeV (T a) vs = w) : lcW vs true l w e3 (fun a _ => optIf (p a) (Rs.ok (VR.d (PyData.bool (g a))) (T a)) (T a)) o = .ok (.o (lB ((l.filter p).map g))) e3 := (lcW_all (r := fun a => VR.d (PyData.bool (g a))) hm hT (fun _ => rfl)).trans (by rw [map_map]; rfl)
@[scoped simp] theorem lc_bool_dm {T : A → VE} {g : A → Bool} [h : LenLe l m] (hm : m ≤ 16777216) (hT : ∀ a, wipeV (T a) vs = w) : lcW vs true l w e3 (fun a _ => Rs.ok (some (VR.d (PyData.bool (g a)))) (T a)) o = .ok (.o (lB (l.map g))) e3 := (lcW_map (r := fun a => VR.d (PyData.bool (g a))) hm hT (fun _ => rfl)).trans (by rw [map_map]; rfl)
@[scoped simp] theorem lc_bool_o {p : A → Bool} {T : A → VE} {g : A → Bool} [h : LenLe l m] (hm : m ≤ 16777216) (hT : ∀ a, wipeV (T a) vs = w) : lcW vs true l w e3 (fun a _ => optIf (p a) (Rs.ok (VR.o (PyData.bool (g a))) (T a)) (T a)) o = .ok (.o (lB ((l.filter p).map g))) e3 := (lcW_all (r := fun a => VR.o (PyData.bool (g a))) hm hT (fun _ => rfl)).trans (by rw [map_map]; rfl)
@[scoped simp] theorem lc_bool_om {T : A → VE} {g : A → Bool} [h : LenLe l m] (hm : m ≤ 16777216) (hT : ∀ a, wipeV (T a) vs = w) : lcW vs true l w e3 (fun a _ => Rs.ok (some (VR.o (PyData.bool (g a)))) (T a)) o = .ok (.o (lB (l.map g))) e3 := (lcW_map (r := fun a => VR.o (PyData.bool (g a))) hm hT (fun _ => rfl)).trans (by rw [map_map]; rfl)
@[scoped simp] theorem lc_tI_d {p : A → Bool} {T : A → VE} {g : A → List Int} [h : LenLe l m] (hm : m ≤ 16777216) (hT : ∀ a, wipeV (T a) vs = w) : lcW vs true l w e3 (fun a _ => optIf (p a) (Rs.ok (VR.d (tI (g a))) (T a)) (T a)) o = .ok (.o (lT ((l.filter p).map g))) e3 := (lcW_all (r := fun a => VR.d (tI (g a))) hm hT (fun _ => rfl)).trans (by rw [map_map]; rfl)
@[scoped simp] theorem lc_tI_dm {T : A → VE} {g : A → List Int} [h : LenLe l m] (hm : m ≤ 16777216) (hT : ∀ a, wipeV (T a) vs = w) : lcW vs true l w e3 (fun a _ => Rs.ok (some (VR.d (tI (g a)))) (T a)) o = .ok (.o (lT (l.map g))) e3 := (lcW_map (r := fun a => VR.d (tI (g a))) hm hT (fun _ => rfl)).trans (by rw [map_map]; rfl)
@[scoped simp] theorem lc_tI_o {p : A → Bool} {T : A → VE} {g : A → List Int} [h : LenLe l m] (hm : m ≤ 16777216) (hT : ∀ a, wipeV (T a) vs = w) : lcW vs true l w e3 (fun a _ => optIf (p a) (Rs.ok (VR.o (tI (g a))) (T a)) (T a)) o = .ok (.o (lT ((l.filter p).map g))) e3 := (lcW_all (r := fun a => VR.o (tI (g a))) hm hT (fun _ => rfl)).trans (by rw [map_map]; rfl)
@[scoped simp] theorem lc_tI_om {T : A → VE} {g : A → List Int} [h : LenLe l m] (hm : m ≤ 16777216) (hT : ∀ a, wipeV (T a) vs = w) : lcW vs true l w e3 (fun a _ => Rs.ok (some (VR.o (tI (g a)))) (T a)) o = .ok (.o (lT (l.map g))) e3 := (lcW_map (r := fun a => VR.o (tI (g a))) hm hT (fun _ => rfl)).trans (by rw [map_map]; rfl)
@[scoped simp] theorem lc_lI_d {p : A → Bool} {T : A → VE} {g : A → List Int} [h : LenLe l m] (hm : m ≤ 16777216) (hT : ∀ a, wipeV (T a) vs = w) : lcW vs true l w e3 (fun a _ => optIf (p a) (Rs.ok (VR.d (lI (g a))) (T a)) (T a)) o = .ok (.o (lLI ((l.filter p).map g))) e3 := (lcW_all (r := fun a => VR.d (lI (g a))) hm hT (fun _ => rfl)).trans (by rw [map_map]; rfl)
@[scoped simp] theorem lc_lI_dm {T : A → VE} {g : A → List Int} [h : LenLe l m] (hm : m ≤ 16777216) (hT : ∀ a, wipeV (T a) vs = w) : lcW vs true l w e3 (fun a _ => Rs.ok (some (VR.d (lI (g a)))) (T a)) o = .ok (.o (lLI (l.map g))) e3 := (lcW_map (r := fun a => VR.d (lI (g a))) hm hT (fun _ => rfl)).trans (by rw [map_map]; rfl)
@[scoped simp] theorem lc_lI_o {p : A → Bool} {T : A → VE} {g : A → List Int} [h : LenLe l m] (hm : m ≤ 16777216) (hT : ∀ a, wipeV (T a) vs = w) : lcW vs true l w e3 (fun a _ => optIf (p a) (Rs.ok (VR.o (lI (g a))) (T a)) (T a)) o = .ok (.o (lLI ((l.filter p).map g))) e3 := (lcW_all (r := fun a => VR.o (lI (g a))) hm hT (fun _ => rfl)).trans (by rw [map_map]; rfl)
@[scoped simp] theorem lc_lI_om {T : A → VE} {g : A → List Int} [h : LenLe l m] (hm : m ≤ 16777216) (hT : ∀ a, wipeV (T a) vs = w) : lcW vs true l w e3 (fun a _ => Rs.ok (some (VR.o (lI (g a)))) (T a)) o = .ok (.o (lLI (l.map g))) e3 := (lcW_map (r := fun a => VR.o (lI (g a))) hm hT (fun _ => rfl)).trans (by rw [map_map]; rfl)
@[scoped simp low] theorem lc_gen_d {p : A → Bool} {T : A → VE} {g : A → PyData} [h : LenLe l m] (hm : m ≤ 16777216) (hT : ∀ a, wipeV (T a) vs = w) : lcW vs true l w e3 (fun a _ => optIf (p a) (Rs.ok (VR.d (g a)) (T a)) (T a)) o = .ok (.o (.list ((l.filter p).map g))) e3 := (lcW_all (r := fun a => VR.d (g a)) hm hT (fun _ => rfl))
@[scoped simp low] theorem lc_gen_dm {T : A → VE} {g : A → PyData} [h : LenLe l m] (hm : m ≤ 16777216) (hT : ∀ a, wipeV (T a) vs = w) : lcW vs true l w e3 (fun a _ => Rs.ok (some (VR.d (g a))) (T a)) o = .ok (.o (.list (l.map g))) e3 := (lcW_map (r := fun a => VR.d (g a)) hm hT (fun _ => rfl))
@[scoped simp low] theorem lc_gen_o {p : A → Bool} {T : A → VE} {g : A → PyData} [h : LenLe l m] (hm : m ≤ 16777216) (hT : ∀ a, wipeV (T a) vs = w) : lcW vs true l w e3 (fun a _ => optIf (p a) (Rs.ok (VR.o (g a)) (T a)) (T a)) o = .ok (.o (.list ((l.filter p).map g))) e3 := (lcW_all (r := fun a => VR.o (g a)) hm hT (fun _ => rfl))
@[scoped simp low] theorem lc_gen_om {T : A → VE} {g : A → PyData} [h : LenLe l m] (hm : m ≤ 16777216) (hT : ∀ a, wipeV (T a) vs = w) : lcW vs true l w e3 (fun a _ => Rs.ok (some (VR.o (g a))) (T a)) o = .ok (.o (.list (l.map g))) e3 := (lcW_map (r := fun a => VR.o (g a)) hm hT (fun _ => rfl))
end
@[scoped simp low] theorem x_vsFor (ks : List Nat) (it : VE → Rs VItems) (tg : PyData → VE → Option VE) (body : VDS) (e : VE) : vsFor ks it tg body e = forA ks (it e) tg body := id rfl
section
variable {A : Type} {l : List A} {w : VE} {o : VS}
@[scoped simp] theorem forA_map (ks : List Nat) (enc : A → PyData) (l : List A) (e1 : VE) (tg : PyData → VE → Option VE) (body : VDS) : forA ks (.ok (l.map enc, none) e1) tg body = forB (mask ks e1) ks l enc tg body (forO ks (.ok (l.map enc, none) e1) tg body) := forW_eq ks tg body enc l (mask ks e1) (forA ks (.ok (l.map enc, none) e1) tg body) (forV_L ks tg body _ _)
@[scoped simp] theorem forB_w (ks : List Nat) (enc : A → PyData) (l : List A) (w : VE) (tg : PyData → VE → Option VE) (body : VDS) (o : VS) : forB w ks l enc tg body o = forW l w (fun a _ => turnT ks tg body (enc a) w) o := id rfl
@[scoped simp high] theorem forB_r (ks : List Nat) (enc : Int → PyData) (n : Int) (w : VE) (tg : PyData → VE → Option VE) (body : VDS) (o : VS) : forB w ks (rgI n) enc tg body o = forR n w (fun a _ => turnT ks tg body (enc a) w) o := id rfl
@[scoped simp] theorem forA_cons (ks : List Nat) (x : PyData) (xs : List PyData) (e1 : VE) (tg : PyData → VE → Option VE) (body : VDS) : forA ks (.ok (x :: xs, none) e1) tg body = forL ks tg body (x :: xs) (mask ks e1) := forV_L ks tg body _ _
@[scoped simp] theorem forA_nil (ks : List Nat) (e1 : VE) (tg : PyData → VE → Option VE) (body : VDS) : forA ks (.ok ([], none) e1) tg body = .next (mask ks e1) := forV_L ks tg body _ _
@[scoped simp ↓] theorem forL_cons (ks : List Nat) (tg : PyData → VE → Option VE) (body : VDS) (x : PyData) (xs : List PyData) (e : VE) : forL ks tg body (x :: xs) e = (turnT ks tg body x e).run (forL ks tg body xs) := id rfl
@[scoped simp ↓] theorem forL_nil (ks : List Nat) (tg : PyData → VE → Option VE) (body : VDS) (e : VE) : forL ks tg body [] e = .next e := id rfl
def turnD (ks : List Nat) (r : Option VE) (body : VDS) : TR := match r with
  | none => .stop .bad
  | some e1 => VS.tr ks (body e1)
@[scoped simp ↓] theorem turnT_d (ks : List Nat) (tg : PyData → VE → Option VE) (body : VDS) (d : PyData) (w : VE) : turnT ks tg body d w = turnD ks (tg d w) body := id rfl
@[scoped simp] theorem turnD_some (ks : List Nat) (e1 : VE) (body : VDS) : turnD ks (some e1) body = VS.tr ks (body e1) := id rfl
theorem forW_if0 {c : A → Prop} [∀ a, Decidable (c a)] {R : A → VS} : forW l w (fun a _ => if c a then TR.stop (R a) else TR.go w) o = orFind (l.find? fun a => decide (c a)) R (.next w) := by
  unfold forW
  rw [if_pos (fun a _ => by by_cases h : c a; exact .inr ⟨R a, by simp [h]⟩; exact .inl (by simp [h])), findSome_att l fun a => (if c a then TR.stop (R a) else TR.go w).stop?]
  induction l with
  | nil => rfl
  | cons a l ih =>
    rw [List.findSome?_cons, List.find?_cons]
    by_cases h : c a
    · simp [h, TR.stop?, orFind]
    · simp only [h, if_false, TR.stop?, decide_false]; exact ih
@[scoped simp] theorem forW_if {c : A → Prop} [∀ a, Decidable (c a)] {R : A → VS} : forW l w (fun a _ => if c a then TR.stop (R a) else TR.go w) o = orFind (l.find? fun a => decide (c a)) R (.next w) := forW_if0
@[scoped simp] theorem forW_if' {c : A → Prop} [∀ a, Decidable (c a)] {R : A → VS} : forW l w (fun a _ => if c a then TR.go w else TR.stop (R a)) o = orFind (l.find? fun a => !decide (c a)) R (.next w) := by
  have := forW_if0 (l := l) (w := w) (o := o) (c := fun a => ¬ c a) (R := R)
  simp only [ite_not, decide_not] at this
  exact this
@[scoped simp] theorem forW_go : forW l w (fun _ _ => TR.go w) o = .next w := by
  unfold forW
  rw [if_pos (fun _ _ => .inl rfl)]
  rw [findSome_att l fun _ => (TR.go w).stop?]
  have : (l.findSome? fun _ => (TR.go w).stop?) = none := by simp [TR.stop?]
  rw [this]; rfl
@[scoped simp] theorem forW_stop {R : A → VS} : forW l w (fun a _ => TR.stop (R a)) o = orFind l.head? R (.next w) := by
  unfold forW
  rw [if_pos (fun a _ => .inr ⟨R a, rfl⟩), findSome_att l fun a => (TR.stop (R a)).stop?]
  cases l <;> rfl
end
@[scoped simp] theorem tup1 (x : Int) : PyData.tuple [.int x] = tI [x] := rfl
@[scoped simp] theorem tup2 (x y : Int) : PyData.tuple [.int x, .int y] = tI [x, y] := rfl
@[scoped simp] theorem tup3 (x y z : Int) : PyData.tuple [.int x, .int y, .int z] = tI [x, y, z] := rfl
@[scoped simp] theorem lst1 (x : Int) : PyData.list [.int x] = lI [x] := rfl
@[scoped simp] theorem lstT1 (x : List Int) : PyData.list [tI x] = lT [x] := rfl
@[scoped simp] theorem lstT2 (x y : List Int) : PyData.list [tI x, tI y] = lT [x, y] := rfl
@[scoped simp] theorem lstB1 (x : Bool) : PyData.list [.bool x] = lB [x] := rfl
@[scoped simp] theorem tupT1 (x : List Int) : PyData.tuple [tI x] = tT [x] := rfl
@[scoped simp] theorem tupS (n k : Int) (fs : List (List Int)) : PyData.tuple [.int n, .int k, tT fs] = stkD n k fs := rfl
@[scoped simp] theorem lT_e : PyData.list [.tuple []] = lT [[]] := rfl
@[scoped simp] theorem unp_tI (l : List Int) : unpV (tI l) = some (l.map .int) := rfl
@[scoped simp] theorem unp_tT (l : List (List Int)) : unpV (tT l) = some (l.map tI) := rfl
section
variable {m n : Nat}
@[scoped simp] theorem xadd_tI {a b : List Int} [h : LenLe a m] [h2 : LenLe b n] (hm : m + n ≤ 1000000) : addV (tI a) (tI b) = some (.w (.d (tI (a ++ b)))) := addV_tI (by have := h.le; have := h2.le; rw [sizeLine]; omega)
@[scoped simp] theorem xadd_lI {a b : List Int} [h : LenLe a m] [h2 : LenLe b n] (hm : m + n ≤ 1000000) : addV (lI a) (lI b) = some (.own (lI (a ++ b))) := addV_lI (by have := h.le; have := h2.le; rw [sizeLine]; omega)
@[scoped simp] theorem xadd_tT {a b : List (List Int)} [h : LenLe a m] [h2 : LenLe b n] (hm : m + n ≤ 1000000) : addV (tT a) (tT b) = some (.w (.d (tT (a ++ b)))) := addV_tT (by have := h.le; have := h2.le; rw [sizeLine]; omega)
@[scoped simp] theorem xadd_lT {a b : List (List Int)} [h : LenLe a m] [h2 : LenLe b n] (hm : m + n ≤ 1000000) : addV (lT a) (lT b) = some (.own (lT (a ++ b))) := addV_lT (by have := h.le; have := h2.le; rw [sizeLine]; omega)
@[scoped simp] theorem xsort_lI {a : List Int} [h : LenLe a m] (hm : m ≤ 1000000) : sortV (lI a) = some (.own (lI (sortI a))) := sortV_lI (by have := h.le; rw [sizeLine]; omega)
@[scoped simp] theorem xsort_tI {a : List Int} [h : LenLe a m] (hm : m ≤ 1000000) : sortV (tI a) = some (.own (lI (sortI a))) := sortV_tI (by have := h.le; rw [sizeLine]; omega)
@[scoped simp] theorem xsort_lT {a : List (List Int)} [h : LenLe a m] (hm : m ≤ 1000000) : sortV (lT a) = some (.own (lT (sortT a))) := sortV_lT (by have := h.le; rw [sizeLine]; omega)
@[scoped simp] theorem xsort_tT {a : List (List Int)} [h : LenLe a m] (hm : m ≤ 1000000) : sortV (tT a) = some (.own (lT (sortT a))) := sortV_tT (by have := h.le; rw [sizeLine]; omega)
@[scoped simp] theorem xmul {a b : Int} [h : AbsLe a m] (hm : m ≤ 1000000000) : mulV (.int a) (.int b) = some (vI (a * b)) := mulV_i (.inl (by have := h.le; omega))
@[scoped simp] theorem xmul2 {a b : Int} [h : AbsLe b m] (hm : m ≤ 1000000000) : mulV (.int a) (.int b) = some (vI (a * b)) := mulV_i (.inr (by have := h.le; omega))
@[scoped simp] theorem xapp_lI {acc : List Int} {x : Int} {e : VE} [h : LenLe acc m] (hm : m ≤ 1000000) : vappF (lI acc) [.d (.int x)] e = some (.w (.d .none), lI (acc ++ [x])) := app_lI (by have := h.le; rw [sizeLine]; omega)
@[scoped simp] theorem xapp_lT {acc : List (List Int)} {x : List Int} {e : VE} [h : LenLe acc m] (hm : m ≤ 1000000) : vappF (lT acc) [.d (tI x)] e = some (.w (.d .none), lT (acc ++ [x])) := app_lT (by have := h.le; rw [sizeLine]; omega)
end
@[scoped simp] theorem xrgD_rgI (n : Int) : rgD 0 n = (rgI n).map PyData.int := Pu.rgD_rgI n
@[scoped simp] theorem xixV_tT {fs : List (List Int)} {i : Int} (h : 0 ≤ i ∧ i < fs.length) : ixV (tT fs) (.int i) = some (tI (nthT fs i)) := ixV_tT h
@[scoped simp] theorem xixV_lT {fs : List (List Int)} {i : Int} (h : 0 ≤ i ∧ i < fs.length) : ixV (lT fs) (.int i) = some (tI (nthT fs i)) := ixV_lT h
@[scoped simp] theorem xixV_tI {fs : List Int} {i : Int} (h : 0 ≤ i ∧ i < fs.length) : ixV (tI fs) (.int i) = some (.int (nthI fs i)) := ixV_tI h
@[scoped simp] theorem xixV_lI {fs : List Int} {i : Int} (h : 0 ≤ i ∧ i < fs.length) : ixV (lI fs) (.int i) = some (.int (nthI fs i)) := ixV_lI h
@[scoped simp] theorem ixm_tT {fs : List (List Int)} {lot : List Int} {i : Int} [h : Mm i lot] [h2 : InR lot fs.length] : ixV (tT fs) (.int i) = some (tI (nthT fs i)) := ixV_tT (h2.h i h.h)
@[scoped simp] theorem ixm_lT {fs : List (List Int)} {lot : List Int} {i : Int} [h : Mm i lot] [h2 : InR lot fs.length] : ixV (lT fs) (.int i) = some (tI (nthT fs i)) := ixV_lT (h2.h i h.h)
@[scoped simp] theorem ixm_tI {fs : List Int} {lot : List Int} {i : Int} [h : Mm i lot] [h2 : InR lot fs.length] : ixV (tI fs) (.int i) = some (.int (nthI fs i)) := ixV_tI (h2.h i h.h)
@[scoped simp] theorem ixm_lI {fs : List Int} {lot : List Int} {i : Int} [h : Mm i lot] [h2 : InR lot fs.length] : ixV (lI fs) (.int i) = some (.int (nthI fs i)) := ixV_lI (h2.h i h.h)
section
variable {A : Type}
theorem at_of {l : List A} {x : A} (n : Nat) (h : n < l.length) (hx : l[n]? = some x) : atI l (n : Int) = some x := by
  have h1 : ixN l.length (n : Int) = some n := by
    simp only [ixN]
    rw [if_pos (by omega), if_pos (by omega)]
    simp
  simp only [atI, h1, Option.bind_some, hx]
@[scoped simp] theorem at3 (x0 x1 x2 x3 : A) (l : List A) : atI (x0 :: x1 :: x2 :: x3 :: l) 3 = some x3 := at_of 3 (by simp only [List.length_cons]; omega) rfl
@[scoped simp] theorem at4 (x0 x1 x2 x3 x4 : A) (l : List A) : atI (x0 :: x1 :: x2 :: x3 :: x4 :: l) 4 = some x4 := at_of 4 (by simp only [List.length_cons]; omega) rfl
@[scoped simp] theorem at5 (x0 x1 x2 x3 x4 x5 : A) (l : List A) : atI (x0 :: x1 :: x2 :: x3 :: x4 :: x5 :: l) 5 = some x5 := at_of 5 (by simp only [List.length_cons]; omega) rfl
@[scoped simp] theorem at6 (x0 x1 x2 x3 x4 x5 x6 : A) (l : List A) : atI (x0 :: x1 :: x2 :: x3 :: x4 :: x5 :: x6 :: l) 6 = some x6 := at_of 6 (by simp only [List.length_cons]; omega) rfl
@[scoped simp] theorem at7 (x0 x1 x2 x3 x4 x5 x6 x7 : A) (l : List A) : atI (x0 :: x1 :: x2 :: x3 :: x4 :: x5 :: x6 :: x7 :: l) 7 = some x7 := at_of 7 (by simp only [List.length_cons]; omega) rfl
@[scoped simp] theorem at8 (x0 x1 x2 x3 x4 x5 x6 x7 x8 : A) (l : List A) : atI (x0 :: x1 :: x2 :: x3 :: x4 :: x5 :: x6 :: x7 :: x8 :: l) 8 = some x8 := at_of 8 (by simp only [List.length_cons]; omega) rfl
@[scoped simp] theorem at9 (x0 x1 x2 x3 x4 x5 x6 x7 x8 x9 : A) (l : List A) : atI (x0 :: x1 :: x2 :: x3 :: x4 :: x5 :: x6 :: x7 :: x8 :: x9 :: l) 9 = some x9 := at_of 9 (by simp only [List.length_cons]; omega) rfl
@[scoped simp] theorem at10 (x0 x1 x2 x3 x4 x5 x6 x7 x8 x9 x10 : A) (l : List A) : atI (x0 :: x1 :: x2 :: x3 :: x4 :: x5 :: x6 :: x7 :: x8 :: x9 :: x10 :: l) 10 = some x10 := at_of 10 (by simp only [List.length_cons]; omega) rfl
@[scoped simp] theorem at11 (x0 x1 x2 x3 x4 x5 x6 x7 x8 x9 x10 x11 : A) (l : List A) : atI (x0 :: x1 :: x2 :: x3 :: x4 :: x5 :: x6 :: x7 :: x8 :: x9 :: x10 :: x11 :: l) 11 = some x11 := at_of 11 (by simp only [List.length_cons]; omega) rfl
@[scoped simp] theorem at12 (x0 x1 x2 x3 x4 x5 x6 x7 x8 x9 x10 x11 x12 : A) (l : List A) : atI (x0 :: x1 :: x2 :: x3 :: x4 :: x5 :: x6 :: x7 :: x8 :: x9 :: x10 :: x11 :: x12 :: l) 12 = some x12 := at_of 12 (by simp only [List.length_cons]; omega) rfl
@[scoped simp] theorem at13 (x0 x1 x2 x3 x4 x5 x6 x7 x8 x9 x10 x11 x12 x13 : A) (l : List A) : atI (x0 :: x1 :: x2 :: x3 :: x4 :: x5 :: x6 :: x7 :: x8 :: x9 :: x10 :: x11 :: x12 :: x13 :: l) 13 = some x13 := at_of 13 (by simp only [List.length_cons]; omega) rfl
@[scoped simp] theorem at14 (x0 x1 x2 x3 x4 x5 x6 x7 x8 x9 x10 x11 x12 x13 x14 : A) (l : List A) : atI (x0 :: x1 :: x2 :: x3 :: x4 :: x5 :: x6 :: x7 :: x8 :: x9 :: x10 :: x11 :: x12 :: x13 :: x14 :: l) 14 = some x14 := at_of 14 (by simp only [List.length_cons]; omega) rfl
@[scoped simp] theorem at15 (x0 x1 x2 x3 x4 x5 x6 x7 x8 x9 x10 x11 x12 x13 x14 x15 : A) (l : List A) : atI (x0 :: x1 :: x2 :: x3 :: x4 :: x5 :: x6 :: x7 :: x8 :: x9 :: x10 :: x11 :: x12 :: x13 :: x14 :: x15 :: l) 15 = some x15 := at_of 15 (by simp only [List.length_cons]; omega) rfl
@[scoped simp] theorem at16 (x0 x1 x2 x3 x4 x5 x6 x7 x8 x9 x10 x11 x12 x13 x14 x15 x16 : A) (l : List A) : atI (x0 :: x1 :: x2 :: x3 :: x4 :: x5 :: x6 :: x7 :: x8 :: x9 :: x10 :: x11 :: x12 :: x13 :: x14 :: x15 :: x16 :: l) 16 = some x16 := at_of 16 (by simp only [List.length_cons]; omega) rfl
@[scoped simp] theorem at17 (x0 x1 x2 x3 x4 x5 x6 x7 x8 x9 x10 x11 x12 x13 x14 x15 x16 x17 : A) (l : List A) : atI (x0 :: x1 :: x2 :: x3 :: x4 :: x5 :: x6 :: x7 :: x8 :: x9 :: x10 :: x11 :: x12 :: x13 :: x14 :: x15 :: x16 :: x17 :: l) 17 = some x17 := at_of 17 (by simp only [List.length_cons]; omega) rfl
@[scoped simp] theorem at18 (x0 x1 x2 x3 x4 x5 x6 x7 x8 x9 x10 x11 x12 x13 x14 x15 x16 x17 x18 : A) (l : List A) : atI (x0 :: x1 :: x2 :: x3 :: x4 :: x5 :: x6 :: x7 :: x8 :: x9 :: x10 :: x11 :: x12 :: x13 :: x14 :: x15 :: x16 :: x17 :: x18 :: l) 18 = some x18 := at_of 18 (by simp only [List.length_cons]; omega) rfl
@[scoped simp] theorem at19 (x0 x1 x2 x3 x4 x5 x6 x7 x8 x9 x10 x11 x12 x13 x14 x15 x16 x17 x18 x19 : A) (l : List A) : atI (x0 :: x1 :: x2 :: x3 :: x4 :: x5 :: x6 :: x7 :: x8 :: x9 :: x10 :: x11 :: x12 :: x13 :: x14 :: x15 :: x16 :: x17 :: x18 :: x19 :: l) 19 = some x19 := at_of 19 (by simp only [List.length_cons]; omega) rfl
@[scoped simp] theorem at20 (x0 x1 x2 x3 x4 x5 x6 x7 x8 x9 x10 x11 x12 x13 x14 x15 x16 x17 x18 x19 x20 : A) (l : List A) : atI (x0 :: x1 :: x2 :: x3 :: x4 :: x5 :: x6 :: x7 :: x8 :: x9 :: x10 :: x11 :: x12 :: x13 :: x14 :: x15 :: x16 :: x17 :: x18 :: x19 :: x20 :: l) 20 = some x20 := at_of 20 (by simp only [List.length_cons]; omega) rfl
end
@[scoped simp] theorem szl : sizeLine = 16777216 := rfl
section
variable {n k : Int} {fs : List (List Int)} [S : Stk n k fs]
set_option synthInstance.checkSynthOrder false in
instance : LenLe fs 70 := ⟨S.few⟩
set_option synthInstance.checkSynthOrder false in
instance : AllLe fs 4 := ⟨fun f hf => by have := (S.face f hf).len; have := S.k4; omega⟩
set_option synthInstance.checkSynthOrder false in
instance : AbsLe n 8 := ⟨by have := S.n1; have := S.n8; omega⟩
set_option synthInstance.checkSynthOrder false in
instance : AbsLe k 4 := ⟨by have := S.k0; have := S.k4; omega⟩
end
end Lx
set_option Elab.async false
set_option linter.all false
set_option maxRecDepth 100000
set_option maxHeartbeats 1000000
namespace Lf
open PySem PySem.Spec PyProof.Rows L2 Pu
section
variable {A S : Type} {ks : List Nat} {chk : VE → Bool} {it : VE → Rs VItems} {tg : PyData → VE → Option VE} {body : VDS} {e e1 : VE} {j : Nat} {dj : List PyData}
theorem turn_go {d : PyData} {w E : VE} (h : turnT ks tg body d w = .go E) : ∃ e1, tg d w = some e1 ∧ ((∃ e2, body e1 = .next e2 ∧ mask ks e2 = E) ∨ (∃ e2, body e1 = .cont e2 ∧ mask ks e2 = E)) := by
  unfold turnT at h
  cases ht : tg d w with
  | none => rw [ht] at h; cases h
  | some e1 =>
    rw [ht] at h
    simp only [] at h
    refine ⟨e1, rfl, ?_⟩
    cases hb : body e1 with
    | next e2 => rw [hb] at h; exact .inl ⟨e2, rfl, TR.go.inj h⟩
    | cont e2 => rw [hb] at h; exact .inr ⟨e2, rfl, TR.go.inj h⟩
    | brk e2 => rw [hb] at h; cases h
    | ret r e2 => rw [hb] at h; cases h
    | ex x e2 => rw [hb] at h; cases h
    | bad => rw [hb] at h; cases h
theorem forV_fold (enc : A → PyData) (E : S → VE) (step : S → A → S) (I : List A → S → Prop) : ∀ (l done : List A) (s : S), I done s → (∀ s, chk (E s) = true) → (∀ d a r s, done ++ l = d ++ a :: r → I d s → turnT ks tg body (enc a) (E s) = .go (E (step s a)) ∧ I (d ++ [a]) (step s a)) →
    forV ks chk tg body (l.map enc) (E s) = .next (E (l.foldl step s)) ∧ I (done ++ l) (l.foldl step s)
  | [], done, s, h0, hc, hs => by
    rw [List.append_nil]
    refine ⟨?_, h0⟩
    rw [List.map_nil]
    unfold forV
    rw [if_pos (hc s)]
    rfl
  | a :: l, done, s, h0, hc, hs => by
    obtain ⟨h1, h2⟩ := hs done a l s rfl h0
    have ea : done ++ a :: l = (done ++ [a]) ++ l := by simp
    rw [ea] at hs ⊢
    have ih := forV_fold enc E step I l (done ++ [a]) (step s a) h2 hc hs
    refine ⟨?_, ih.2⟩
    rw [List.map_cons]
    unfold forV
    rw [if_pos (hc s)]
    obtain ⟨e1, g1, ⟨e2, g2, g3⟩ | ⟨e2, g2, g3⟩⟩ := turn_go h1 <;> simp only [g1, g2, g3] <;> exact ih.1
theorem for_fold (enc : A → PyData) (l : List A) (E : S → VE) (step : S → A → S) (s0 : S) (I : List A → S → Prop) (hi : it e = .ok (l.map enc, none) e1) (h0 : mask ks e1 = E s0) (hI : I [] s0)
    (hs : ∀ d a r s, l = d ++ a :: r → I d s → turnT ks tg body (enc a) (E s) = .go (E (step s a)) ∧ I (d ++ [a]) (step s a)) : vsFor ks it tg body e = .next (E (l.foldl step s0)) ∧ I l (l.foldl step s0) := by
  unfold vsFor
  rw [hi]
  simp only [Rs.go]
  rw [h0]
  exact forV_fold enc E step I l [] s0 hI (fun _ => rfl) hs
end
def rg2 (a b : Int) : List Int := (List.range (b - a).toNat).map fun (j : Nat) => a + (j : Int)
theorem mem_rg2 {a b x : Int} : x ∈ rg2 a b ↔ a ≤ x ∧ x < b := by
  unfold rg2
  rw [List.mem_map]
  constructor
  · rintro ⟨j, hj, rfl⟩
    have := List.mem_range.mp hj
    omega
  · intro h
    exact ⟨(x - a).toNat, List.mem_range.mpr (by omega), by omega⟩
theorem rgD_rg2 (a b : Int) : rgD a b = (rg2 a b).map .int := by
  unfold rgD rg2
  rw [List.map_map]
  rfl
theorem length_rg2 (a b : Int) : (rg2 a b).length = (b - a).toNat := by simp [rg2]
instance {a b : Int} {m n : Nat} [h : AbsLe a m] [h2 : AbsLe b n] : LenLe (rg2 a b) (m + n) := ⟨by rw [length_rg2]; have := h.le; have := h2.le; omega⟩
def lastI (l : List Int) : Int := l.getLast?.getD 0
theorem ix_lastT {l : List Int} (h : l ≠ []) : ixV (tI l) (.int (-1)) = some (.int (lastI l)) := by
  rcases List.eq_nil_or_concat l with rfl | ⟨r, x, rfl⟩
  · exact absurd rfl h
  · have : ixN (r.length + 1) (-1) = some r.length := by
      simp only [ixN]
      rw [if_neg (by decide), if_pos (by omega)]
      congr 1
      omega
    simp [tI, atI, this, lastI]
theorem ix_lastL {l : List Int} (h : l ≠ []) : ixV (lI l) (.int (-1)) = some (.int (lastI l)) := ix_lastT h
end Lf
namespace Lx
open PySem PySem.Spec PyProof.Rows L2 Lf Pu
@[scoped simp] theorem x_rgD (a b : Int) : rgD a b = (rg2 a b).map .int := rgD_rg2 a b
@[scoped simp] theorem x_k_range2 {a b : Int} {e4 : VE} {m n : Nat} [h : AbsLe a m] [h2 : AbsLe b n] (hm : m + n ≤ 1000000) : k_viRange21 a b e4 = .ok ((rg2 a b).map .int, none) e4 := by
  have := h.le; have := h2.le
  unfold k_viRange21
  rw [if_pos ⟨by omega, by omega⟩, rgD_rg2]
@[scoped simp] theorem x_last_t {l : List Int} (h : l ≠ []) : ixV (tI l) (.int (-1)) = some (.int (lastI l)) := ix_lastT h
@[scoped simp] theorem x_last_l {l : List Int} (h : l ≠ []) : ixV (lI l) (.int (-1)) = some (.int (lastI l)) := ix_lastL h
@[scoped simp] theorem xext_lT {acc b : List (List Int)} {e : VE} {m n : Nat} [h : LenLe acc m] [h2 : LenLe b n] (hm : m + n ≤ 1000000) : vextF (lT acc) [.d (lT b)] e = some (.w (.d .none), lT (acc ++ b)) := ext_lT (by have := h.le; have := h2.le; rw [sizeLine]; omega)
@[scoped simp] theorem xext_lI {acc b : List Int} {e : VE} {m n : Nat} [h : LenLe acc m] [h2 : LenLe b n] (hm : m + n ≤ 1000000) : vextF (lI acc) [.d (lI b)] e = some (.w (.d .none), lI (acc ++ b)) := ext_lI (by have := h.le; have := h2.le; rw [sizeLine]; omega)
end Lx
namespace Lf
open PySem PySem.Spec PyProof.Rows L2 Pu
def okOr {A B : Type} (r : Rs A) (k : A → VE → Rs B) : Rs B := match r with
  | .ok a e => k a e
  | _ => .bad
def addC (vs : List Nat) (tg : PyData → VE → Option VE) (tt : VDT) (elt : VD) (xs acc : List PyData) (r : VR) (e2 : VE) : Rs VR := match r with
  | .d y => if acc.length < sizeLine then lcV vs (fun _ => true) tg tt elt xs (acc ++ [y]) (wipeV e2 vs) else .bad
  | _ => .bad
def k_lcV (vs : List Nat) (tg : PyData → VE → Option VE) (tt : VDT) (elt : VD) (xs acc : List PyData) (o : Option VR) (e2 : VE) : Rs VR := match o with
  | none => lcV vs (fun _ => true) tg tt elt xs acc (wipeV e2 vs)
  | some r => addC vs tg tt elt xs acc r.fz e2
def k_back (e1 : VE) (vs : List Nat) (r : VR) (e2 : VE) : Rs VR := .ok r (backV e1 vs e2)
theorem lcV_cons1 (vs : List Nat) (tg : PyData → VE → Option VE) (tt : VDT) (elt : VD) (x : PyData) (xs acc : List PyData) (e : VE) : lcV vs (fun _ => true) tg tt elt (x :: xs) acc e = okOr (oneC tg tt elt x e) (k_lcV vs tg tt elt xs acc) := by
  conv => lhs; unfold lcV
  unfold oneC
  simp only [if_true]
  cases tg x e with
  | none => rfl
  | some e1 =>
    simp only []
    cases tt e1 with
    | bad => rfl
    | ex y e2 => rfl
    | ok b e2 =>
      cases b with
      | false => rfl
      | true =>
        simp only [Rs.bind, optIf, if_true]
        cases elt e2 with
        | bad => rfl
        | ex y e3 => rfl
        | ok r e3 =>
          simp only [okOr, k_lcV, addC] <;> (cases r.fz <;> rfl)
end Lf
namespace Lx
open PySem PySem.Spec PyProof.Rows L2 Lf Pu
@[scoped simp] theorem okOr_ok {A B : Type} (a : A) (e : VE) (k : A → VE → Rs B) : okOr (.ok a e) k = k a e := id rfl
@[scoped simp] theorem x_klcV_n (vs : List Nat) (tg : PyData → VE → Option VE) (tt : VDT) (elt : VD) (xs acc : List PyData) (e2 : VE) : k_lcV vs tg tt elt xs acc none e2 = lcV vs (fun _ => true) tg tt elt xs acc (wipeV e2 vs) := id rfl
@[scoped simp] theorem x_klcV_s (vs : List Nat) (tg : PyData → VE → Option VE) (tt : VDT) (elt : VD) (xs acc : List PyData) (r : VR) (e2 : VE) : k_lcV vs tg tt elt xs acc (some r) e2 = addC vs tg tt elt xs acc r.fz e2 := id rfl
@[scoped simp] theorem x_addC (vs : List Nat) (tg : PyData → VE → Option VE) (tt : VDT) (elt : VD) (xs acc : List PyData) (y : PyData) (e2 : VE) : addC vs tg tt elt xs acc (.d y) e2 = if acc.length < sizeLine then lcV vs (fun _ => true) tg tt elt xs (acc ++ [y]) (wipeV e2 vs) else .bad := id rfl
@[scoped simp] theorem x_back (e1 : VE) (vs : List Nat) (r : VR) (e2 : VE) : k_back e1 vs r e2 = .ok r (backV e1 vs e2) := id rfl
@[scoped simp ↓] theorem x_lcV_cons (vs : List Nat) (tg : PyData → VE → Option VE) (tt : VDT) (elt : VD) (x : PyData) (xs acc : List PyData) (e : VE) : lcV vs (fun _ => true) tg tt elt (x :: xs) acc e = okOr (oneC tg tt elt x e) (k_lcV vs tg tt elt xs acc) := lcV_cons1 vs tg tt elt x xs acc e
@[scoped simp] theorem x_lcV_nil (vs : List Nat) (tg : PyData → VE → Option VE) (tt : VDT) (elt : VD) (acc : List PyData) (e : VE) : lcV vs (fun _ => true) tg tt elt [] acc e = if acc.length ≤ sizeLine then .ok (.o (.list acc)) e else .bad := by
  unfold lcV
  by_cases h : acc.length ≤ sizeLine
  · rw [if_pos ⟨rfl, h⟩, if_pos h]
  · rw [if_neg (fun q => h q.2), if_neg h]
@[scoped simp] theorem lcA_cons (x : PyData) (xs : List PyData) (e1 : VE) (vs : List Nat) (tg : PyData → VE → Option VE) (tt : VDT) (elt : VD) : lcA (.ok (x :: xs, none) e1) vs tg tt elt = (lcV vs (fun _ => true) tg tt elt (x :: xs) [] (wipeV e1 vs)).bind (k_back e1 vs) := id rfl
@[scoped simp] theorem lcA_nil (e1 : VE) (vs : List Nat) (tg : PyData → VE → Option VE) (tt : VDT) (elt : VD) : lcA (.ok ([], none) e1) vs tg tt elt = (lcV vs (fun _ => true) tg tt elt [] [] (wipeV e1 vs)).bind (k_back e1 vs) := id rfl
@[scoped simp] theorem enum1 (x0 : PyData) : enumD [x0] = [Lf.pairD (.int 0) x0] := by rfl
@[scoped simp] theorem enum2 (x0 x1 : PyData) : enumD [x0, x1] = [Lf.pairD (.int 0) x0, Lf.pairD (.int 1) x1] := by rfl
@[scoped simp] theorem enum3 (x0 x1 x2 : PyData) : enumD [x0, x1, x2] = [Lf.pairD (.int 0) x0, Lf.pairD (.int 1) x1, Lf.pairD (.int 2) x2] := by rfl
@[scoped simp] theorem enum4 (x0 x1 x2 x3 : PyData) : enumD [x0, x1, x2, x3] = [Lf.pairD (.int 0) x0, Lf.pairD (.int 1) x1, Lf.pairD (.int 2) x2, Lf.pairD (.int 3) x3] := by rfl
@[scoped simp] theorem enum5 (x0 x1 x2 x3 x4 : PyData) : enumD [x0, x1, x2, x3, x4] = [Lf.pairD (.int 0) x0, Lf.pairD (.int 1) x1, Lf.pairD (.int 2) x2, Lf.pairD (.int 3) x3, Lf.pairD (.int 4) x4] := by rfl
@[scoped simp] theorem enum6 (x0 x1 x2 x3 x4 x5 : PyData) : enumD [x0, x1, x2, x3, x4, x5] = [Lf.pairD (.int 0) x0, Lf.pairD (.int 1) x1, Lf.pairD (.int 2) x2, Lf.pairD (.int 3) x3, Lf.pairD (.int 4) x4, Lf.pairD (.int 5) x5] := by rfl
@[scoped simp] theorem enum7 (x0 x1 x2 x3 x4 x5 x6 : PyData) : enumD [x0, x1, x2, x3, x4, x5, x6] = [Lf.pairD (.int 0) x0, Lf.pairD (.int 1) x1, Lf.pairD (.int 2) x2, Lf.pairD (.int 3) x3, Lf.pairD (.int 4) x4, Lf.pairD (.int 5) x5, Lf.pairD (.int 6) x6] := by rfl
@[scoped simp] theorem enum8 (x0 x1 x2 x3 x4 x5 x6 x7 : PyData) : enumD [x0, x1, x2, x3, x4, x5, x6, x7] = [Lf.pairD (.int 0) x0, Lf.pairD (.int 1) x1, Lf.pairD (.int 2) x2, Lf.pairD (.int 3) x3, Lf.pairD (.int 4) x4, Lf.pairD (.int 5) x5, Lf.pairD (.int 6) x6, Lf.pairD (.int 7) x7] := by rfl
end Lx
set_option Elab.async false
set_option linter.all false
set_option maxRecDepth 100000
set_option maxHeartbeats 1000000
namespace Lw
open PySem PySem.Spec PyProof.Rows L2 Lf Pu Lx
local macro_rules | `(tactic| simp! [$ls,*]) => `(tactic| simp (disch := first | assumption | omega | (intros; exact id rfl) | (simp; done) | assumption) [-List.any_eq_true, -List.all_eq_true, -List.filter_eq_nil_iff, -List.any_eq_false, -List.all_eq_false, -Rs.bind, -Rs.go, -VS.then, -vitR, -vendR, -visRL, -vseqC, -vdVar, -vdC, -vdF, -vaNil, -vaCons, -vdTup, -vdLst, -vdBin, -vdNeg, -vdChain, -vdIsN, -vdNotN, -vtst, -vdAnd, -vdOr, -vdNot, -vtAndD, -vtOrD, -vtNotD, -vtTrue, -vdIf, -vdIx, -vdCB, -vdIsi, -vdTupRg, -vdLstRg, -vpNo, -vpYes, -vdSl, -vdDict, -vdMt, -viSeq, -viRange, -viRange2, -viZip, -viEnum, -vsNext, -vsSeq, -vsIf, -vsRet, -vsRetN, -vsDrop, -vsBrk, -vsCont, -vsAsg, -vsAsgT, -vsSet, -vsPar, -vdCall, -vsRaise, -vsTryK, -vdMr, -vtgN, -vsBad, $ls,*])
local macro_rules | `(tactic| simp!) => `(tactic| simp! [vtTrue])
instance {row : List Int} {k : Int} {m : Nat} [h : LenLe row m] : LenLe (picked row k) (2 ^ m) := ⟨by
  refine Nat.le_trans (List.length_filter_le _ _) ?_
  have h1 := length_fold k row [[]]
  have h2 : 2 ^ row.length ≤ 2 ^ m := Nat.pow_le_pow_right (by decide) h.le
  simp at h1
  exact Nat.le_trans h1 h2⟩
instance {n k : Int} {m : Nat} [h : AbsLe n m] : LenLe (allL n k) (2 ^ m) := by unfold allL; infer_instance
theorem stk_sort {n k most : Int} {fs : List (List Int)} (hn : 1 ≤ n ∧ n ≤ 8) (hk : 0 ≤ k ∧ k ≤ n ∧ k ≤ 4) (hne : fs ≠ []) (hl : fs.length ≤ 70) (hlm : (fs.length : Int) ≤ most) (hf : ∀ f ∈ fs, Face n k f) (hd : fs.Nodup) : Stk n k (sortT fs) ∧ ((sortT fs).length : Int) ≤ most := by
  refine ⟨⟨hn.1, hn.2, hk.1, hk.2.1, hk.2.2, fun e => ?_, ?_, fun f hfm => hf f ((sortT_perm _).mem_iff.mp hfm), ?_⟩, ?_⟩
  · have := (sortT_perm fs).length_eq
    rw [e] at this
    exact hne (List.length_eq_zero_iff.mp this.symm)
  · rw [(sortT_perm _).length_eq]; exact hl
  · have h1 := sortT_sorted fs
    have h2 : (sortT fs).Nodup := (sortT_perm _).nodup_iff.mpr hd
    exact (h1.and h2).imp fun {a b} ⟨x, y⟩ => lt_of_le_ne x y
  · rw [(sortT_perm _).length_eq]; exact hlm
theorem stk_take {n k most : Int} {fs : List (List Int)} (hm : 1 ≤ most ∧ most ≤ 70) (hn : 1 ≤ n ∧ n ≤ 8) (hk : 0 ≤ k ∧ k ≤ n ∧ k ≤ 4) (hne : fs ≠ []) (hf : ∀ f ∈ fs, Face n k f) (hd : fs.Nodup) : Stk n k (sortT (fs.take most.toNat)) ∧ ((sortT (fs.take most.toNat)).length : Int) ≤ most := by
  have hl : (fs.take most.toNat).length ≤ most.toNat := by rw [List.length_take]; omega
  refine stk_sort hn hk (fun e => ?_) (by omega) (by omega) (fun f h => hf f (List.mem_of_mem_take h)) (hd.sublist (List.take_sublist _ _))
  have h2 := congrArg List.length e
  rw [List.length_take, List.length_nil] at h2
  have h3 : 0 < fs.length := List.length_pos_iff.mpr hne
  omega
theorem xlaw_made {n k : Int} {fs : List (List Int)} {m : Nat} [h : LenLe fs m] (hm : m ≤ 1000) : V_law_made [.d (.int n), .d (.int k), .d (lT fs)] = .ok (.d (stkD n k (sortT fs))) [none, none, none] := E_law_made (by have := h.le; omega)
theorem ties_ok : ∀ m ∈ [(0 : Int), 1, 2, 3, 4, 5], (((rgI (2 + m)).map fun a => [a, a + 1]).all (faceB (3 + m) 2) = true ∧ ((rgI (2 + m)).map fun a => [a, a + 1]).Nodup ∧ ((rgI (2 + m)).map fun a => [a, a + 1]) ≠ []) ∧
    ((((rgI (2 + m)).map fun a => [a, a + 1]) ++ [[0, 2 + m]]).all (faceB (3 + m) 2) = true ∧ (((rgI (2 + m)).map fun a => [a, a + 1]) ++ [[0, 2 + m]]).Nodup) := by decide +kernel
theorem six {m : Int} (h : 0 ≤ m ∧ m < 6) : m = 0 ∨ m = 1 ∨ m = 2 ∨ m = 3 ∨ m = 4 ∨ m = 5 := by omega
theorem E_law_kindly {c b most : Int} (hm : 1 ≤ most ∧ most ≤ 70) : ∃ (n k c' : Int) (fs : List (List Int)), Stk n k fs ∧ (fs.length : Int) ≤ most ∧ V_law_kindly [.p (pen c b), .d (.int most)] = .ok (.d (stkD n k fs)) [some (.p (pen c' b)), none] := by
  obtain ⟨way, c1, h1, d1⟩ := draw (c := c) (b := b) 4 (by decide)
  obtain ⟨more, c2, h2, d2⟩ := draw (c := c1) (b := b) 6 (by decide)
  have hs := six h2
  by_cases hw0 : way = 0
  · have key : ∀ n k : Int, (1 ≤ n ∧ n ≤ 8) → (0 ≤ k ∧ k ≤ n ∧ k ≤ 4) → V_law_kindly [.p (pen c b), .d (.int most)] = .ok (.d (stkD n k (sortT ((allL n k).take most.toNat)))) [some (.p (pen c2 b)), none] → ∃ (n k c' : Int) (fs : List (List Int)), Stk n k fs ∧ (fs.length : Int) ≤ most ∧ V_law_kindly [.p (pen c b), .d (.int most)] = .ok (.d (stkD n k fs)) [some (.p (pen c' b)), none] := fun n k hn hk h => by
      obtain ⟨s1, s2⟩ := stk_take hm hn hk (allL_ne hk.1 hk.2.1) (fun f hf => (mem_allL hk.1).mp hf) (nodup_allL n k)
      exact ⟨n, k, c2, _, s1, s2, h⟩
    subst hw0
    rcases hs with rfl | rfl | rfl | rfl | rfl | rfl
    · exact key 4 2 (by decide) (by decide) (vfn_eval rfl rfl (by simp! [d1, d2, E_law_every, xlaw_made, sl_to_lT]))
    · exact key 4 3 (by decide) (by decide) (vfn_eval rfl rfl (by simp! [d1, d2, E_law_every, xlaw_made, sl_to_lT]))
    · exact key 5 2 (by decide) (by decide) (vfn_eval rfl rfl (by simp! [d1, d2, E_law_every, xlaw_made, sl_to_lT]))
    · exact key 5 4 (by decide) (by decide) (vfn_eval rfl rfl (by simp! [d1, d2, E_law_every, xlaw_made, sl_to_lT]))
    · exact key 5 3 (by decide) (by decide) (vfn_eval rfl rfl (by simp! [d1, d2, E_law_every, xlaw_made, sl_to_lT]))
    · exact key 3 2 (by decide) (by decide) (vfn_eval rfl rfl (by simp! [d1, d2, E_law_every, xlaw_made, sl_to_lT]))
  · have key : ∀ (n k : Int) (L : List (List Int)), (1 ≤ n ∧ n ≤ 8) → (0 ≤ k ∧ k ≤ n ∧ k ≤ 4) → L ≠ [] → (∀ f ∈ L, Face n k f) → L.Nodup → V_law_kindly [.p (pen c b), .d (.int most)] = .ok (.d (stkD n k (sortT (L.take most.toNat)))) [some (.p (pen c2 b)), none] → ∃ (n k c' : Int) (fs : List (List Int)), Stk n k fs ∧ (fs.length : Int) ≤ most ∧ V_law_kindly [.p (pen c b), .d (.int most)] = .ok (.d (stkD n k fs)) [some (.p (pen c' b)), none] := fun n k L hn hk h1 h2 h3 h => by
      obtain ⟨s1, s2⟩ := stk_take hm hn hk h1 h2 h3
      exact ⟨n, k, c2, _, s1, s2, h⟩
    by_cases hw1 : way = 1
    · subst hw1
      have hd : 1 + more % 4 ∈ [(1 : Int), 2, 3, 4] := by simp; omega
      obtain ⟨p1, p2, p3⟩ := pairs_ok _ hd
      have hp := sortT_perm (pairsL (1 + more % 4))
      refine key (2 + 2 * (more % 4)) (1 + more % 4) (sortT (pairsL (1 + more % 4))) (by omega) (by omega) (fun e => p3 (by rw [e] at hp; exact hp.symm.eq_nil)) (fun f hf => ?_) (hp.nodup_iff.mpr p2) (vfn_eval rfl rfl ?_)
      · have := faceB_ok (List.all_eq_true.mp p1 f (hp.mem_iff.mp hf))
        have e : 2 * (1 + more % 4) = 2 + 2 * (more % 4) := by omega
        rwa [e] at this
      · have e1 : mulV (.int 2) (.int (more % 4)) = some (vI (2 * (more % 4))) := mulV_i (.inl (by decide))
        have : LenLe (sortT (pairsL (1 + more % 4))) 16 := ⟨by
          rw [hp.length_eq, pairsL, foldP_len, length_rgI]
          have : 2 ^ (1 + more % 4).toNat ≤ 2 ^ 4 := Nat.pow_le_pow_right (by decide) (by omega)
          simp; omega⟩
        simp! [d1, d2, modV_i, e1, E_law_pairs, xlaw_made, sl_to_lT]
    · have hp := sortT_perm (((rgI (2 + more)).map fun a => [a, a + 1]) ++ [[0, 2 + more]])
      have hm6 : more ∈ [(0 : Int), 1, 2, 3, 4, 5] := by simpa using hs
      obtain ⟨⟨t1, t2, t3⟩, t4, t5⟩ := ties_ok more hm6
      have : AbsLe more 5 := ⟨by omega⟩
      by_cases hw2 : way = 2
      · subst hw2
        refine key (3 + more) 2 _ (by omega) (by omega) (fun e => ?_) (fun f hf => faceB_ok (List.all_eq_true.mp t4 f (hp.mem_iff.mp hf))) (hp.nodup_iff.mpr t5) (vfn_eval rfl rfl (by simp! [d1, d2, xlaw_made, sl_to_lT]))
        rw [e] at hp
        have := hp.length_eq
        simp at this
      · exact key (3 + more) 2 _ (by omega) (by omega) t3 (fun f hf => faceB_ok (List.all_eq_true.mp t1 f hf)) t2 (vfn_eval rfl rfl (by simp! [d1, d2, hw0, hw1, hw2, xlaw_made, sl_to_lT]))
theorem E_law_stack_v2 {c b most : Int} (hm : 1 ≤ most ∧ most ≤ 70) : ∃ (n k c' : Int) (fs : List (List Int)), Stk n k fs ∧ (fs.length : Int) ≤ most ∧ V_law_stack_v2 [.p (pen c b), .d (.int most)] = .ok (.d (stkD n k fs)) [some (.p (pen c' b)), none] := by
  obtain ⟨way, c1, h1, d1⟩ := draw (c := c) (b := b) 5 (by decide)
  obtain ⟨n, k, c2, hn, hk, d2⟩ := E_law_size (c := c1) (b := b)
  by_cases hw0 : way = 0
  · obtain ⟨n, k, c3, fs, S, hl, d3⟩ := E_law_kindly (c := c2) (b := b) hm
    exact ⟨n, k, c3, fs, S, hl, vfn_eval rfl rfl (by simp! [d1, d2, d3, hw0])⟩
  · by_cases hw3 : way < 3
    · obtain ⟨fs, c3, f1, f2, f3, f4, d3⟩ := E_law_drawn (c := c2) (b := b) hn hk (by omega : 1 ≤ most ∧ most ≤ 1000)
      obtain ⟨S, hl⟩ := stk_sort hn hk f3 (by omega) f4 f1 f2
      have : LenLe fs 70 := ⟨by omega⟩
      exact ⟨n, k, c3, _, S, hl, vfn_eval rfl rfl (by simp! [d1, d2, d3, hw0, hw3, xlaw_made])⟩
    · obtain ⟨fs, c3, f1, f2, f3, f4, d3⟩ := E_law_grown (c := c2) (b := b) hn hk (by omega : 1 ≤ most ∧ most ≤ 1000)
      obtain ⟨S, hl⟩ := stk_sort hn hk f3 (by omega) f4 f1 f2
      have : LenLe fs 70 := ⟨by omega⟩
      exact ⟨n, k, c3, _, S, hl, vfn_eval rfl rfl (by simp! [d1, d2, d3, hw0, hw3, xlaw_made])⟩
end Lw
set_option Elab.async false
set_option linter.all false
set_option maxRecDepth 100000
set_option maxHeartbeats 2000000
namespace Lw
open PySem PySem.Spec PyProof.Rows L2 Lf Pu
end Lw
set_option Elab.async false
set_option linter.all false
set_option maxRecDepth 100000
set_option maxHeartbeats 1000000
namespace Lw
open PySem PySem.Spec PyProof.Rows L2 Lf Pu
theorem flat_len {fs : List (List Int)} {m : Int} (h : ∀ f ∈ fs, f.length ≤ 10) : (fs.flatMap fun f => picked f m).length ≤ 1024 * fs.length := by
  induction fs with
  | nil => simp
  | cons f fs ih =>
    have h1 := picked_len (m := m) (h f (by simp))
    have h2 := ih fun g hg => h g (List.mem_cons_of_mem _ hg)
    rw [List.flatMap_cons, List.length_append, List.length_cons, Nat.mul_succ]
    omega
def countsL (fs : List (List Int)) (k : Int) : List Int := (rgI (k + 1)).map fun m => ((partsL fs m).length : Int)
end Lw
set_option Elab.async false
set_option linter.all false
set_option maxRecDepth 100000
set_option maxHeartbeats 2000000
namespace Lw
open PySem PySem.Spec PyProof.Rows L2 Lf Pu
def RowOf (fs : List (List Int)) (row : List Int) : Prop := row.Perm (rgI fs.length)
theorem RowOf.inn {fs : List (List Int)} {row : List Int} (h : RowOf fs row) : ∀ a ∈ row, 0 ≤ a ∧ a < (fs.length : Int) := fun a ha => mem_rgI.mp (h.subset ha)
theorem RowOf.len {fs : List (List Int)} {row : List Int} (h : RowOf fs row) : row.length = fs.length := by have := h.length_eq; rw [length_rgI] at this; omega
theorem RowOf.nodup {fs : List (List Int)} {row : List Int} (h : RowOf fs row) : row.Nodup := h.nodup_iff.mpr (rising_rgI _).nodup
theorem sortI_eq {a b : List Int} (h : a.Perm b) (hb : Rising b) : sortI a = b := by
  have h1 : (sortI a).Perm b := (sortI_perm a).trans h
  refine List.Perm.eq_of_pairwise (le := fun a b => a ≤ b) (fun x y _ _ h1 h2 => Int.le_antisymm h1 h2) (sortI_sorted a) (hb.imp fun h => Int.le_of_lt h) h1
end Lw
set_option Elab.async false
set_option linter.all false
set_option maxRecDepth 100000
set_option maxHeartbeats 1000000
namespace Lw
open PySem PySem.Spec PyProof.Rows L2 Lf Pu Lx
local macro_rules | `(tactic| simp! [$ls,*]) => `(tactic| simp (disch := first | assumption | omega | (intros; exact id rfl) | (simp; done) | assumption) [-List.any_eq_true, -List.all_eq_true, -List.filter_eq_nil_iff, -List.any_eq_false, -List.all_eq_false, -Rs.bind, -Rs.go, -VS.then, -vitR, -vendR, -visRL, -vseqC, -vdVar, -vdC, -vdF, -vaNil, -vaCons, -vdTup, -vdLst, -vdBin, -vdNeg, -vdChain, -vdIsN, -vdNotN, -vtst, -vdAnd, -vdOr, -vdNot, -vtAndD, -vtOrD, -vtNotD, -vtTrue, -vdIf, -vdIx, -vdCB, -vdIsi, -vdTupRg, -vdLstRg, -vpNo, -vpYes, -vdSl, -vdDict, -vdMt, -viSeq, -viRange, -viRange2, -viZip, -viEnum, -vsNext, -vsSeq, -vsIf, -vsRet, -vsRetN, -vsDrop, -vsBrk, -vsCont, -vsAsg, -vsAsgT, -vsSet, -vsPar, -vdCall, -vsRaise, -vsTryK, -vdMr, -vtgN, -vsBad, $ls,*])
local macro_rules | `(tactic| simp!) => `(tactic| simp! [vtTrue])
theorem cells_to (ns : List Int) {j : Int} (hj : 0 ≤ j ∧ j ≤ 100) : ∃ cs : List Int, ∀ e : VE, e[0]? = some (some (.k (ns.map .int))) → viSeq (vdBin addV (vdLst (vaCons (vdCall V_law_cell (vaCons (vdVar 0) (vaCons (vdC (.int 0)) vaNil))) vaNil)) (vdSl (vdVar 0) (vpYes (vdC (.int 1))) (vpYes (vdC (.int j))))) e = .ok (cs.map .int, none) e := by
  obtain ⟨c, hc⟩ := E_law_cell ns
  have hcut : ∃ cs : List Int, Lf.cutD (ns.map PyData.int) (some 1) (some j) = cs.map .int ∧ cs.length ≤ 100 := by
    refine ⟨Lf.cutD ns (some 1) (some j), by unfold Lf.cutD; simp, ?_⟩
    unfold Lf.cutD
    rw [List.length_take]
    have : HT.sIx ns.length ns.length (some j) ≤ 100 := by simp only [HT.sIx]; split <;> omega
    omega
  obtain ⟨cs, h1, h2⟩ := hcut
  refine ⟨c :: cs, fun e he => ?_⟩
  have ha : addV (lI [c]) (.list (cs.map .int)) = some (.own (lI (c :: cs))) := addV_lI (a := [c]) (b := cs) (by rw [sizeLine]; simp; omega)
  simp [he, hc, sizeLine, slV, h1, ha]
  rfl
theorem loop_next {ks : List Nat} {tg : PyData → VE → Option VE} {W : VDS} {E : VE} : ∀ cs : List Int, (∀ c : Int, ∃ e1, tg (.int c) E = some e1 ∧ VS.tr ks (W e1) = .go E) → forL ks tg W (cs.map .int) E = .next E
  | [], _ => rfl
  | c :: cs, h => by
    obtain ⟨e1, h1, h2⟩ := h c
    rw [List.map_cons, forL_cons, turnT_d, h1, turnD_some, h2, run_go]
    exact loop_next cs h
theorem law_loop {ns : List Int} {j : Int} (hj : 0 ≤ j ∧ j ≤ 100) {nl : Nat} {W : VDS} (h : ∀ (c : Int), VS.tr [] (W (none :: some (.d (.int c)) :: List.replicate nl none)) = .go (List.replicate (nl + 2) none)) :
    ∃ ys, vfnD (nl + 2) 1 (vsSeq (vsFor [] (viSeq (vdBin addV (vdLst (vaCons (vdCall V_law_cell (vaCons (vdVar 0) (vaCons (vdC (.int 0)) vaNil))) vaNil)) (vdSl (vdVar 0) (vpYes (vdC (.int 1))) (vpYes (vdC (.int j)))))) (vtgN 1) W) (vsRet (vdC (.bool true)))) [.k (ns.map .int)] = .ok (.d (.bool true)) ys := by
  obtain ⟨cs, hcs⟩ := cells_to ns hj
  have hm : ∀ (l : VE) (n : Nat), maskF [] n l = l.map fun _ => none := fun l => by
    induction l with
    | nil => intro n; rfl
    | cons x l ih => intro n; simp [ih]
  have hfor : vsFor [] (viSeq (vdBin addV (vdLst (vaCons (vdCall V_law_cell (vaCons (vdVar 0) (vaCons (vdC (.int 0)) vaNil))) vaNil)) (vdSl (vdVar 0) (vpYes (vdC (.int 1))) (vpYes (vdC (.int j)))))) (vtgN 1) W (some (.k (ns.map .int)) :: List.replicate (nl + 1) none) = .next (List.replicate (nl + 2) none) := by
    unfold vsFor
    rw [hcs (some (.k (ns.map .int)) :: List.replicate (nl + 1) none) rfl]
    show forV [] (fun _ => true) (vtgN 1) W (cs.map .int) (mask [] (some (.k (ns.map .int)) :: List.replicate (nl + 1) none)) = _
    rw [forV_L, show mask [] (some (.k (ns.map .int)) :: List.replicate (nl + 1) none) = List.replicate (nl + 2) none by simp [hm, List.replicate_succ]]
    exact loop_next cs fun c => ⟨none :: some (.d (.int c)) :: List.replicate nl none, by simp [List.replicate_succ], h c⟩
  refine ⟨[none], vfn_eval rfl rfl ?_⟩
  show vendR 1 ((vsFor [] (viSeq (vdBin addV (vdLst (vaCons (vdCall V_law_cell (vaCons (vdVar 0) (vaCons (vdC (.int 0)) vaNil))) vaNil)) (vdSl (vdVar 0) (vpYes (vdC (.int 1))) (vpYes (vdC (.int j)))))) (vtgN 1) W (some (.k (ns.map .int)) :: List.replicate (nl + 1) none)).then (vsRet (vdC (.bool true)))) = _
  rw [hfor]
  simp [List.replicate_succ]
theorem shaped_of {d : PyData} (h : d.canLay0 = true) (hd : d.depth ≤ 64) : SeqAt.shaped d = true := by
  simp only [SeqAt.shaped, h, Bool.true_and, decide_eq_true_eq]
  exact hd
theorem eq_self {d : PyData} (h : d.canLay0 = true) (hd : d.depth ≤ 64) : eqV d d = some (vB true) := by
  have hs := shaped_of h hd
  show (if SeqAt.shaped d = true ∧ SeqAt.shaped d = true then some (vB (PyData.eqv d d)) else none) = _
  rw [if_pos ⟨hs, hs⟩, SeqAt.eqv_refl d h]
theorem ne_self {d : PyData} (h : d.canLay0 = true) (hd : d.depth ≤ 64) : neV d d = some (vB false) := by
  have hs := shaped_of h hd
  show (if SeqAt.shaped d = true ∧ SeqAt.shaped d = true then some (vB (!PyData.eqv d d)) else none) = _
  rw [if_pos ⟨hs, hs⟩, SeqAt.eqv_refl d h]
  rfl
theorem smallAll_ints' : ∀ {l : List Int}, (∀ a ∈ l, -4096 < a ∧ a < 4096) → smallAll (l.map .int) = true
  | [], _ => rfl
  | a :: l, h => by
    have := h a (by simp)
    simp only [List.map_cons, smallAll, small_int (show a.natAbs < 4096 by omega), smallAll_ints' fun b hb => h b (List.mem_cons_of_mem _ hb), Bool.and_true]
theorem cntAll_ints : ∀ l : List Int, cntAll (l.map .int) = l.length
  | [] => rfl
  | a :: l => by simp only [List.map_cons, cntAll, Lf.cnt, cntAll_ints l, List.length_cons]; omega
theorem smallAll_rows {n k : Int} : ∀ {fs : List (List Int)}, (∀ f ∈ fs, Face n k f) → n ≤ 8 → smallAll (fs.map tI) = true
  | [], _, _ => rfl
  | f :: fs, h, hn => by
    have F := h f (by simp)
    have : small (tI f) = true := by
      simp only [tI, small]
      exact smallAll_ints' fun a ha => by have := F.inn a ha; omega
    simp only [List.map_cons, smallAll, this, smallAll_rows (fun g hg => h g (List.mem_cons_of_mem _ hg)) hn, Bool.and_true]
theorem cntAll_rows {n k : Int} : ∀ {fs : List (List Int)}, (∀ f ∈ fs, Face n k f) → k ≤ 4 → cntAll (fs.map tI) ≤ 5 * fs.length
  | [], _, _ => by simp [cntAll]
  | f :: fs, h, hk => by
    have F := (h f (by simp)).len
    have ih := cntAll_rows (fun g hg => h g (List.mem_cons_of_mem _ hg)) hk
    simp only [List.map_cons, cntAll, tI, Lf.cnt, cntAll_ints, List.length_cons]
    omega
def shownS (n k : Int) (fs : List (List Int)) : Str := (stkD n k fs).shown
theorem depthAll_rows : ∀ fs : List (List Int), PyData.depthAll (fs.map tI) ≤ 2 := encTI.depAll
theorem small_stk {n k : Int} {fs : List (List Int)} (S : Stk n k fs) : small (stkD n k fs) = true := by
  have h1 := smallAll_rows S.face S.n8
  have := S.n1; have := S.n8; have := S.k0; have := S.k4
  have e1 := small_int (i := n) (by omega)
  have e2 := small_int (i := k) (by omega)
  have e3 : small (.tuple (fs.map tI)) = true := by simp only [small]; exact h1
  show smallAll [.int n, .int k, .tuple (fs.map tI)] = true
  simp only [smallAll, e1, e2, e3, Bool.and_true]
@[scoped simp] theorem rep_stk {n k : Int} {fs : List (List Int)} [S : Stk n k fs] : repV (stkD n k fs) = some (.w (.d (.str (shownS n k fs)))) := by
  have h2 : Lf.cnt (stkD n k fs) ≤ 2900 := by
    have := cntAll_rows S.face S.k4
    have := S.few
    simp only [stkD, Lf.cnt, cntAll]
    omega
  have h3 : (stkD n k fs).depth ≤ 64 := by
    have := depthAll_rows fs
    simp only [stkD, PyData.depth, PyData.depthAll]
    omega
  have h4 := repOk_of (small_stk S) h3 h2
  unfold repV repF stkD
  unfold stkD at h4
  simp only [h4, if_true]
  rfl
theorem ok_stk {n k : Int} {fs : List (List Int)} [S : Stk n k fs] : PyData.strOk (shownS n k fs) = true := small_strOk (small_stk S)
@[scoped simp] theorem ne_stk {n k : Int} {fs : List (List Int)} [S : Stk n k fs] : neV (.str (shownS n k fs)) (.str (shownS n k fs)) = some (vB false) := by rw [neV_s ok_stk ok_stk]; simp
@[scoped simp] theorem same_lI (l : List Int) : V_law_same_v2 8 [.d (lI l), .d (lI l)] = .ok (.d (.bool true)) [none, none] := same2_refl 8 (lI l) (encLI.lay l) (by have := encLI.dep l; omega)
@[scoped simp] theorem same_lB (l : List Bool) : V_law_same_v2 8 [.d (lB l), .d (lB l)] = .ok (.d (.bool true)) [none, none] := same2_refl 8 (lB l) (encLB.lay l) (by have := encLB.dep l; omega)
@[scoped simp] theorem same_lT (l : List (List Int)) : V_law_same_v2 8 [.d (lT l), .d (lT l)] = .ok (.d (.bool true)) [none, none] := same2_refl 8 (lT l) (encLT.lay l) (by have := encLT.dep l; omega)
@[scoped simp] theorem same_tT (l : List (List Int)) : V_law_same_v2 8 [.d (tT l), .d (tT l)] = .ok (.d (.bool true)) [none, none] := same2_refl 8 (tT l) (encTT.lay l) (by have := encTT.dep l; omega)
@[scoped simp] theorem same_tI (l : List Int) : V_law_same_v2 8 [.d (tI l), .d (tI l)] = .ok (.d (.bool true)) [none, none] := same2_refl 8 (tI l) (encTI.lay l) (by have := encTI.dep l; omega)
@[scoped simp] theorem same_pI (l : List Int) : V_law_same_v2 8 [.p (lI l), .d (lI l)] = .ok (.d (.bool true)) [some (.p (lI l)), none] := same2_reflP (encI.layAll l) (by have := encI.depAll l; omega)
@[scoped simp] theorem same_pT (l : List (List Int)) : V_law_same_v2 8 [.p (lT l), .d (lT l)] = .ok (.d (.bool true)) [some (.p (lT l)), none] := same2_reflP (encTI.layAll l) (by have := encTI.depAll l; omega)
instance {a b : List Int} {m : Nat} [h : LenLe a m] : LenLe (common a b) m := ⟨Nat.le_trans (common_len a b) h.le⟩
section
variable {a b : List Int} {m : Nat} [h : LenLe a m] (hm : m ≤ 1000000)
include h hm
@[scoped simp] theorem common_tt : V_law_common [.d (tI a), .d (tI b)] = .ok (.o (lI (common a b))) [none, none] := E_law_common .tup .tup (by have := h.le; rw [sizeLine]; omega)
@[scoped simp] theorem common_lt : V_law_common [.d (lI a), .d (tI b)] = .ok (.o (lI (common a b))) [none, none] := E_law_common .lst .tup (by have := h.le; rw [sizeLine]; omega)
@[scoped simp] theorem common_tl : V_law_common [.d (tI a), .d (lI b)] = .ok (.o (lI (common a b))) [none, none] := E_law_common .tup .lst (by have := h.le; rw [sizeLine]; omega)
@[scoped simp] theorem common_ll : V_law_common [.d (lI a), .d (lI b)] = .ok (.o (lI (common a b))) [none, none] := E_law_common .lst .lst (by have := h.le; rw [sizeLine]; omega)
@[scoped simp] theorem within_tt : V_within [.d (tI a), .d (tI b)] = .ok (.d (.bool (within a b))) [none, none] := E_within (by have := h.le; rw [sizeLine]; omega)
@[scoped simp] theorem within_lt : V_within [.d (lI a), .d (tI b)] = .ok (.d (.bool (within a b))) [none, none] := E_withinL (by have := h.le; rw [sizeLine]; omega)
@[scoped simp] theorem lwithin_tt : V_law_within [.d (tI a), .d (tI b)] = .ok (.d (.bool (within a b))) [none, none] := E_law_within (by have := h.le; rw [sizeLine]; omega)
@[scoped simp] theorem lwithin_lt : V_law_within [.d (lI a), .d (tI b)] = .ok (.d (.bool (within a b))) [none, none] := E_law_within2 .lst .tup (by have := h.le; rw [sizeLine]; omega)
end
theorem lay_str (s : String) : (PyData.str (Str.ofString s)).canLay0 = true := strOk_of s
@[scoped simp] theorem ne_str (s : String) : neV (.str (Str.ofString s)) (.str (Str.ofString s)) = some (vB false) := ne_self (lay_str s) (by simp [PyData.depth])
@[scoped simp] theorem eq_str (s : String) : Lf.eqV (.str (Str.ofString s)) (.str (Str.ofString s)) = some (vB true) := eq_self (lay_str s) (by simp [PyData.depth])
def lS (l : List String) : PyData := .list (l.map fun s => .str (Str.ofString s))
theorem layAll_str : ∀ l : List String, PyData.canLayAll0 (l.map fun s => .str (Str.ofString s)) = true
  | [] => rfl
  | s :: l => by simp only [List.map_cons, PyData.canLayAll0, lay_str s, layAll_str l, Bool.and_self]
theorem depAll_str : ∀ l : List String, PyData.depthAll (l.map fun s => .str (Str.ofString s)) ≤ 1
  | [] => by simp [PyData.depthAll]
  | s :: l => by
    have := depAll_str l
    simp only [List.map_cons, PyData.depthAll, PyData.depth]
    omega
@[scoped simp] theorem ne_lS (l : List String) : neV (lS l) (lS l) = some (vB false) := ne_self (layAll_str l) (by have := depAll_str l; simp only [lS, PyData.depth]; omega)
@[scoped simp] theorem eq_lS (l : List String) : eqV (lS l) (lS l) = some (vB true) := eq_self (layAll_str l) (by have := depAll_str l; simp only [lS, PyData.depth]; omega)
theorem at_rg {A : Type} {n i : Int} (g : Int → A) (h : 0 ≤ i ∧ i < n) : atI ((rgI n).map g) i = some (g i) := by
  obtain ⟨m, rfl⟩ := Int.eq_ofNat_of_zero_le h.1
  have hm : m < n.toNat := by omega
  have h2 : (m : Int) < ((List.map g (rgI n)).length : Int) := by rw [List.length_map, length_rgI]; omega
  have h3 : ixN (List.map g (rgI n)).length (m : Int) = some m := by simp only [ixN]; simp; simpa using h2
  simp only [atI, h3, Option.bind_some]
  simp [rgI, hm]
@[scoped simp] theorem ix_lB_rg {n i : Int} {g : Int → Bool} (h : 0 ≤ i ∧ i < n) : ixV (lB ((rgI n).map g)) (.int i) = some (.bool (g i)) := by
  simp only [lB, ixV_l, List.map_map, at_rg _ h, Function.comp]
@[scoped simp] theorem ix_lI_rg {n i : Int} {g : Int → Int} (h : 0 ≤ i ∧ i < n) : ixV (lI ((rgI n).map g)) (.int i) = some (.int (g i)) := by
  simp only [lI, ixV_l, List.map_map, at_rg _ h, Function.comp]
@[scoped simp] theorem ix_lT_rg {n i : Int} {g : Int → List Int} (h : 0 ≤ i ∧ i < n) : ixV (lT ((rgI n).map g)) (.int i) = some (tI (g i)) := by
  simp only [lT, ixV_l, List.map_map, at_rg _ h, Function.comp]
@[scoped simp] theorem ix_tI_rg {n i : Int} {g : Int → Int} (h : 0 ≤ i ∧ i < n) : ixV (tI ((rgI n).map g)) (.int i) = some (.int (g i)) := by
  simp only [tI, ixV_t, List.map_map, at_rg _ h, Function.comp]
@[scoped simp] theorem kind_stack : kindUL words_law_kind_of ⟨"NoStack", []⟩ = some (.d (.str "stack")) := by rfl
@[scoped simp] theorem kind_number : kindUL words_law_kind_of ⟨"NoNumber", []⟩ = some (.d (.str "number")) := by rfl
@[scoped simp] theorem must_from_in {x lo hi : Int} (h : lo ≤ x ∧ x ≤ hi) : V_must_from [.d (.int x), .d (.int lo), .d (.int hi)] = .ok (.d .none) [none, none, none] := E_must_from h
@[scoped simp] theorem must_stk {n k : Int} {fs : List (List Int)} [S : Stk n k fs] : V_must_stack [.d (stkD n k fs)] = .ok (.d .none) [none] := E_must_stack S
end Lw
set_option Elab.async false
set_option linter.all false
set_option maxRecDepth 100000
set_option maxHeartbeats 1000000
namespace Lw
open PySem PySem.Spec PyProof.Rows L2 Lf Pu Lx
local macro_rules | `(tactic| simp! [$ls,*]) => `(tactic| simp (disch := first | assumption | omega | (intros; exact id rfl) | (simp; done) | assumption) [-List.any_eq_true, -List.all_eq_true, -List.filter_eq_nil_iff, -List.any_eq_false, -List.all_eq_false, -Rs.bind, -Rs.go, -VS.then, -vitR, -vendR, -visRL, -vseqC, -vdVar, -vdC, -vdF, -vaNil, -vaCons, -vdTup, -vdLst, -vdBin, -vdNeg, -vdChain, -vdIsN, -vdNotN, -vtst, -vdAnd, -vdOr, -vdNot, -vtAndD, -vtOrD, -vtNotD, -vtTrue, -vdIf, -vdIx, -vdCB, -vdIsi, -vdTupRg, -vdLstRg, -vpNo, -vpYes, -vdSl, -vdDict, -vdMt, -viSeq, -viRange, -viRange2, -viZip, -viEnum, -vsNext, -vsSeq, -vsIf, -vsRet, -vsRetN, -vsDrop, -vsBrk, -vsCont, -vsAsg, -vsAsgT, -vsSet, -vsPar, -vdCall, -vsRaise, -vsTryK, -vdMr, -vtgN, -vsBad, $ls,*])
local macro_rules | `(tactic| simp!) => `(tactic| simp! [vtTrue])
def sgI (n : Int) : Int := 1 - 2 * (n % 2)
theorem sgI_abs (n : Int) : -1 ≤ sgI n ∧ sgI n ≤ 1 := by unfold sgI; omega
class AbsAll (l : List Int) (m : outParam Nat) : Prop where
  le : ∀ a ∈ l, a.natAbs ≤ m
instance {l : List Int} {j : Int} {m : Nat} [h : AbsAll l m] : AbsLe (nthI l j) m := ⟨by
  unfold nthI
  rw [List.getD_eq_getElem?_getD]
  cases hq : l[j.toNat]? with
  | none => simp
  | some f => exact h.le f (List.mem_of_getElem? hq)⟩
instance {n : Int} : AbsLe (sgI n) 1 := ⟨by have := sgI_abs n; omega⟩
theorem partsL_few {n k m : Int} {fs : List (List Int)} (S : Stk n k fs) : (partsL fs m).length ≤ 71680 := by
  unfold partsL
  rw [(sortT_perm _).length_eq]
  refine Nat.le_trans (length_dd _) (Nat.le_trans (flat_len fun f hf => ?_) ?_)
  · have := (S.face f hf).len; have := S.k4; omega
  · have := S.few; omega
set_option synthInstance.checkSynthOrder false in
instance {n k : Int} {fs : List (List Int)} [S : Stk n k fs] : AbsAll (countsL fs k) 71680 := ⟨fun a ha => by
  unfold countsL at ha
  obtain ⟨m, _, rfl⟩ := List.mem_map.mp ha
  have := partsL_few (m := m) S
  omega⟩
def restOf (part f : List Int) : List Int := f.filter fun p => !decide (p ∈ part)
def linkL (fs : List (List Int)) (part : List Int) : List (List Int) := sortT ((fs.filter fun f => within part f).map (restOf part))
theorem restOf_len {n k : Int} {part f : List Int} (F : Face n k f) (hp : part.Nodup) (hw : within part f = true) : ((restOf part f).length : Int) = k - part.length := by
  have hF := F.len
  have hnd := F.up.nodup
  have h1 : (f.filter fun p => decide (p ∈ part)).length + (restOf part f).length = f.length := by
    unfold restOf
    clear hF hnd hw F
    induction f with
    | nil => rfl
    | cons a f ih =>
      rw [List.filter_cons, List.filter_cons]
      by_cases h : a ∈ part
      · simp only [h, decide_true, if_true, Bool.not_true, Bool.false_eq_true, if_false, List.length_cons]; omega
      · simp only [h, decide_false, if_true, Bool.not_false, Bool.false_eq_true, if_false, List.length_cons]; omega
  have h2 : (f.filter fun p => decide (p ∈ part)).Perm part := by
    refine (List.perm_ext_iff_of_nodup (hnd.filter _) hp).mpr fun a => ?_
    rw [List.mem_filter]
    simp only [decide_eq_true_eq]
    exact ⟨fun q => q.2, fun q => ⟨within_iff.mp hw a q, q⟩⟩
  have := h2.length_eq
  omega
theorem restOf_inj {n k : Int} {part f g : List Int} (F : Face n k f) (G : Face n k g) (hf : within part f = true) (hg : within part g = true) (e : restOf part f = restOf part g) : f = g := by
  have mem : ∀ a, a ∈ f ↔ a ∈ g := fun a => by
    by_cases ha : a ∈ part
    · exact ⟨fun _ => within_iff.mp hg a ha, fun _ => within_iff.mp hf a ha⟩
    · have h1 : a ∈ f ↔ a ∈ restOf part f := by simp [restOf, ha]
      have h2 : a ∈ g ↔ a ∈ restOf part g := by simp [restOf, ha]
      rw [h1, h2, e]
  have s1 := rising_sub g f F.up G.up fun a ha => (mem a).mp ha
  have s2 := rising_sub f g G.up F.up fun a ha => (mem a).mpr ha
  exact s1.eq_of_length (Nat.le_antisymm s1.length_le s2.length_le)
theorem stk_link {n k : Int} {fs : List (List Int)} {part : List Int} (S : Stk n k fs) (hp : part.Nodup) (hw : ∃ f ∈ fs, within part f = true) : Stk n (k - part.length) (linkL fs part) := by
  obtain ⟨f0, hf0, hw0⟩ := hw
  have hl0 := restOf_len (S.face f0 hf0) hp hw0
  have hk := S.kn
  have hk4 := S.k4
  have hk0 := S.k0
  have hn1 := S.n1
  refine (stk_sort (most := 70) ⟨hn1, S.n8⟩ ⟨by omega, by omega, by omega⟩ ?_ ?_ ?_ ?_ ?_).1
  · intro e
    have : restOf part f0 ∈ ((fs.filter fun f => within part f).map (restOf part)) := List.mem_map.mpr ⟨f0, List.mem_filter.mpr ⟨hf0, hw0⟩, rfl⟩
    rw [e] at this
    cases this
  · rw [List.length_map]; exact Nat.le_trans (List.length_filter_le _ _) S.few
  · rw [List.length_map]; have := List.length_filter_le (fun f => within part f) fs; have := S.few; omega
  · intro g hg
    obtain ⟨f, hf, rfl⟩ := List.mem_map.mp hg
    obtain ⟨h1, h2⟩ := List.mem_filter.mp hf
    have F := S.face f h1
    exact ⟨F.up.filter _, fun a ha => F.inn a (List.mem_filter.mp ha).1, restOf_len F hp h2⟩
  · have hnd : (fs.filter fun f => within part f).Nodup := (S.up.imp fun {a b} h e => by rw [e] at h; exact List.lt_irrefl b h).filter _
    rw [List.nodup_iff_pairwise_ne, List.pairwise_map]
    refine hnd.imp_of_mem fun {a b} ha hb hab e => hab ?_
    obtain ⟨a1, a2⟩ := List.mem_filter.mp ha
    obtain ⟨b1, b2⟩ := List.mem_filter.mp hb
    exact restOf_inj (S.face a a1) (S.face b b1) a2 b2 e
theorem part1_mem {n k : Int} {fs : List (List Int)} (S : Stk n k fs) {p : List Int} (h : p ∈ partsL fs 1) : p.Nodup ∧ p.length = 1 ∧ ∃ f ∈ fs, within p f = true := by
  unfold partsL at h
  have h1 := (sortT_perm _).mem_iff.mp h
  obtain ⟨f, hf, hp⟩ := List.mem_flatMap.mp (mem_dd.mp h1)
  obtain ⟨h2, h3⟩ := (mem_picked (by decide)).mp hp
  refine ⟨(S.face f hf).up.nodup.sublist h2, by omega, f, hf, within_iff.mpr fun a ha => h2.subset ha⟩
set_option synthInstance.checkSynthOrder false in
instance {n k : Int} {fs : List (List Int)} {p : List Int} [S : Stk n k fs] [h : Mm p (partsL fs 1)] : Stk n (k - p.length) (linkL fs p) := by
  obtain ⟨h1, _, h2⟩ := part1_mem S h.h
  exact stk_link S h1 h2
set_option synthInstance.checkSynthOrder false in
instance {n k m : Int} {fs : List (List Int)} [S : Stk n k fs] : LenLe (partsL fs m) 71680 := ⟨partsL_few S⟩
class AllEq (l : List (List Int)) (m : outParam Int) : Prop where
  h : ∀ f ∈ l, (f.length : Int) = m
end Lw
set_option Elab.async false
set_option linter.all false
set_option maxRecDepth 100000
set_option maxHeartbeats 1000000
namespace Lx
open PySem PySem.Spec PyProof.Rows L2 Lf Pu
@[scoped simp ↓] theorem x_vdRef (told : Str) (kind : Xn → Option VR) (f : VD) (e : VE) : vdRef told kind f e = toldR told kind (f e) := id rfl
@[scoped simp] theorem x_toldR_ok (told : Str) (kind : Xn → Option VR) (r : VR) (e : VE) : toldR told kind (.ok r e) = .ok (.d (.str told)) e := id rfl
@[scoped simp ↓] theorem x_vsSwap (f g o1 i1 o2 i2 : VD) (e : VE) : vsSwap f g o1 i1 o2 i2 e = (f e).go (k_vsSwap2 g o1 i1 o2 i2) := id rfl
@[scoped simp ↓] theorem x_k_vsSwap2 (g o1 i1 o2 i2 : VD) (x : VR) (e1 : VE) : k_vsSwap2 g o1 i1 o2 i2 x e1 = (g e1).go (k_vsSwap1 o1 i1 o2 i2 x) := id rfl
@[scoped simp] theorem x_k_vsSwap1 (o1 i1 o2 i2 : VD) (x y : VR) (e2 : VE) : k_vsSwap1 o1 i1 o2 i2 x y e2 = swapR o1 i1 o2 i2 x.fz y.fz e2 := id rfl
@[scoped simp] theorem x_swapR (o1 i1 o2 i2 : VD) (a b : PyData) (e : VE) : swapR o1 i1 o2 i2 (.d a) (.d b) e = vsSeq (vsSet (vdC a) o1 i1) (vsSet (vdC b) o2 i2) e := id rfl
@[scoped simp ↓] theorem x_vdMs (F : PyData → PyData → Option Rv) (f : VD) (fa : VDA) (e : VE) : vdMs F f fa e = (f e).bind (k_vdMs2 F fa) := id rfl
@[scoped simp] theorem x_k_vdMs1 (F : PyData → PyData → Option Rv) (fs : List (List Int)) (f : List Int) (e2 : VE) : k_vdMs1 F (.d (tT fs)) [.d (tI f)] e2 = vofR (F (tT fs) (tI f)) e2 := id rfl
@[scoped simp] theorem sameV_b (a b : Bool) : sameV (.bool a) (.bool b) = some (vB (a == b)) := id rfl
@[scoped simp] theorem nsameV_b (a b : Bool) : nsameV (.bool a) (.bool b) = some (vB (!(a == b))) := id rfl
@[scoped simp] theorem sameV_n (b : Bool) : sameV .none (.bool b) = some (vB false) := id rfl
@[scoped simp] theorem nsameV_n (b : Bool) : nsameV .none (.bool b) = some (vB true) := id rfl
@[scoped simp ↓] theorem x_vsGreat (f : VDA) (e : VE) : vsGreat f e = (f e).go greatR := id rfl
@[scoped simp ↓] theorem x_vdLstRg2 (f g : VD) (e : VE) : vdLstRg2 f g e = (f e).bind (k_vdLstRg24 g) := id rfl
@[scoped simp ↓] theorem x_k_vdLstRg24 (g : VD) (x : VR) (e1 : VE) : k_vdLstRg24 g x e1 = (g e1).bind (k_vdLstRg23 x) := id rfl
@[scoped simp ↓] theorem x_k_vdLstRg23 (x y : VR) (e2 : VE) : k_vdLstRg23 x y e2 = (vasI x e2).bind (k_vdLstRg22 y) := id rfl
@[scoped simp ↓] theorem x_k_vdLstRg22 (y : VR) (a : Int) (e3 : VE) : k_vdLstRg22 y a e3 = (vasI y e3).bind (k_vdLstRg21 a) := id rfl
@[scoped simp ↓] theorem x_k_vdLstRg21 (a b : Int) (e4 : VE) : k_vdLstRg21 a b e4 = if rgOk a b = true then .ok (.o (.list (rgD a b))) e4 else .bad := id rfl
@[scoped simp] theorem xrvs (ds : List PyData) (e : VE) : vrvsF (.list ds) [] e = some (.w (.d .none), .list ds.reverse) := id rfl
@[scoped simp] theorem xrvs_lI (l : List Int) (e : VE) : vrvsF (lI l) [] e = some (.w (.d .none), lI l.reverse) := by simp [vrvsF, lI, List.map_reverse]
@[scoped simp] theorem xrvs_lT (l : List (List Int)) (e : VE) : vrvsF (lT l) [] e = some (.w (.d .none), lT l.reverse) := by simp [vrvsF, lT, List.map_reverse]
@[scoped simp] theorem xlenSet {l : List Int} (h : l.length < 64) : lenSetV (tI l) = some (vI (setI l).length) := by
  simp only [lenSetV, lenSetF, tI, Lf.ints_map, h, if_true]
@[scoped simp ↓] theorem x_vdLcZ (fa : VDA) (vs : List Nat) (tg : PyData → VE → Option VE) (tt : VDT) (elt : VD) (e : VE) : vdLcZ fa vs tg tt elt e = (fa e).bind (lcZ vs tg tt elt) := id rfl
@[scoped simp ↓] theorem x_vdCallO (V : VF) (fa : VDA) (e : VE) : vdCallO V fa e = (fa e).bind (vcallO V) := id rfl
@[scoped simp] theorem x_vcallO (V : VF) (rs : List VR) (e : VE) : vcallO V rs e = (match vargs e rs with
  | some vs => if nodupN (vrefs rs) = true then (match V (vs ++ [.p (.dict [])]) with
    | .ok r ys => .ok r (wback rs ys e)
    | .ex x ys => .ex x (wback rs ys e)
    | .bad => .bad) else .bad
  | none => .bad) := id rfl
@[scoped simp ↓] theorem x_vdMinD (f : VD) (e : VE) : vdMinD f e = (f e).bind k_vdMinD := id rfl
@[scoped simp] theorem x_k_vdMinD (r : VR) (e1 : VE) : k_vdMinD r e1 = vofR (vone minDV [r.fz] e1) e1 := id rfl
@[scoped simp ↓] theorem x_vsPar3 (i j l : Nat) (f g h : VD) (e : VE) : vsPar3 i j l f g h e = (f e).go (k_vsPar33 i j l g h) := id rfl
@[scoped simp ↓] theorem x_k_vsPar33 (i j l : Nat) (g h : VD) (r : VR) (e1 : VE) : k_vsPar33 i j l g h r e1 = (g e1).go (k_vsPar32 i j l h r) := id rfl
@[scoped simp ↓] theorem x_k_vsPar32 (i j l : Nat) (h : VD) (r q : VR) (e2 : VE) : k_vsPar32 i j l h r q e2 = (h e2).go (k_vsPar31 i j l r q) := id rfl
@[scoped simp] theorem x_k_vsPar31 (i j l : Nat) (r q t : VR) (e3 : VE) : k_vsPar31 i j l r q t e3 = parR3 i j l e3 (vtakeR true r) (vtakeR false q) (vtakeR false t) := id rfl
@[scoped simp] theorem x_parR3 (i j l : Nat) (e : VE) (v u w : VV) : parR3 i j l e (some v) (some u) (some w) = if e.free i = true ∧ e.free j = true ∧ e.free l = true then .next (((e.set i (some v)).set j (some u)).set l (some w)) else .bad := id rfl
@[scoped simp ↓] theorem x_vdIxD (f g : VD) (e : VE) : vdIxD f g e = (f e).bind (k_vdIxD2 g) := id rfl
@[scoped simp ↓] theorem x_k_vdIxD2 (g : VD) (x : VR) (e : VE) : k_vdIxD2 g x e = (g e).bind (k_vdIxD1 x) := id rfl
@[scoped simp] theorem x_k_vdIxD1 (x y : VR) (e : VE) : k_vdIxD1 x y e = ixDK (x.rd e) (y.rd e) e := id rfl
theorem x_ixDK {c k d : PyData} {e : VE} (h : ixD c k = some d) : ixDK (some c) (some k) e = .ok (.d d) e := by unfold ixDK; simp only [h]
end Lx
set_option Elab.async false
set_option linter.all false
set_option maxRecDepth 100000
set_option maxHeartbeats 1000000
namespace Lw
open PySem PySem.Spec PyProof.Rows L2 Lf Pu
mutual
def fitB : PyData → Bool
  | .list xs => decide (xs.length ≤ sizeLine) && fitBs xs
  | .tuple xs => decide (xs.length ≤ sizeLine) && fitBs xs
  | _ => true
def fitBs : List PyData → Bool
  | [] => true
  | x :: xs => fitB x && fitBs xs
end
theorem fitBs_mem {xs : List PyData} {x : PyData} (hc : fitBs xs = true) (h : x ∈ xs) : fitB x = true := by
  induction xs with
  | nil => cases h
  | cons y ys ih =>
    simp only [fitBs, Bool.and_eq_true] at hc
    rcases List.mem_cons.mp h with rfl | h
    · exact hc.1
    · exact ih hc.2 h
theorem fitBs_of {xs : List PyData} (h : ∀ x ∈ xs, fitB x = true) : fitBs xs = true := by
  induction xs with
  | nil => rfl
  | cons y ys ih =>
    simp only [fitBs, Bool.and_eq_true]
    exact ⟨h y (by simp), ih fun x hx => h x (by simp [hx])⟩
theorem fitB_int (l : List Int) : fitBs (l.map PyData.int) = true := fitBs_of fun x hx => by obtain ⟨a, _, rfl⟩ := List.mem_map.mp hx; rfl
theorem fitB_tI {l : List Int} (h : l.length ≤ sizeLine) : fitB (tI l) = true := by simp only [tI, fitB, fitB_int, List.length_map, h, decide_true, Bool.and_true]
theorem fitB_lI {l : List Int} (h : l.length ≤ sizeLine) : fitB (lI l) = true := by simp only [lI, fitB, fitB_int, List.length_map, h, decide_true, Bool.and_true]
theorem fitB_rows {l : List (List Int)} (h : ∀ f ∈ l, f.length ≤ sizeLine) : fitBs (l.map tI) = true := fitBs_of fun x hx => by obtain ⟨a, ha, rfl⟩ := List.mem_map.mp hx; exact fitB_tI (h a ha)
theorem same1_refl : ∀ (m : Nat) (d : PyData), d.canLay0 = true → fitB d = true → d.depth < m → V_law_same m [.d d, .d d] = .ok (.d (.bool true)) [none, none]
  | 0, _, _, _, h => absurd h (Nat.not_lt_zero _)
  | m + 1, d, hc, hL, hd => by
    have loop : ∀ (xs : List PyData) (x0 : PyData), PyData.canLayAll0 xs = true → fitBs xs = true → PyData.depthAll xs < m → xs.length ≤ sizeLine → viZip (vaCons (vdVar 0) (vaCons (vdVar 1) vaNil)) [some (.d x0), some (.d x0), none, none] = .ok (List.zipWith pairD xs xs, none) [some (.d x0), some (.d x0), none, none] →
        vdLcZ (vaCons (vdVar 0) (vaCons (vdVar 1) vaNil)) [2, 3] (vtgT [2, 3]) vtTrue (vdCall (V_law_same m) (vaCons (vdVar 2) (vaCons (vdVar 3) vaNil))) [some (.d x0), some (.d x0), none, none] = .ok (.o (lB (xs.map fun _ => true))) [some (.d x0), some (.d x0), none, none] := by
      intro xs x0 h1 h5 h2 h4 hi
      show vdLc (viZip (vaCons (vdVar 0) (vaCons (vdVar 1) vaNil))) [2, 3] (vtgT [2, 3]) vtTrue (vdCall (V_law_same m) (vaCons (vdVar 2) (vaCons (vdVar 3) vaNil))) [some (.d x0), some (.d x0), none, none] = _
      rw [vlc_mapB (fun x : PyData => pairD x x) xs (fun _ => true) (e1 := [some (.d x0), some (.d x0), none, none]) (by rw [hi, zip_same]) h4 rfl (fun x hx => ⟨[some (.d x0), some (.d x0), some (.d x), some (.d x)], rfl, rfl, by
        simp [same1_refl m x (lay_mem h1 hx) (fitBs_mem h5 hx) (Nat.lt_of_le_of_lt (depth_mem hx) h2)]⟩)]
      rfl
    have hall : ∀ xs : List PyData, allV (lB (xs.map fun _ => true)) = some (vB true) := fun xs => by
      have : (xs.map fun _ => true).all id = true := by simp
      rw [allV_lB, this]
    cases d with
    | none => exact vfn_eval rfl rfl (by simp)
    | bool b => exact vfn_eval rfl rfl (by cases b <;> simp)
    | int i => exact vfn_eval rfl rfl (by simp)
    | str x =>
      have hx : PyData.strOk x = true := by simpa [PyData.canLay0] using hc
      exact vfn_eval rfl rfl (by simp [eqV_s hx hx])
    | dict kv => cases hc
    | list xs =>
      simp only [PyData.canLay0, PyData.depth] at hc hd
      simp only [fitB, Bool.and_eq_true, decide_eq_true_eq] at hL
      refine vfn_eval rfl rfl ?_
      simp
      rw [loop xs (.list xs) hc hL.2 (by omega) hL.1 rfl]
      simp [hall]
    | tuple xs =>
      simp only [PyData.canLay0, PyData.depth] at hc hd
      simp only [fitB, Bool.and_eq_true, decide_eq_true_eq] at hL
      refine vfn_eval rfl rfl ?_
      simp
      rw [loop xs (.tuple xs) hc hL.2 (by omega) hL.1 rfl]
      simp [hall]
theorem same1_reflP {xs : List PyData} {m : Nat} (hc : PyData.canLayAll0 xs = true) (hL : fitBs xs = true) (hl : xs.length ≤ sizeLine) (hd : PyData.depthAll xs < m) : V_law_same (m + 1) [.p (.list xs), .d (.list xs)] = .ok (.d (.bool true)) [some (.p (.list xs)), none] := by
  have loop : vdLcZ (vaCons (vdVar 0) (vaCons (vdVar 1) vaNil)) [2, 3] (vtgT [2, 3]) vtTrue (vdCall (V_law_same m) (vaCons (vdVar 2) (vaCons (vdVar 3) vaNil))) [some (.p (.list xs)), some (.d (.list xs)), none, none] = .ok (.o (lB (xs.map fun _ => true))) [some (.p (.list xs)), some (.d (.list xs)), none, none] := by
    show vdLc (viZip (vaCons (vdVar 0) (vaCons (vdVar 1) vaNil))) [2, 3] (vtgT [2, 3]) vtTrue (vdCall (V_law_same m) (vaCons (vdVar 2) (vaCons (vdVar 3) vaNil))) [some (.p (.list xs)), some (.d (.list xs)), none, none] = _
    rw [vlc_mapB (fun x : PyData => pairD x x) xs (fun _ => true) (o := some (0, xs)) (e1 := [some (.p (.list xs)), some (.d (.list xs)), none, none]) (by rw [← zip_same]; rfl) hl (by simp) (fun x hx => ⟨[some (.p (.list xs)), some (.d (.list xs)), some (.d x), some (.d x)], rfl, rfl, by
      simp [same1_refl m x (lay_mem hc hx) (fitBs_mem hL hx) (Nat.lt_of_le_of_lt (depth_mem hx) hd)]⟩)]
    rfl
  have hall : allV (lB (xs.map fun _ => true)) = some (vB true) := by
    have : (xs.map fun _ => true).all id = true := by simp
    rw [allV_lB, this]
  refine vfn_eval rfl rfl ?_
  simp
  rw [loop]
  simp [hall]
theorem same1_reflPP {xs : List PyData} {m : Nat} (hc : PyData.canLayAll0 xs = true) (hL : fitBs xs = true) (hl : xs.length ≤ sizeLine) (hd : PyData.depthAll xs < m) : V_law_same (m + 1) [.p (.list xs), .p (.list xs)] = .ok (.d (.bool true)) [some (.p (.list xs)), some (.p (.list xs))] := by
  have one : ∀ x ∈ xs, oneC (vtgT [2, 3]) vtTrue (vdCall (V_law_same m) (vaCons (vdVar 2) (vaCons (vdVar 3) vaNil))) (pairD x x) [some (.p (.list xs)), some (.p (.list xs)), none, none] = .ok (some (.d (.bool true))) [some (.p (.list xs)), some (.p (.list xs)), some (.d x), some (.d x)] := fun x hx => by
    have e : (vtgT [2, 3]) (pairD x x) [some (.p (.list xs)), some (.p (.list xs)), none, none] = some [some (.p (.list xs)), some (.p (.list xs)), some (.d x), some (.d x)] := rfl
    unfold oneC
    rw [e]
    simp [optIf, same1_refl m x (lay_mem hc hx) (fitBs_mem hL hx) (Nat.lt_of_le_of_lt (depth_mem hx) hd)]
  have loop : vdLcZ (vaCons (vdVar 0) (vaCons (vdVar 1) vaNil)) [2, 3] (vtgT [2, 3]) vtTrue (vdCall (V_law_same m) (vaCons (vdVar 2) (vaCons (vdVar 3) vaNil))) [some (.p (.list xs)), some (.p (.list xs)), none, none] = .ok (.o (lB (xs.map fun _ => true))) [some (.p (.list xs)), some (.p (.list xs)), none, none] := by
    show (lcV [2, 3] (chk2 0 xs 1 xs) (vtgT [2, 3]) vtTrue (vdCall (V_law_same m) (vaCons (vdVar 2) (vaCons (vdVar 3) vaNil))) (List.zipWith pairD xs xs) [] [some (.p (.list xs)), some (.p (.list xs)), none, none]).bind (fun r e2 => .ok r (backV [some (.p (.list xs)), some (.p (.list xs)), none, none] [2, 3] e2)) = _
    rw [zip_same, lcV_acc (fun x => pairD x x) xs [] (by simp [chk2]) (by simpa using hl) (fun x hx => ⟨_, _, one x hx, rfl, fun v hv => by cases hv; exact ⟨_, rfl⟩⟩)]
    have e : xs.filterMap (fun a => datC (oneC (vtgT [2, 3]) vtTrue (vdCall (V_law_same m) (vaCons (vdVar 2) (vaCons (vdVar 3) vaNil))) (pairD a a) [some (.p (.list xs)), some (.p (.list xs)), none, none])) = xs.filterMap fun _ => some (PyData.bool true) := HT.fm_congr fun a ha => by rw [one a ha]; rfl
    rw [e]
    simp [lB]
  have hall : allV (lB (xs.map fun _ => true)) = some (vB true) := by
    have : (xs.map fun _ => true).all id = true := by simp
    rw [allV_lB, this]
  refine vfn_eval rfl rfl ?_
  simp
  rw [loop]
  simp [hall]
end Lw
namespace Lw
open PySem PySem.Spec PyProof.Rows L2 Lf Pu Lx
local macro_rules | `(tactic| simp! [$ls,*]) => `(tactic| simp (disch := first | assumption | omega | (intros; exact id rfl) | (simp; done) | assumption) [-List.any_eq_true, -List.all_eq_true, -List.filter_eq_nil_iff, -List.any_eq_false, -List.all_eq_false, -Rs.bind, -Rs.go, -VS.then, -vitR, -vendR, -visRL, -vseqC, -vdVar, -vdC, -vdF, -vaNil, -vaCons, -vdTup, -vdLst, -vdBin, -vdNeg, -vdChain, -vdIsN, -vdNotN, -vtst, -vdAnd, -vdOr, -vdNot, -vtAndD, -vtOrD, -vtNotD, -vtTrue, -vdIf, -vdIx, -vdCB, -vdIsi, -vdTupRg, -vdLstRg, -vpNo, -vpYes, -vdSl, -vdDict, -vdMt, -viSeq, -viRange, -viRange2, -viZip, -viEnum, -vsNext, -vsSeq, -vsIf, -vsRet, -vsRetN, -vsDrop, -vsBrk, -vsCont, -vsAsg, -vsAsgT, -vsSet, -vsPar, -vdCall, -vsRaise, -vsTryK, -vdMr, -vtgN, -vsBad, $ls,*])
local macro_rules | `(tactic| simp!) => `(tactic| simp! [vtTrue])
@[scoped simp] theorem same1_n : V_law_same 8 [.d .none, .d .none] = .ok (.d (.bool true)) [none, none] := same1_refl 8 _ rfl rfl (by decide)
@[scoped simp] theorem same1_b (b : Bool) : V_law_same 8 [.d (.bool b), .d (.bool b)] = .ok (.d (.bool true)) [none, none] := same1_refl 8 _ rfl rfl (by simp [PyData.depth])
@[scoped simp] theorem same1_i (b : Int) : V_law_same 8 [.d (.int b), .d (.int b)] = .ok (.d (.bool true)) [none, none] := same1_refl 8 _ rfl rfl (by simp [PyData.depth])
@[scoped simp] theorem same1_tI (l : List Int) {m : Nat} [h : LenLe l m] (hm : m ≤ 1000000) : V_law_same 8 [.d (tI l), .d (tI l)] = .ok (.d (.bool true)) [none, none] := same1_refl 8 (tI l) (encTI.lay l) (fitB_tI (by have := h.le; rw [sizeLine]; omega)) (by have := encTI.dep l; omega)
@[scoped simp] theorem same1_lI (l : List Int) {m : Nat} [h : LenLe l m] (hm : m ≤ 1000000) : V_law_same 8 [.d (lI l), .d (lI l)] = .ok (.d (.bool true)) [none, none] := same1_refl 8 (lI l) (encLI.lay l) (fitB_lI (by have := h.le; rw [sizeLine]; omega)) (by have := encLI.dep l; omega)
theorem fitB_tT {l : List (List Int)} (h1 : l.length ≤ sizeLine) (h : ∀ f ∈ l, f.length ≤ sizeLine) : fitB (tT l) = true := by simp only [tT, fitB, fitB_rows h, List.length_map, h1, decide_true, Bool.and_true]
theorem fitB_lT {l : List (List Int)} (h1 : l.length ≤ sizeLine) (h : ∀ f ∈ l, f.length ≤ sizeLine) : fitB (lT l) = true := by simp only [lT, fitB, fitB_rows h, List.length_map, h1, decide_true, Bool.and_true]
@[scoped simp] theorem same1_tT (l : List (List Int)) {m k : Nat} [h : LenLe l m] [h2 : AllLe l k] (hm : m ≤ 1000000) (hk : k ≤ 1000000) : V_law_same 8 [.d (tT l), .d (tT l)] = .ok (.d (.bool true)) [none, none] := same1_refl 8 (tT l) (encTT.lay l) (fitB_tT (by have := h.le; rw [sizeLine]; omega) fun f hf => by have := h2.le f hf; rw [sizeLine]; omega) (by have := encTT.dep l; omega)
@[scoped simp] theorem same1_lT (l : List (List Int)) {m k : Nat} [h : LenLe l m] [h2 : AllLe l k] (hm : m ≤ 1000000) (hk : k ≤ 1000000) : V_law_same 8 [.d (lT l), .d (lT l)] = .ok (.d (.bool true)) [none, none] := same1_refl 8 (lT l) (encLT.lay l) (fitB_lT (by have := h.le; rw [sizeLine]; omega) fun f hf => by have := h2.le f hf; rw [sizeLine]; omega) (by have := encLT.dep l; omega)
@[scoped simp] theorem same1_pI (l : List Int) {m : Nat} [h : LenLe l m] (hm : m ≤ 1000000) : V_law_same 8 [.p (lI l), .d (lI l)] = .ok (.d (.bool true)) [some (.p (lI l)), none] := same1_reflP (encI.layAll l) (fitB_int l) (by have := h.le; rw [List.length_map, sizeLine]; omega) (by have := encI.depAll l; omega)
@[scoped simp] theorem same1_pT (l : List (List Int)) {m k : Nat} [h : LenLe l m] [h2 : AllLe l k] (hm : m ≤ 1000000) (hk : k ≤ 1000000) : V_law_same 8 [.p (lT l), .d (lT l)] = .ok (.d (.bool true)) [some (.p (lT l)), none] := same1_reflP (encTI.layAll l) (fitB_rows fun f hf => by have := h2.le f hf; rw [sizeLine]; omega) (by have := h.le; rw [List.length_map, sizeLine]; omega) (by have := encTI.depAll l; omega)
@[scoped simp] theorem same1_ppT (l : List (List Int)) {m k : Nat} [h : LenLe l m] [h2 : AllLe l k] (hm : m ≤ 1000000) (hk : k ≤ 1000000) : V_law_same 8 [.p (lT l), .p (lT l)] = .ok (.d (.bool true)) [some (.p (lT l)), some (.p (lT l))] := same1_reflPP (encTI.layAll l) (fitB_rows fun f hf => by have := h2.le f hf; rw [sizeLine]; omega) (by have := h.le; rw [List.length_map, sizeLine]; omega) (by have := encTI.depAll l; omega)
theorem stk_lay (n k : Int) (fs : List (List Int)) : (stkD n k fs).canLay0 = true := by
  have := encTI.layAll fs
  simp only [stkD, PyData.canLay0, PyData.canLayAll0, Bool.true_and, Bool.and_true, this]
theorem stk_dep (n k : Int) (fs : List (List Int)) : (stkD n k fs).depth ≤ 4 := by
  have := encTI.depAll fs
  simp only [stkD, PyData.depth, PyData.depthAll]
  omega
theorem same1_stk {n k : Int} {fs : List (List Int)} {m j : Nat} (h : fs.length ≤ m) (hm : m ≤ 1000000) (h2 : ∀ f ∈ fs, f.length ≤ j) (hj : j ≤ 1000000) : V_law_same 8 [.d (stkD n k fs), .d (stkD n k fs)] = .ok (.d (.bool true)) [none, none] := by
  refine same1_refl 8 (stkD n k fs) (stk_lay n k fs) ?_ (by have := stk_dep n k fs; omega)
  have e : fitB (.tuple (fs.map tI)) = true := fitB_tT (l := fs) (by rw [sizeLine]; omega) fun f hf => by have := h2 f hf; rw [sizeLine]; omega
  have e2 : fitBs [.int n, .int k, .tuple (fs.map tI)] = true := by
    simp only [fitBs, e, Bool.and_true]
    rfl
  simp only [stkD, fitB, e2, Bool.and_true]
  rfl
end Lw
set_option Elab.async false
set_option linter.all false
set_option maxRecDepth 100000
set_option maxHeartbeats 1000000
namespace Lw
open PySem PySem.Spec PyProof.Rows L2 Lf Pu Lx
local macro_rules | `(tactic| simp! [$ls,*]) => `(tactic| simp (disch := first | assumption | omega | (intros; exact id rfl) | (simp; done) | assumption) [-List.any_eq_true, -List.all_eq_true, -List.filter_eq_nil_iff, -List.any_eq_false, -List.all_eq_false, -Rs.bind, -Rs.go, -VS.then, -vitR, -vendR, -visRL, -vseqC, -vdVar, -vdC, -vdF, -vaNil, -vaCons, -vdTup, -vdLst, -vdBin, -vdNeg, -vdChain, -vdIsN, -vdNotN, -vtst, -vdAnd, -vdOr, -vdNot, -vtAndD, -vtOrD, -vtNotD, -vtTrue, -vdIf, -vdIx, -vdCB, -vdIsi, -vdTupRg, -vdLstRg, -vpNo, -vpYes, -vdSl, -vdDict, -vdMt, -viSeq, -viRange, -viRange2, -viZip, -viEnum, -vsNext, -vsSeq, -vsIf, -vsRet, -vsRetN, -vsDrop, -vsBrk, -vsCont, -vsAsg, -vsAsgT, -vsSet, -vsPar, -vdCall, -vsRaise, -vsTryK, -vdMr, -vtgN, -vsBad, $ls,*])
local macro_rules | `(tactic| simp!) => `(tactic| simp! [vtTrue])
class PartOf (n : Int) (fs : List (List Int)) (p : List Int) : Prop where
  up : Rising p
  inn : ∀ a ∈ p, 0 ≤ a ∧ a < n
  wi : ∃ f ∈ fs, within p f = true
theorem PartOf.sub {n k : Int} {fs : List (List Int)} {p : List Int} (S : Stk n k fs) (P : PartOf n fs p) : (p.length : Int) ≤ k := by
  obtain ⟨f, hf, hw⟩ := P.wi
  have F := S.face f hf
  have := (rising_sub f p P.up F.up fun a ha => within_iff.mp hw a ha).length_le
  have := F.len
  omega
theorem part_of_mem {n k m : Int} {fs : List (List Int)} (S : Stk n k fs) {p : List Int} (hm : 0 ≤ m) (h : p ∈ partsL fs m) : PartOf n fs p := by
  rw [parts_eq hm S.face] at h
  obtain ⟨h1, h2⟩ := List.mem_filter.mp h
  have F := (mem_allL hm).mp h1
  obtain ⟨f, hf, hw⟩ := List.any_eq_true.mp h2
  exact ⟨F.up, F.inn, f, hf, hw⟩
section
variable {n k : Int} {fs : List (List Int)} {p : List Int}
theorem stk_linkP (S : Stk n k fs) (P : PartOf n fs p) : Stk n (k - p.length) (linkL fs p) := stk_link S P.up.nodup P.wi
def everyL (fs : List (List Int)) (k : Int) : List (List Int) := (rgI (k + 1)).flatMap fun m => partsL fs m
theorem part_every (S : Stk n k fs) (h : p ∈ everyL fs k) : PartOf n fs p := by
  obtain ⟨m, hm, hp⟩ := List.mem_flatMap.mp h
  exact part_of_mem S (mem_rgI.mp hm).1 hp
set_option synthInstance.checkSynthOrder false in
instance [S : Stk n k fs] [h : Mm p (everyL fs k)] : PartOf n fs p := part_every S h.h
set_option synthInstance.checkSynthOrder false in
instance [S : Stk n k fs] [P : PartOf n fs p] : Stk n (k - p.length) (linkL fs p) := stk_linkP S P
@[scoped simp] theorem same1_stkS [S : Stk n k fs] : V_law_same 8 [.d (stkD n k fs), .d (stkD n k fs)] = .ok (.d (.bool true)) [none, none] := same1_stk S.few (by decide) (j := 4) (fun f hf => by have := (S.face f hf).len; have := S.k4; omega) (by decide)
end
@[scoped simp] theorem is_stackS {n k : Int} {fs : List (List Int)} [S : Stk n k fs] : V_is_stack [.d (stkD n k fs)] = .ok (.d (.bool true)) [none] := E_is_stack S
@[scoped simp] theorem toldR_NoStack (e : VE) : toldR "told" (kindU words_law_kinds) (.ex ⟨"NoStack", []⟩ e) = .ok (.d (.str "stack")) e := id rfl
@[scoped simp] theorem toldR_NoNumber (e : VE) : toldR "told" (kindU words_law_kinds) (.ex ⟨"NoNumber", []⟩ e) = .ok (.d (.str "number")) e := id rfl
@[scoped simp] theorem toldR_NoPart (e : VE) : toldR "told" (kindU words_law_kinds) (.ex ⟨"NoPart", []⟩ e) = .ok (.d (.str "part")) e := id rfl
@[scoped simp] theorem toldR_NoLot (e : VE) : toldR "told" (kindU words_law_kinds) (.ex ⟨"NoLot", []⟩ e) = .ok (.d (.str "lot")) e := id rfl
@[scoped simp] theorem toldR_NoRow (e : VE) : toldR "told" (kindU words_law_kinds) (.ex ⟨"NoRow", []⟩ e) = .ok (.d (.str "row")) e := id rfl
@[scoped simp] theorem toldR_NoOrder (e : VE) : toldR "told" (kindU words_law_kinds) (.ex ⟨"NoOrder", []⟩ e) = .ok (.d (.str "order")) e := id rfl
@[scoped simp] theorem toldR_NoNames (e : VE) : toldR "told" (kindU words_law_kinds) (.ex ⟨"NoNames", []⟩ e) = .ok (.d (.str "names")) e := id rfl
@[scoped simp] theorem toldR_NoRim (e : VE) : toldR "told" (kindU words_law_kinds) (.ex ⟨"NoRim", []⟩ e) = .ok (.d (.str "rim")) e := id rfl
@[scoped simp] theorem toldR_NoTaking (e : VE) : toldR "told" (kindU words_law_kinds) (.ex ⟨"NoTaking", []⟩ e) = .ok (.d (.str "taking")) e := id rfl
@[scoped simp] theorem toldR_NoText (e : VE) : toldR "told" (kindU words_law_kinds) (.ex ⟨"NoText", []⟩ e) = .ok (.d (.str "text")) e := id rfl
@[scoped simp] theorem toldR_NoLine (e : VE) : toldR "told" (kindU words_law_kinds) (.ex ⟨"NoLine", []⟩ e) = .ok (.d (.str "line")) e := id rfl
@[scoped simp] theorem toldR_NoDeed (e : VE) : toldR "told" (kindU words_law_kinds) (.ex ⟨"NoDeed", []⟩ e) = .ok (.d (.str "deed")) e := id rfl
end Lw
set_option Elab.async false
set_option linter.all false
set_option maxRecDepth 100000
set_option maxHeartbeats 1000000
namespace Lw
open PySem PySem.Spec PyProof.Rows L2 Lf Pu Lx
local macro_rules | `(tactic| simp! [$ls,*]) => `(tactic| simp (disch := first | assumption | omega | (intros; exact id rfl) | (simp; done) | assumption) [-List.any_eq_true, -List.all_eq_true, -List.filter_eq_nil_iff, -List.any_eq_false, -List.all_eq_false, -Rs.bind, -Rs.go, -VS.then, -vitR, -vendR, -visRL, -vseqC, -vdVar, -vdC, -vdF, -vaNil, -vaCons, -vdTup, -vdLst, -vdBin, -vdNeg, -vdChain, -vdIsN, -vdNotN, -vtst, -vdAnd, -vdOr, -vdNot, -vtAndD, -vtOrD, -vtNotD, -vtTrue, -vdIf, -vdIx, -vdCB, -vdIsi, -vdTupRg, -vdLstRg, -vpNo, -vpYes, -vdSl, -vdDict, -vdMt, -viSeq, -viRange, -viRange2, -viZip, -viEnum, -vsNext, -vsSeq, -vsIf, -vsRet, -vsRetN, -vsDrop, -vsBrk, -vsCont, -vsAsg, -vsAsgT, -vsSet, -vsPar, -vdCall, -vsRaise, -vsTryK, -vdMr, -vtgN, -vsBad, $ls,*])
local macro_rules | `(tactic| simp!) => `(tactic| simp! [vtTrue])
@[scoped simp] theorem app_noneT {l : List (List Int)} {m : Nat} [h : LenLe l m] (hm : m ≤ 1000000) (e : VE) : vappF (lT l) [.d .none] e = some (.w (.d .none), .list (l.map tI ++ [.none])) := by
  have := h.le
  show (if (l.map tI).length < sizeLine then _ else _) = _
  rw [if_pos (by rw [List.length_map, sizeLine]; omega)]
@[scoped simp] theorem app_noneI {l : List Int} {m : Nat} [h : LenLe l m] (hm : m ≤ 1000000) (e : VE) : vappF (lI l) [.d .none] e = some (.w (.d .none), .list (l.map .int ++ [.none])) := by
  have := h.le
  show (if (l.map PyData.int).length < sizeLine then _ else _) = _
  rw [if_pos (by rw [List.length_map, sizeLine]; omega)]
end Lw
set_option Elab.async false
set_option linter.all false
set_option maxRecDepth 100000
set_option maxHeartbeats 1000000
namespace Lw
open PySem PySem.Spec PyProof.Rows L2 Lf Pu Lx
local macro_rules | `(tactic| simp! [$ls,*]) => `(tactic| simp (disch := first | assumption | omega | (intros; exact id rfl) | (simp; done) | assumption) [-List.any_eq_true, -List.all_eq_true, -List.filter_eq_nil_iff, -List.any_eq_false, -List.all_eq_false, -Rs.bind, -Rs.go, -VS.then, -vitR, -vendR, -visRL, -vseqC, -vdVar, -vdC, -vdF, -vaNil, -vaCons, -vdTup, -vdLst, -vdBin, -vdNeg, -vdChain, -vdIsN, -vdNotN, -vtst, -vdAnd, -vdOr, -vdNot, -vtAndD, -vtOrD, -vtNotD, -vtTrue, -vdIf, -vdIx, -vdCB, -vdIsi, -vdTupRg, -vdLstRg, -vpNo, -vpYes, -vdSl, -vdDict, -vdMt, -viSeq, -viRange, -viRange2, -viZip, -viEnum, -vsNext, -vsSeq, -vsIf, -vsRet, -vsRetN, -vsDrop, -vsBrk, -vsCont, -vsAsg, -vsAsgT, -vsSet, -vsPar, -vdCall, -vsRaise, -vsTryK, -vdMr, -vtgN, -vsBad, $ls,*])
local macro_rules | `(tactic| simp!) => `(tactic| simp! [vtTrue])
theorem ints_isW : ∀ {ds : List PyData}, ds.all isW = true → ds = (ds.map intOf).map .int
  | [], _ => rfl
  | d :: ds, h => by
    simp only [List.all_cons, Bool.and_eq_true] at h
    rw [List.map_cons, List.map_cons, ← ints_isW h.2]
    cases d <;> simp at h
    rfl
theorem rg2_0 (n : Int) : rg2 0 n = rgI n := by
  unfold rg2 rgI
  simp
section
variable {n k : Int} {fs : List (List Int)} {row : List Int} {x : PyData}
theorem lc_whole {V : VF} (hV : ∀ x, V [.d x] = .ok (.d (.bool (isW x))) [none]) {ds : List PyData} (hl : ds.length ≤ 1000) {d0 : PyData} : lcA (.ok (ds, none) [some (.d d0), some (.d (.tuple ds)), none]) [2] (vtgN 2) vtTrue (vdCall V (vaCons (vdVar 2) vaNil)) = .ok (.o (lB (ds.map isW))) [some (.d d0), some (.d (.tuple ds)), none] := by
  show vdLc (viSeq (vdVar 1)) [2] (vtgN 2) vtTrue (vdCall V (vaCons (vdVar 2) vaNil)) [some (.d d0), some (.d (.tuple ds)), none] = _
  rw [vlc_mapB (fun d : PyData => d) ds isW ?hi (by rw [sizeLine]; omega) ?hc ?h]
  case hi => rw [List.map_id']; rfl
  case hc => rw [List.map_id']; rfl
  case h => exact fun a _ => ⟨_, rfl, rfl, by simp [hV]⟩
  rfl
end
end Lw
set_option Elab.async false
set_option linter.all false
set_option maxRecDepth 100000
set_option maxHeartbeats 1000000
namespace Lw
open PySem PySem.Spec PyProof.Rows L2 Lf Pu Lx
local macro_rules | `(tactic| simp! [$ls,*]) => `(tactic| simp (disch := first | assumption | omega | (intros; exact id rfl) | (simp; done) | assumption) [-List.any_eq_true, -List.all_eq_true, -List.filter_eq_nil_iff, -List.any_eq_false, -List.all_eq_false, -Rs.bind, -Rs.go, -VS.then, -vitR, -vendR, -visRL, -vseqC, -vdVar, -vdC, -vdF, -vaNil, -vaCons, -vdTup, -vdLst, -vdBin, -vdNeg, -vdChain, -vdIsN, -vdNotN, -vtst, -vdAnd, -vdOr, -vdNot, -vtAndD, -vtOrD, -vtNotD, -vtTrue, -vdIf, -vdIx, -vdCB, -vdIsi, -vdTupRg, -vdLstRg, -vpNo, -vpYes, -vdSl, -vdDict, -vdMt, -viSeq, -viRange, -viRange2, -viZip, -viEnum, -vsNext, -vsSeq, -vsIf, -vsRet, -vsRetN, -vsDrop, -vsBrk, -vsCont, -vsAsg, -vsAsgT, -vsSet, -vsPar, -vdCall, -vsRaise, -vsTryK, -vdMr, -vtgN, -vsBad, $ls,*])
local macro_rules | `(tactic| simp!) => `(tactic| simp! [vtTrue])
end Lw
set_option Elab.async false
set_option linter.all false
set_option maxRecDepth 100000
set_option maxHeartbeats 1000000
namespace Lw
open PySem PySem.Spec PyProof.Rows L2 Lf Pu Lx
local macro_rules | `(tactic| simp! [$ls,*]) => `(tactic| simp (disch := first | assumption | omega | (intros; exact id rfl) | (simp; done) | assumption) [-List.any_eq_true, -List.all_eq_true, -List.filter_eq_nil_iff, -List.any_eq_false, -List.all_eq_false, -Rs.bind, -Rs.go, -VS.then, -vitR, -vendR, -visRL, -vseqC, -vdVar, -vdC, -vdF, -vaNil, -vaCons, -vdTup, -vdLst, -vdBin, -vdNeg, -vdChain, -vdIsN, -vdNotN, -vtst, -vdAnd, -vdOr, -vdNot, -vtAndD, -vtOrD, -vtNotD, -vtTrue, -vdIf, -vdIx, -vdCB, -vdIsi, -vdTupRg, -vdLstRg, -vpNo, -vpYes, -vdSl, -vdDict, -vdMt, -viSeq, -viRange, -viRange2, -viZip, -viEnum, -vsNext, -vsSeq, -vsIf, -vsRet, -vsRetN, -vsDrop, -vsBrk, -vsCont, -vsAsg, -vsAsgT, -vsSet, -vsPar, -vdCall, -vsRaise, -vsTryK, -vdMr, -vtgN, -vsBad, $ls,*])
local macro_rules | `(tactic| simp!) => `(tactic| simp! [vtTrue])
structure SmD (c p : Nat) (d : PyData) : Prop where
  sm : small d = true
  ct : Lf.cnt d ≤ c
  dp : d.depth ≤ p
theorem SmD.mono {c p c' p' : Nat} {d : PyData} (h : SmD c p d) (hc : c ≤ c') (hp : p ≤ p') : SmD c' p' d := ⟨h.sm, Nat.le_trans h.ct hc, Nat.le_trans h.dp hp⟩
theorem SmD.non : SmD 1 0 .none := ⟨rfl, Nat.le_refl _, Nat.le_refl _⟩
theorem SmD.bl (b : Bool) : SmD 1 0 (.bool b) := ⟨rfl, Nat.le_refl _, Nat.le_refl _⟩
theorem SmD.int {i : Int} (h : i.natAbs < 4096) : SmD 1 0 (.int i) := ⟨small_int h, Nat.le_refl _, Nat.le_refl _⟩
theorem SmD.str {x : Str} (h : small (.str x) = true) : SmD 1 0 (.str x) := ⟨h, Nat.le_refl _, Nat.le_refl _⟩
theorem SmD.dct : SmD 1 1 (.dict []) := ⟨rfl, Nat.le_refl _, by simp [PyData.depth, PyData.depthKv]⟩
theorem smallAll_of : ∀ {ds : List PyData}, (∀ d ∈ ds, small d = true) → smallAll ds = true
  | [], _ => rfl
  | d :: ds, h => by
    simp only [smallAll, h d (by simp), smallAll_of fun x hx => h x (List.mem_cons_of_mem _ hx), Bool.and_true]
theorem cntAll_of {c : Nat} : ∀ {ds : List PyData}, (∀ d ∈ ds, Lf.cnt d ≤ c) → cntAll ds ≤ c * ds.length
  | [], _ => by simp [cntAll]
  | d :: ds, h => by
    have h1 := h d (by simp)
    have h2 := cntAll_of fun x hx => h x (List.mem_cons_of_mem _ hx)
    simp only [cntAll, List.length_cons]
    rw [Nat.mul_succ]
    omega
theorem depthAll_of {p : Nat} : ∀ {ds : List PyData}, (∀ d ∈ ds, d.depth ≤ p) → PyData.depthAll ds ≤ p
  | [], _ => by simp [PyData.depthAll]
  | d :: ds, h => by
    have h1 := h d (by simp)
    have h2 := depthAll_of fun x hx => h x (List.mem_cons_of_mem _ hx)
    simp only [PyData.depthAll]
    omega
theorem SmD.tup {c p n : Nat} {ds : List PyData} (h : ∀ d ∈ ds, SmD c p d) (hl : ds.length ≤ n) : SmD (1 + c * n) (p + 1) (.tuple ds) := ⟨by simp only [small]; exact smallAll_of fun d hd => (h d hd).sm, by
  have := cntAll_of fun d hd => (h d hd).ct
  have := Nat.mul_le_mul_left c hl
  simp only [Lf.cnt]
  omega, by
  have := depthAll_of fun d hd => (h d hd).dp
  simp only [PyData.depth]
  omega⟩
theorem SmD.lst {c p n : Nat} {ds : List PyData} (h : ∀ d ∈ ds, SmD c p d) (hl : ds.length ≤ n) : SmD (1 + c * n) (p + 1) (.list ds) := ⟨by simp only [small]; exact smallAll_of fun d hd => (h d hd).sm, by
  have := cntAll_of fun d hd => (h d hd).ct
  have := Nat.mul_le_mul_left c hl
  simp only [Lf.cnt]
  omega, by
  have := depthAll_of fun d hd => (h d hd).dp
  simp only [PyData.depth]
  omega⟩
theorem SmD.ints {l : List Int} (h : ∀ a ∈ l, a.natAbs < 4096) : ∀ d ∈ l.map PyData.int, SmD 1 0 d := fun d hd => by
  obtain ⟨a, ha, rfl⟩ := List.mem_map.mp hd
  exact .int (h a ha)
theorem SmD.tI {l : List Int} {n : Nat} (h : ∀ a ∈ l, a.natAbs < 4096) (hl : l.length ≤ n) : SmD (1 + 1 * n) 1 (tI l) := .tup (.ints h) (by simpa using hl)
theorem SmD.lI {l : List Int} {n : Nat} (h : ∀ a ∈ l, a.natAbs < 4096) (hl : l.length ≤ n) : SmD (1 + 1 * n) 1 (lI l) := .lst (.ints h) (by simpa using hl)
theorem SmD.stk {n k : Int} {fs : List (List Int)} (S : Stk n k fs) : SmD 425 4 (stkD n k fs) := ⟨small_stk S, by
  have := cntAll_rows S.face S.k4
  have := S.few
  simp only [stkD, Lf.cnt, cntAll]
  omega, by
  have := depthAll_rows fs
  simp only [stkD, PyData.depth, PyData.depthAll]
  omega⟩
def shownD (d : PyData) : Str := d.shown
theorem rep_of {c p : Nat} {d : PyData} (h : SmD c p d) (hc : c ≤ 2900) (hp : p ≤ 64) : repV d = some (.w (.d (.str (shownD d)))) := if_pos (repOk_of h.sm (Nat.le_trans h.dp hp) (Nat.le_trans h.ct hc))
theorem ok_of {c p : Nat} {d : PyData} (h : SmD c p d) : PyData.strOk (shownD d) = true := small_strOk h.sm
theorem ne_of {c p : Nat} {d : PyData} (h : SmD c p d) : neV (.str (shownD d)) (.str (shownD d)) = some (vB false) := by rw [neV_s (ok_of h) (ok_of h)]; simp
theorem app_any {l : List PyData} {x : PyData} (h : l.length ≤ 1000) (e : VE) : vappF (.list l) [.d x] e = some (.w (.d .none), .list (l ++ [x])) := by
  have : l.length < sizeLine := by rw [sizeLine]; omega
  simp only [vappF, this, if_true]
theorem add_lr {a b : List PyData} (h : a.length + b.length ≤ 1000) : addV (.list a) (.list b) = some (.own (.list (a ++ b))) := by
  exact addV_L (by rw [sizeLine]; omega)
theorem add_lT {a : List PyData} {b : List (List Int)} (h : a.length + b.length ≤ 1000) : addV (.list a) (lT b) = some (.own (.list (a ++ b.map tI))) := add_lr (by simpa using h)
structure Thing (x : PyData) : Prop where
  few : fewB x = true
  sm : SmD 250 3 x
theorem Thing.tI {l : List Int} (h : ∀ a ∈ l, a.natAbs < 4096) (hl : l.length ≤ 200) : Thing (tI l) := ⟨by simp [fewB, Lf.tI]; omega, (SmD.tI h hl).mono (by omega) (by omega)⟩
theorem Thing.odd {l : List PyData} (h : ∀ d ∈ l, SmD 3 2 d) (hl : l.length ≤ 82) : Thing (.tuple l) := ⟨by simp [fewB]; omega, (SmD.tup h hl).mono (by omega) (by omega)⟩
end Lw
set_option Elab.async false
set_option linter.all false
set_option maxRecDepth 100000
set_option maxHeartbeats 1000000
namespace Lw
open PySem PySem.Spec PyProof.Rows L2 Lf Pu Lx
local macro_rules | `(tactic| simp! [$ls,*]) => `(tactic| simp (disch := first | assumption | omega | (intros; exact id rfl) | (simp; done) | assumption) [-List.any_eq_true, -List.all_eq_true, -List.filter_eq_nil_iff, -List.any_eq_false, -List.all_eq_false, -Rs.bind, -Rs.go, -VS.then, -vitR, -vendR, -visRL, -vseqC, -vdVar, -vdC, -vdF, -vaNil, -vaCons, -vdTup, -vdLst, -vdBin, -vdNeg, -vdChain, -vdIsN, -vdNotN, -vtst, -vdAnd, -vdOr, -vdNot, -vtAndD, -vtOrD, -vtNotD, -vtTrue, -vdIf, -vdIx, -vdCB, -vdIsi, -vdTupRg, -vdLstRg, -vpNo, -vpYes, -vdSl, -vdDict, -vdMt, -viSeq, -viRange, -viRange2, -viZip, -viEnum, -vsNext, -vsSeq, -vsIf, -vsRet, -vsRetN, -vsDrop, -vsBrk, -vsCont, -vsAsg, -vsAsgT, -vsSet, -vsPar, -vdCall, -vsRaise, -vsTryK, -vdMr, -vtgN, -vsBad, $ls,*])
local macro_rules | `(tactic| simp!) => `(tactic| simp! [vtTrue])
section
variable {n k : Int} {fs : List (List Int)} {row : List Int} {x : PyData}
end
theorem pop_lI {l : List Int} {v : Int} {e : VE} (h : 0 ≤ v ∧ v < l.length) (hl : l.length ≤ 1000000) : vpopF (lI l) [.d (.int v)] e = some (.w (.d (.int (nthI l v))), lI (l.eraseIdx v.toNat)) := by
  obtain ⟨m, rfl⟩ := Int.eq_ofNat_of_zero_le h.1
  have hm : m < l.length := by omega
  have h1 : ((m : Int)).natAbs < 2 ^ 63 := by omega
  have h2 : seqIndex? (m : Int) (l.map PyData.int).length = some m := by
    simp [seqIndex?]
    omega
  have h3 : (l.map PyData.int)[m]? = some (.int (nthI l m)) := by simp [nthI, hm]
  have h4 : (l.map PyData.int).eraseIdx m = (l.eraseIdx m).map PyData.int := by
    rw [List.eraseIdx_eq_take_drop_succ, List.eraseIdx_eq_take_drop_succ, List.map_append, List.map_take, List.map_drop]
  simp only [vpopF, lI, h1, if_true, h2, h3, h4, Int.toNat_natCast]
@[scoped simp] theorem kindU_NoOrder : kindUL words_law_kind_of ⟨"NoOrder", []⟩ = some (.d (.str "order")) := rfl
@[scoped simp] theorem kindU_NoPart : kindUL words_law_kind_of ⟨"NoPart", []⟩ = some (.d (.str "part")) := rfl
@[scoped simp] theorem kindU_NoLot : kindUL words_law_kind_of ⟨"NoLot", []⟩ = some (.d (.str "lot")) := rfl
@[scoped simp] theorem kindU_NoRow : kindUL words_law_kind_of ⟨"NoRow", []⟩ = some (.d (.str "row")) := rfl
@[scoped simp] theorem kindU_NoNames : kindUL words_law_kind_of ⟨"NoNames", []⟩ = some (.d (.str "names")) := rfl
@[scoped simp] theorem kindU_NoRim : kindUL words_law_kind_of ⟨"NoRim", []⟩ = some (.d (.str "rim")) := rfl
@[scoped simp] theorem kindU_NoTaking : kindUL words_law_kind_of ⟨"NoTaking", []⟩ = some (.d (.str "taking")) := rfl
end Lw
set_option Elab.async false
set_option linter.all false
set_option maxRecDepth 100000
set_option maxHeartbeats 1000000
namespace Lw
open PySem PySem.Spec PyProof.Rows L2 Lf Pu Lx
local macro_rules | `(tactic| simp! [$ls,*]) => `(tactic| simp (disch := first | assumption | omega | (intros; exact id rfl) | (simp; done) | assumption) [-List.any_eq_true, -List.all_eq_true, -List.filter_eq_nil_iff, -List.any_eq_false, -List.all_eq_false, -Rs.bind, -Rs.go, -VS.then, -vitR, -vendR, -visRL, -vseqC, -vdVar, -vdC, -vdF, -vaNil, -vaCons, -vdTup, -vdLst, -vdBin, -vdNeg, -vdChain, -vdIsN, -vdNotN, -vtst, -vdAnd, -vdOr, -vdNot, -vtAndD, -vtOrD, -vtNotD, -vtTrue, -vdIf, -vdIx, -vdCB, -vdIsi, -vdTupRg, -vdLstRg, -vpNo, -vpYes, -vdSl, -vdDict, -vdMt, -viSeq, -viRange, -viRange2, -viZip, -viEnum, -vsNext, -vsSeq, -vsIf, -vsRet, -vsRetN, -vsDrop, -vsBrk, -vsCont, -vsAsg, -vsAsgT, -vsSet, -vsPar, -vdCall, -vsRaise, -vsTryK, -vdMr, -vtgN, -vsBad, $ls,*])
local macro_rules | `(tactic| simp!) => `(tactic| simp! [vtTrue])
section
variable {n k : Int} {fs : List (List Int)} {f one other : List Int} {p q i j : Int}
end
end Lw
set_option Elab.async false
set_option linter.all false
set_option maxRecDepth 100000
set_option maxHeartbeats 1000000
namespace Lw
open PySem PySem.Spec PyProof.Rows L2 Lf Pu Lx
local macro_rules | `(tactic| simp! [$ls,*]) => `(tactic| simp (disch := first | assumption | omega | (intros; exact id rfl) | (simp; done) | assumption) [-List.any_eq_true, -List.all_eq_true, -List.filter_eq_nil_iff, -List.any_eq_false, -List.all_eq_false, -Rs.bind, -Rs.go, -VS.then, -vitR, -vendR, -visRL, -vseqC, -vdVar, -vdC, -vdF, -vaNil, -vaCons, -vdTup, -vdLst, -vdBin, -vdNeg, -vdChain, -vdIsN, -vdNotN, -vtst, -vdAnd, -vdOr, -vdNot, -vtAndD, -vtOrD, -vtNotD, -vtTrue, -vdIf, -vdIx, -vdCB, -vdIsi, -vdTupRg, -vdLstRg, -vpNo, -vpYes, -vdSl, -vdDict, -vdMt, -viSeq, -viRange, -viRange2, -viZip, -viEnum, -vsNext, -vsSeq, -vsIf, -vsRet, -vsRetN, -vsDrop, -vsBrk, -vsCont, -vsAsg, -vsAsgT, -vsSet, -vsPar, -vdCall, -vsRaise, -vsTryK, -vdMr, -vtgN, -vsBad, $ls,*])
local macro_rules | `(tactic| simp!) => `(tactic| simp! [vtTrue])
end Lw
set_option Elab.async false
set_option linter.all false
set_option maxRecDepth 100000
set_option maxHeartbeats 1000000
namespace Lw
open PySem PySem.Spec PyProof.Rows L2 Lf Pu Lx
local macro_rules | `(tactic| simp! [$ls,*]) => `(tactic| simp (disch := first | assumption | omega | (intros; exact id rfl) | (simp; done) | assumption) [-List.any_eq_true, -List.all_eq_true, -List.filter_eq_nil_iff, -List.any_eq_false, -List.all_eq_false, -Rs.bind, -Rs.go, -VS.then, -vitR, -vendR, -visRL, -vseqC, -vdVar, -vdC, -vdF, -vaNil, -vaCons, -vdTup, -vdLst, -vdBin, -vdNeg, -vdChain, -vdIsN, -vdNotN, -vtst, -vdAnd, -vdOr, -vdNot, -vtAndD, -vtOrD, -vtNotD, -vtTrue, -vdIf, -vdIx, -vdCB, -vdIsi, -vdTupRg, -vdLstRg, -vpNo, -vpYes, -vdSl, -vdDict, -vdMt, -viSeq, -viRange, -viRange2, -viZip, -viEnum, -vsNext, -vsSeq, -vsIf, -vsRet, -vsRetN, -vsDrop, -vsBrk, -vsCont, -vsAsg, -vsAsgT, -vsSet, -vsPar, -vdCall, -vsRaise, -vsTryK, -vdMr, -vtgN, -vsBad, $ls,*])
local macro_rules | `(tactic| simp!) => `(tactic| simp! [vtTrue])
def nmB (n : Int) : PyData → Bool
  | .tuple ds => ds.all isW && decide (sortI (ds.map intOf) = rgI n)
  | _ => false
theorem nmB_tI {n : Int} {row : List Int} : nmB n (tI row) = decide (sortI row = rgI n) := by
  have h1 : (row.map PyData.int).all isW = true := by rw [List.all_map, List.all_eq_true]; exact fun a _ => rfl
  have h2 : (row.map PyData.int).map intOf = row := by rw [List.map_map]; exact List.map_id'' (fun _ => rfl) row
  simp only [tI, nmB, h1, h2, Bool.true_and]
theorem perm_iff {n : Int} {row : List Int} : sortI row = rgI n ↔ row.Perm (rgI n) := by
  constructor
  · intro h
    have := (sortI_perm row).symm
    rw [h] at this
    exact this
  · intro h
    exact sortI_eq h (rising_rgI _)
section
variable {n k : Int} {fs : List (List Int)} {nm : List Int} {x : PyData}
theorem nm_lc {ds : List PyData} (hl : ds.length ≤ 1000) {d0 : PyData} : lcA (.ok (ds, none) [some (.d d0), some (.d (.tuple ds)), none]) [2] (vtgN 2) vtTrue (vdCall V_is_whole (vaCons (vdVar 2) vaNil)) = .ok (.o (lB (ds.map isW))) [some (.d d0), some (.d (.tuple ds)), none] := lc_whole E_is_whole hl
theorem E_must_names (hn : 0 ≤ n ∧ n ≤ 8) (h : nm.Perm (rgI n)) : V_must_names [.d (.int n), .d (tI nm)] = .ok (.d .none) [none, none] := by
  have hl : nm.length ≤ 8 := by rw [h.length_eq, length_rgI]; omega
  have hLn : LenLe nm 8 := ⟨hl⟩
  have hs : sortI nm = rgI n := perm_iff.mpr h
  have e3 : rg2 0 n = rgI n := rg2_0 _
  have e6 : n.natAbs < 4611686018427387904 ∧ n.toNat ≤ 16777216 := by omega
  have e7 : PyData.list ((rgI n).map .int) = lI (rgI n) := rfl
  have e5 : (nm.all fun _ => true) = true := by simp
  refine vfn_eval rfl rfl ?_
  simp! [E_is_whole, hs, e3, e6, e7, e5]
theorem E_must_namesX (hn : 0 ≤ n ∧ n ≤ 8) (hs : fewB x = true) (h : nmB n x = false) : V_must_names [.d (.int n), .d x] = .ex ⟨"NoNames", []⟩ [none, none] := by
  cases x with
  | tuple ds =>
    have hl : ds.length ≤ 1000 := by simpa [fewB] using hs
    by_cases hw : ds.all isW = true
    · have e := ints_isW hw
      generalize hf : ds.map intOf = f at e
      subst e
      have hLf : LenLe f 1000 := ⟨by simpa using hl⟩
      have hq : ¬ sortI f = rgI n := by
        have : nmB n (tI f) = false := h
        rw [nmB_tI, decide_eq_false_iff_not] at this
        exact this
      have e3 : rg2 0 n = rgI n := rg2_0 _
      have e6 : n.natAbs < 4611686018427387904 ∧ n.toNat ≤ 16777216 := by omega
      have e7 : PyData.list ((rgI n).map .int) = lI (rgI n) := rfl
      have e8 : PyData.tuple (f.map .int) = tI f := rfl
      have e5 : (f.all fun _ => true) = true := by simp
      refine vfn_eval rfl rfl ?_
      simp! [E_is_whole, e8, hq, e3, e6, e7, e5]
    · have h0 : ds.all isW = false := by simpa using hw
      have h2 : (ds.map isW).all id = false := by rw [List.all_map]; exact h0
      refine vfn_eval rfl rfl ?_
      simp! [nm_lc hl, -List.all_map, h2]
  | _ => exact vfn_eval rfl rfl (by simp!)
def nmF (nm f : List Int) : List Int := sortI (f.map fun p => nthI nm p)
theorem E_renamed (hm : nm.length = n.toNat) (hn : 0 ≤ n ∧ n ≤ 8) {f : List Int} (hl : f.length ≤ 1000) (hf : ∀ a ∈ f, 0 ≤ a ∧ a < n) : V_renamed [.d (tI f), .d (tI nm)] = .ok (.d (tI (nmF nm f))) [none, none] := by
  have hL : LenLe f 1000 := ⟨hl⟩
  have hI : InR f n.toNat := ⟨fun a ha => by have := hf a ha; omega⟩
  have hx : ∀ a ∈ f, ixV (tI nm) (.int a) = some (.int (nthI nm a)) := fun a ha => ixV_tI (by have := hf a ha; omega)
  have hlc : lcA (.ok (f.map .int, none) [some (.d (tI f)), some (.d (tI nm)), none]) [2] (vtgN 2) vtTrue (vdIx (vdVar 1) (vdVar 2)) = .ok (.o (lI (f.map fun p => nthI nm p))) [some (.d (tI f)), some (.d (tI nm)), none] := by
    show vdLc (viSeq (vdVar 0)) [2] (vtgN 2) vtTrue (vdIx (vdVar 1) (vdVar 2)) [some (.d (tI f)), some (.d (tI nm)), none] = _
    rw [vlc_mapI PyData.int f (fun p => nthI nm p) ?hi (by rw [sizeLine]; omega) ?hc ?h]
    case hi => rfl
    case hc => rfl
    case h => exact fun a ha => ⟨_, rfl, rfl, by simp [hx a ha]⟩
    rfl
  refine vfn_eval rfl rfl ?_
  simp! [hlc, nmF]
end
theorem E_law_names {c b n : Int} (hn : 1 ≤ n ∧ n ≤ 8) : ∃ (nm : List Int) (c' : Int), nm.Perm (rgI n) ∧ V_law_names [.p (pen c b), .d (.int n)] = .ok (.d (tI nm)) [some (.p (pen c' b)), none] := by
  have hrl : (rgI n).length = n.toNat := length_rgI n
  obtain ⟨acc, e', hlc, nm, left, c', hacc, he, hp, hlen⟩ := vlc_inv (it := viRange (vdVar 1)) (vs := [3]) (tg := vtgN 3) (tt := vtTrue) (elt := vdMt vpopF (vdVar 2) (vaCons (vdCall V_law_draw (vaCons (vdVar 0) (vaCons (vdCB (vone lenV) (vaCons (vdVar 2) vaNil)) vaNil))) vaNil))
    (e := [some (.p (pen c b)), some (.d (.int n)), some (.m (lI (rgI n))), none]) PyData.int (rgI n)
    (fun d acc e => ∃ nm left c', acc = nm.map .int ∧ e = [some (.p (pen c' b)), some (.d (.int n)), some (.m (lI left)), none] ∧ (nm ++ left).Perm (rgI n) ∧ nm.length = d.length)
    (range_items (f := vdVar 1) rfl (by omega)) (by rw [length_rgI, sizeLine]; omega) ⟨[], rgI n, c, rfl, rfl, List.Perm.refl _, rfl⟩ (fun d x r acc e hd hR => by
      obtain ⟨nm, left, c', rfl, rfl, hp, hl⟩ := hR
      refine ⟨rfl, _, rfl, .inr ?_⟩
      have hdl : d.length < (rgI n).length := by rw [hd]; simp
      have hpl := hp.length_eq
      rw [List.length_append] at hpl
      obtain ⟨v2, c2, h2, d2⟩ := draw (c := c') (b := b) left.length (by omega)
      refine ⟨_, .d (.int (nthI left v2)), _, .int (nthI left v2), rfl, by simp [d2, pop_lI h2 (by omega)]; rfl, rfl, nm ++ [nthI left v2], left.eraseIdx v2.toNat, c2, by simp, rfl, ?_, by simp [hl]⟩
      have hv : v2.toNat < left.length := by omega
      have e0 : nthI left v2 = left[v2.toNat] := by unfold nthI; rw [List.getD_eq_getElem?_getD, List.getElem?_eq_getElem hv]; rfl
      rw [e0, List.append_assoc]
      refine List.Perm.trans ?_ hp
      refine List.Perm.append_left nm ?_
      have e1 : left = left.take v2.toNat ++ left[v2.toNat] :: left.drop (v2.toNat + 1) := by rw [List.getElem_cons_drop hv, List.take_append_drop]
      rw [List.eraseIdx_eq_take_drop_succ]
      conv => rhs; rw [e1]
      rw [List.singleton_append]
      exact List.perm_middle.symm) (fun _ _ _ => rfl)
  subst hacc he
  have h0 : left = [] := by
    have := hp.length_eq
    rw [List.length_append, hlen] at this
    exact List.eq_nil_of_length_eq_zero (by omega)
  subst h0
  rw [List.append_nil] at hp
  have e0 : PyData.list (nm.map .int) = lI nm := rfl
  have e3 : rg2 0 n = rgI n := rg2_0 _
  have e6 : n.natAbs < 4611686018427387904 ∧ n.toNat ≤ 16777216 := by omega
  have e7 : PyData.list ((rgI n).map .int) = lI (rgI n) := rfl
  refine ⟨nm, c', hp, vfn_eval rfl rfl ?_⟩
  rw [vseq_next (e' := [some (.p (pen c b)), some (.d (.int n)), some (.m (lI (rgI n))), none]) (by simp! [e3, e6, e7])]
  simp only [vsRet, vdCB, vaCons]
  rw [hlc]
  simp [e0]
section
variable {n k : Int} {fs : List (List Int)} {nm : List Int} {x : PyData}
def encB (fs : List (List Int)) (nm : List Int) (i : Int) : PyData := .tuple [lI (nmF nm (nthT fs i)), .int i]
end
end Lw
set_option Elab.async false
set_option linter.all false
set_option maxRecDepth 100000
set_option maxHeartbeats 1000000
namespace Lw
open PySem PySem.Spec PyProof.Rows L2 Lf Pu Lx
local macro_rules | `(tactic| simp! [$ls,*]) => `(tactic| simp (disch := first | assumption | omega | (intros; exact id rfl) | (simp; done) | assumption) [-List.any_eq_true, -List.all_eq_true, -List.filter_eq_nil_iff, -List.any_eq_false, -List.all_eq_false, -Rs.bind, -Rs.go, -VS.then, -vitR, -vendR, -visRL, -vseqC, -vdVar, -vdC, -vdF, -vaNil, -vaCons, -vdTup, -vdLst, -vdBin, -vdNeg, -vdChain, -vdIsN, -vdNotN, -vtst, -vdAnd, -vdOr, -vdNot, -vtAndD, -vtOrD, -vtNotD, -vtTrue, -vdIf, -vdIx, -vdCB, -vdIsi, -vdTupRg, -vdLstRg, -vpNo, -vpYes, -vdSl, -vdDict, -vdMt, -viSeq, -viRange, -viRange2, -viZip, -viEnum, -vsNext, -vsSeq, -vsIf, -vsRet, -vsRetN, -vsDrop, -vsBrk, -vsCont, -vsAsg, -vsAsgT, -vsSet, -vsPar, -vdCall, -vsRaise, -vsTryK, -vdMr, -vtgN, -vsBad, $ls,*])
local macro_rules | `(tactic| simp!) => `(tactic| simp! [vtTrue])
section
variable {n k : Int} {fs : List (List Int)} {nm : List Int} {x : PyData}
theorem slN_last (l : List Int) : slV (some (-1)) none (tI l) = some (.w (.d (tI (l.drop (l.length - 1))))) := by
  have e : ∀ xs : List PyData, Lf.cutD xs (some (-1)) none = xs.drop (xs.length - 1) := fun xs => by
    unfold Lf.cutD
    have e1 : HT.sIx xs.length xs.length none = xs.length := rfl
    have e2 : HT.sIx xs.length 0 (some (-1)) = xs.length - 1 := by
      simp only [HT.sIx]
      split <;> omega
    rw [e1, e2]
    exact List.take_of_length_le (by simp)
  simp only [slV, tI, e, List.length_map, List.map_drop]
theorem slN_but (l : List Int) : slV none (some (-1)) (tI l) = some (.w (.d (tI (l.take (l.length - 1))))) := by
  have e : ∀ xs : List PyData, Lf.cutD xs none (some (-1)) = xs.take (xs.length - 1) := fun xs => by
    unfold Lf.cutD
    have e1 : HT.sIx xs.length 0 none = 0 := rfl
    have e2 : HT.sIx xs.length xs.length (some (-1)) = xs.length - 1 := by
      simp only [HT.sIx]
      split <;> omega
    rw [e1, e2]
    simp
  simp only [slV, tI, e, List.length_map, List.map_take]
theorem nm_bad {ds : List PyData} {d : PyData} (hd : d ∈ ds) (h : isW d = false) : nmB n (.tuple ds) = false := by
  have : ds.all isW = false := List.all_eq_false.mpr ⟨d, hd, by rw [h]; decide⟩
  simp only [nmB, this, Bool.false_and]
theorem nm_has {l : List Int} {a : Int} (ha : a ∈ l) (h : ¬ (0 ≤ a ∧ a < n)) : nmB n (tI l) = false := by
  rw [nmB_tI, decide_eq_false_iff_not]
  exact fun q => h (mem_rgI.mp ((perm_iff.mp q).mem_iff.mp ha))
theorem nm_len {l : List Int} (h : l.length ≠ n.toNat) : nmB n (tI l) = false := by
  rw [nmB_tI, decide_eq_false_iff_not]
  exact fun q => h (by rw [(perm_iff.mp q).length_eq, length_rgI])
theorem nm_dup {l : List Int} (h : ¬ l.Nodup) : nmB n (tI l) = false := by
  rw [nmB_tI, decide_eq_false_iff_not]
  exact fun q => h ((perm_iff.mp q).nodup_iff.mpr ((rising_rgI n).imp fun {a b} h => Int.ne_of_lt h))
def oddN (n : Int) : List PyData := [.int n, .int (-1), .none, .bool true, .str "0", tI [0], .int 1000000000000000000000000000000]
def midN (nm : List Int) (a : Nat) (x : PyData) : PyData := .tuple ((nm.take a).map .int ++ [x] ++ (nm.drop (a + 1)).map .int)
theorem mid_bad {a : Nat} (hn : n ≤ 8) (hx : x ∈ oddN n) : nmB n (midN nm a x) = false := by
  have hi : ∀ v : Int, ¬ (0 ≤ v ∧ v < n) → nmB n (midN nm a (.int v)) = false := fun v hv => by
    have e : midN nm a (.int v) = tI (nm.take a ++ [v] ++ nm.drop (a + 1)) := by unfold midN tI; simp
    rw [e]
    exact nm_has (a := v) (by simp) hv
  have hb : ∀ d : PyData, isW d = false → nmB n (midN nm a d) = false := fun d h => nm_bad (d := d) (by simp) h
  simp only [oddN, List.mem_cons, List.not_mem_nil, or_false] at hx
  rcases hx with rfl | rfl | rfl | rfl | rfl | rfl | rfl
  · exact hi _ (by omega)
  · exact hi _ (by omega)
  · exact hb _ rfl
  · exact hb _ rfl
  · exact hb _ rfl
  · exact hb _ rfl
  · exact hi _ (by omega)
def twiceN (nm : List Int) : PyData := if (nm.length : Int) > 1 then tI (nm.drop (nm.length - 1) ++ nm.drop 1) else .tuple []
def noNms (nm : List Int) (a : Nat) (x : PyData) : List PyData := [midN nm a x, tI (nm.take (nm.length - 1)), tI (nm ++ [(nm.length : Int)]), lI nm, tI (nm ++ nm.take 1), .none, .int 0, .dict [], .str "01", twiceN nm, tT [nm], lT [nm]]
theorem noNms_all {a : Nat} (hn : 1 ≤ n ∧ n ≤ 8) (h : nm.Perm (rgI n)) (hx : x ∈ oddN n) : ∀ y ∈ noNms nm a x, nmB n y = false ∧ fewB y = true := by
  have hl : nm.length = n.toNat := by rw [h.length_eq, length_rgI]
  intro y hy
  simp only [noNms, List.mem_cons, List.not_mem_nil, or_false] at hy
  rcases hy with rfl | rfl | rfl | rfl | rfl | rfl | rfl | rfl | rfl | rfl | rfl | rfl
  · exact ⟨mid_bad hn.2 hx, by simp [fewB, midN]; omega⟩
  · exact ⟨nm_len (by rw [List.length_take]; omega), few_tI (by simp; omega)⟩
  · exact ⟨nm_len (by simp; omega), few_tI (by simp; omega)⟩
  · exact ⟨rfl, rfl⟩
  · exact ⟨nm_len (by simp; omega), few_tI (by simp; omega)⟩
  · exact ⟨rfl, rfl⟩
  · exact ⟨rfl, rfl⟩
  · exact ⟨rfl, rfl⟩
  · exact ⟨rfl, rfl⟩
  · unfold twiceN
    split
    · rename_i hg
      refine ⟨nm_dup fun nd => ?_, few_tI (by simp; omega)⟩
      have h1 : nm.length - 1 < nm.length := by omega
      have m1 : nm[nm.length - 1] ∈ nm.drop (nm.length - 1) := by
        refine List.mem_iff_getElem?.mpr ⟨0, ?_⟩
        rw [List.getElem?_drop, Nat.add_zero, List.getElem?_eq_getElem h1]
      have m2 : nm[nm.length - 1] ∈ nm.drop 1 := by
        refine List.mem_iff_getElem?.mpr ⟨nm.length - 2, ?_⟩
        rw [List.getElem?_drop, show 1 + (nm.length - 2) = nm.length - 1 by omega, List.getElem?_eq_getElem h1]
      exact (List.pairwise_append.mp nd).2.2 _ m1 _ m2 rfl
    · rename_i hg
      refine ⟨?_, rfl⟩
      have : nmB n (tI []) = false := nm_len (by simp; omega)
      exact this
  · exact ⟨nm_bad (d := tI nm) (by simp) rfl, rfl⟩
  · exact ⟨rfl, rfl⟩
theorem E_law_no_names {c b : Int} (hn : 1 ≤ n ∧ n ≤ 8) (h : nm.Perm (rgI n)) : ∃ (y : PyData) (c' : Int), (nmB n y = false ∧ fewB y = true) ∧ V_law_no_names [.p (pen c b), .d (tI nm)] = .ok (.d y) [some (.p (pen c' b)), none] := by
  have hl : nm.length = n.toNat := by rw [h.length_eq, length_rgI]
  have hl2 : (nm.length : Int) = n := by omega
  obtain ⟨way, c1, h1, d1⟩ := draw (c := c) (b := b) 12 (by decide)
  obtain ⟨a, c2, h2, d2⟩ := draw (c := c1) (b := b) nm.length (by omega)
  obtain ⟨o, c3, h3, d3⟩ := draw (c := c2) (b := b) 7 (by decide)
  obtain ⟨x, hx, ex⟩ := atI_mem (l := oddN nm.length) (v := o) h3
  obtain ⟨y, hy, ey⟩ := atI_mem (l := noNms nm a.toNat x) (v := way) h1
  refine ⟨y, c3, noNms_all hn h (by rw [← hl2]; exact hx) y hy, vfn_eval rfl rfl ?_⟩
  have hL : LenLe nm 8 := ⟨by omega⟩
  have e1 : (a + 1).toNat = a.toNat + 1 := by omega
  have s1 : slV none (some a) (tI nm) = some (.w (.d (tI (nm.take a.toNat)))) := sl_to_tI nm h2.1
  have s2 : slV (some (a + 1)) none (tI nm) = some (.w (.d (tI (nm.drop (a.toNat + 1))))) := by rw [sl_from_tI nm (v := a + 1) (by omega), e1]
  have s3 : slV none (some 1) (tI nm) = some (.w (.d (tI (nm.take 1)))) := sl_to_tI nm (by decide)
  have s4 : slV (some 1) none (tI nm) = some (.w (.d (tI (nm.drop 1)))) := sl_from_tI nm (by decide)
  have a1 : addV (tI (nm.take a.toNat)) (.tuple [x]) = some (.w (.d (.tuple ((nm.take a.toNat).map .int ++ [x])))) := addV_T (by simp [sizeLine]; omega)
  have a2 : addV (.tuple ((nm.take a.toNat).map .int ++ [x])) (tI (nm.drop (a.toNat + 1))) = some (.w (.d (midN nm a.toNat x))) := addV_T (by simp [sizeLine]; omega)
  have a3 : addV (tI nm) (tI [(nm.length : Int)]) = some (.w (.d (tI (nm ++ [(nm.length : Int)])))) := addV_tI (b := [(nm.length : Int)]) (by rw [sizeLine]; simp; omega)
  have a4 : addV (tI nm) (tI (nm.take 1)) = some (.w (.d (tI (nm ++ nm.take 1)))) := addV_tI (by rw [sizeLine]; simp; omega)
  have a5 : addV (tI (nm.drop (nm.length - 1))) (tI (nm.drop 1)) = some (.w (.d (tI (nm.drop (nm.length - 1) ++ nm.drop 1)))) := addV_tI (by rw [sizeLine]; simp; omega)
  unfold oddN at ex
  unfold noNms twiceN at ey
  by_cases hg : (nm.length : Int) > 1
  · rw [if_pos hg] at ey
    simp! [d1, d2, d3, pow30, ex, s1, s2, s3, s4, slN_last, slN_but, a1, a2, a3, a4, a5, hg, add_lT, add_lr, ey, -List.map_take, -List.map_drop, -List.drop_one, -List.tail_drop]
  · rw [if_neg hg] at ey
    have s5 := slN_but nm
    obtain ⟨T0, hT0⟩ : ∃ t, t = tI (nm.take (nm.length - 1)) := ⟨_, rfl⟩
    rw [← hT0] at ey s5
    simp! [d1, d2, d3, pow30, ex, s1, s2, s3, slN_last, s5, a1, a2, a3, a4, hg, add_lT, add_lr, ey, -List.map_take, -List.map_drop]
end
section
variable {n k : Int} {fs : List (List Int)} {nm : List Int} {x : PyData}
def zf (p : Int) : PyData := if p = 0 then .bool false else .int p
end
end Lw
set_option Elab.async false
set_option linter.all false
set_option maxRecDepth 100000
set_option maxHeartbeats 1000000
namespace Lw
open PySem PySem.Spec PyProof.Rows L2 Lf Pu Lx
local macro_rules | `(tactic| simp! [$ls,*]) => `(tactic| simp (disch := first | assumption | omega | (intros; exact id rfl) | (simp; done) | assumption) [-List.any_eq_true, -List.all_eq_true, -List.filter_eq_nil_iff, -List.any_eq_false, -List.all_eq_false, -Rs.bind, -Rs.go, -VS.then, -vitR, -vendR, -visRL, -vseqC, -vdVar, -vdC, -vdF, -vaNil, -vaCons, -vdTup, -vdLst, -vdBin, -vdNeg, -vdChain, -vdIsN, -vdNotN, -vtst, -vdAnd, -vdOr, -vdNot, -vtAndD, -vtOrD, -vtNotD, -vtTrue, -vdIf, -vdIx, -vdCB, -vdIsi, -vdTupRg, -vdLstRg, -vpNo, -vpYes, -vdSl, -vdDict, -vdMt, -viSeq, -viRange, -viRange2, -viZip, -viEnum, -vsNext, -vsSeq, -vsIf, -vsRet, -vsRetN, -vsDrop, -vsBrk, -vsCont, -vsAsg, -vsAsgT, -vsSet, -vsPar, -vdCall, -vsRaise, -vsTryK, -vdMr, -vtgN, -vsBad, $ls,*])
local macro_rules | `(tactic| simp!) => `(tactic| simp! [vtTrue])
section
variable {n k : Int} {fs : List (List Int)} {nm row : List Int}
end
end Lw
set_option Elab.async false
set_option linter.all false
set_option maxRecDepth 100000
set_option maxHeartbeats 1000000
namespace Lw
open PySem PySem.Spec PyProof.Rows L2 Lf Pu Lx
local macro_rules | `(tactic| simp! [$ls,*]) => `(tactic| simp (disch := first | assumption | omega | (intros; exact id rfl) | (simp; done) | assumption) [-List.any_eq_true, -List.all_eq_true, -List.filter_eq_nil_iff, -List.any_eq_false, -List.all_eq_false, -Rs.bind, -Rs.go, -VS.then, -vitR, -vendR, -visRL, -vseqC, -vdVar, -vdC, -vdF, -vaNil, -vaCons, -vdTup, -vdLst, -vdBin, -vdNeg, -vdChain, -vdIsN, -vdNotN, -vtst, -vdAnd, -vdOr, -vdNot, -vtAndD, -vtOrD, -vtNotD, -vtTrue, -vdIf, -vdIx, -vdCB, -vdIsi, -vdTupRg, -vdLstRg, -vpNo, -vpYes, -vdSl, -vdDict, -vdMt, -viSeq, -viRange, -viRange2, -viZip, -viEnum, -vsNext, -vsSeq, -vsIf, -vsRet, -vsRetN, -vsDrop, -vsBrk, -vsCont, -vsAsg, -vsAsgT, -vsSet, -vsPar, -vdCall, -vsRaise, -vsTryK, -vdMr, -vtgN, -vsBad, $ls,*])
local macro_rules | `(tactic| simp!) => `(tactic| simp! [vtTrue])
section
variable {n k : Int} {fs : List (List Int)} {nm row : List Int}
structure Keyed (n k : Int) (key : List Int → List Int) (g : Int → Int) : Prop where
  up : ∀ f, Face n k f → Rising (key f) ∧ (key f).length = f.length
  mem : ∀ f, Face n k f → ∀ x, x ∈ key f ↔ ∃ p ∈ f, g p = x
  inj : ∀ p q, 0 ≤ p → p < n → 0 ≤ q → q < n → g p = g q → p = q
end
end Lw
set_option Elab.async false
set_option linter.all false
set_option maxRecDepth 100000
set_option maxHeartbeats 1000000
namespace Lw
open PySem PySem.Spec PyProof.Rows L2 Lf Pu Lx
local macro_rules | `(tactic| simp! [$ls,*]) => `(tactic| simp (disch := first | assumption | omega | (intros; exact id rfl) | (simp; done) | assumption) [-List.any_eq_true, -List.all_eq_true, -List.filter_eq_nil_iff, -List.any_eq_false, -List.all_eq_false, -Rs.bind, -Rs.go, -VS.then, -vitR, -vendR, -visRL, -vseqC, -vdVar, -vdC, -vdF, -vaNil, -vaCons, -vdTup, -vdLst, -vdBin, -vdNeg, -vdChain, -vdIsN, -vdNotN, -vtst, -vdAnd, -vdOr, -vdNot, -vtAndD, -vtOrD, -vtNotD, -vtTrue, -vdIf, -vdIx, -vdCB, -vdIsi, -vdTupRg, -vdLstRg, -vpNo, -vpYes, -vdSl, -vdDict, -vdMt, -viSeq, -viRange, -viRange2, -viZip, -viEnum, -vsNext, -vsSeq, -vsIf, -vsRet, -vsRetN, -vsDrop, -vsBrk, -vsCont, -vsAsg, -vsAsgT, -vsSet, -vsPar, -vdCall, -vsRaise, -vsTryK, -vdMr, -vtgN, -vsBad, $ls,*])
local macro_rules | `(tactic| simp!) => `(tactic| simp! [vtTrue])
def firstOf (one : List Int) : Int := if one = [] then 0 else lastI one + 1
def moreS (n : Int) (one : List Int) : List (List Int) := (rg2 (firstOf one) n).map fun p => one ++ [p]
def stepS (n : Int) (found : List (List Int)) : List (List Int) := found.flatMap (moreS n)
structure Fnd (n : Int) (c : Nat) (found : List (List Int)) : Prop where
  few : found.length ≤ 8 ^ c
  each : ∀ one ∈ found, one.length = c ∧ ∀ x ∈ one, 0 ≤ x ∧ x < n
theorem lastI_mem {l : List Int} (h : l ≠ []) : lastI l ∈ l := by
  unfold lastI
  rw [List.getLast?_eq_some_getLast h]
  exact List.getLast_mem h
theorem firstOf_abs {n : Int} {one : List Int} (h : ∀ x ∈ one, 0 ≤ x ∧ x < n) (hn : n ≤ 8) : 0 ≤ firstOf one ∧ firstOf one ≤ 8 := by
  unfold firstOf
  split
  · omega
  · rename_i h1; have := h _ (lastI_mem h1); omega
theorem mem_stepS {n : Int} {found : List (List Int)} {o : List Int} : o ∈ stepS n found ↔ ∃ one ∈ found, ∃ p, (firstOf one ≤ p ∧ p < n) ∧ o = one ++ [p] := by
  simp only [stepS, moreS, List.mem_flatMap, List.mem_map, mem_rg2]
  constructor
  · rintro ⟨one, h1, p, h2, rfl⟩; exact ⟨one, h1, p, h2, rfl⟩
  · rintro ⟨one, h1, p, h2, rfl⟩; exact ⟨one, h1, p, h2, rfl⟩
theorem Fnd.step {n : Int} {c : Nat} {found : List (List Int)} (hn : 1 ≤ n ∧ n ≤ 8) (F : Fnd n c found) : Fnd n (c + 1) (stepS n found) := by
  refine ⟨?_, fun o ho => ?_⟩
  · have h1 : (stepS n found).length ≤ 8 * found.length := flatMap_len (moreS n) 8 found fun one h => by
      have := firstOf_abs (F.each one h).2 hn.2
      simp only [moreS, List.length_map, length_rg2]
      omega
    have := F.few
    rw [Nat.pow_succ]
    omega
  · obtain ⟨one, h1, p, h2, rfl⟩ := mem_stepS.mp ho
    have h3 := F.each one h1
    have h4 := firstOf_abs h3.2 hn.2
    refine ⟨by simp [h3.1], fun x hx => ?_⟩
    rcases List.mem_append.mp hx with h | h
    · exact h3.2 x h
    · simp at h; omega
def tiesL (n : Int) : List (List Int) := (rgI (n - 1)).map fun a => [a, a + 1]
instance {n : Int} {m : Nat} [h : AbsLe n m] : LenLe (tiesL n) (m + 1) := ⟨by unfold tiesL; rw [List.length_map, length_rgI]; have := h.le; omega⟩
theorem lay_stk (n k : Int) (fs : List (List Int)) : (stkD n k fs).canLay0 = true := by
  have := encTI.layAll fs
  simp only [stkD, PyData.canLay0, PyData.canLayAll0, Bool.true_and, Bool.and_true, this]
theorem dep_stk (n k : Int) (fs : List (List Int)) : (stkD n k fs).depth ≤ 4 := by
  have := encTI.depAll fs
  simp only [stkD, PyData.depth, PyData.depthAll]
  omega
theorem same_stk (n k : Int) (fs : List (List Int)) : V_law_same_v2 8 [.d (stkD n k fs), .d (stkD n k fs)] = .ok (.d (.bool true)) [none, none] := same2_refl 8 _ (lay_stk n k fs) (by have := dep_stk n k fs; omega)
end Lw
set_option Elab.async false
set_option linter.all false
set_option maxRecDepth 100000
set_option maxHeartbeats 1000000
namespace Pu
open Lf
def everyL (fs : List (List Int)) (k : Int) : List (List Int) := (rgI (k + 1)).flatMap fun m => partsL fs m
end Pu
set_option Elab.async false
set_option linter.all false
set_option maxRecDepth 100000
set_option maxHeartbeats 1000000
namespace Lw
open PySem PySem.Spec PyProof.Rows L2 Lf Pu Lx
local macro_rules | `(tactic| simp! [$ls,*]) => `(tactic| simp (disch := first | assumption | omega | (intros; exact id rfl) | (simp; done) | assumption) [-List.any_eq_true, -List.all_eq_true, -List.filter_eq_nil_iff, -List.any_eq_false, -List.all_eq_false, -Rs.bind, -Rs.go, -VS.then, -vitR, -vendR, -visRL, -vseqC, -vdVar, -vdC, -vdF, -vaNil, -vaCons, -vdTup, -vdLst, -vdBin, -vdNeg, -vdChain, -vdIsN, -vdNotN, -vtst, -vdAnd, -vdOr, -vdNot, -vtAndD, -vtOrD, -vtNotD, -vtTrue, -vdIf, -vdIx, -vdCB, -vdIsi, -vdTupRg, -vdLstRg, -vpNo, -vpYes, -vdSl, -vdDict, -vdMt, -viSeq, -viRange, -viRange2, -viZip, -viEnum, -vsNext, -vsSeq, -vsIf, -vsRet, -vsRetN, -vsDrop, -vsBrk, -vsCont, -vsAsg, -vsAsgT, -vsSet, -vsPar, -vdCall, -vsRaise, -vsTryK, -vdMr, -vtgN, -vsBad, $ls,*])
local macro_rules | `(tactic| simp!) => `(tactic| simp! [vtTrue])
section
variable {n k : Int} {fs : List (List Int)} {nm : List Int}
def nmS (fs : List (List Int)) (nm : List Int) : List (List Int) := sortT (fs.map (nmF nm))
theorem E_named [S : Stk n k fs] (h : nm.Perm (rgI n)) : V_named [.d (stkD n k fs), .d (tI nm)] = .ok (.d (stkD n k (nmS fs nm))) [none, none] := by
  have hn1 := S.n1
  have hn8 := S.n8
  have hk4 := S.k4
  have hfew := S.few
  have hnl : nm.length = n.toNat := by rw [h.length_eq, length_rgI]
  have er : ∀ f ∈ fs, V_renamed [.d (tI f), .d (tI nm)] = .ok (.d (tI (nmF nm f))) [none, none] := fun f hf => by
    have F := S.face f hf
    have hl := F.len
    exact E_renamed (nm := nm) (n := n) hnl (by omega) (f := f) (by omega) F.inn
  have l1 : lcA (.ok (fs.map tI, none) [some (.d (stkD n k fs)), some (.d (tI nm)), none]) [2] (vtgN 2) vtTrue (vdCall V_renamed (vaCons (vdVar 2) (vaCons (vdVar 1) vaNil))) = .ok (.o (lT (fs.map (nmF nm)))) [some (.d (stkD n k fs)), some (.d (tI nm)), none] := by
    have e0 : vdLc (viSeq (vdIx (vdVar 0) (vdC (.int 2)))) [2] (vtgN 2) vtTrue (vdCall V_renamed (vaCons (vdVar 2) (vaCons (vdVar 1) vaNil))) [some (.d (stkD n k fs)), some (.d (tI nm)), none] = .ok (.o (lT (fs.map (nmF nm)))) [some (.d (stkD n k fs)), some (.d (tI nm)), none] := by
      rw [vlc_map tI fs (nmF nm) tI (o := none) (e1 := [some (.d (stkD n k fs)), some (.d (tI nm)), none]) ?hi (by rw [sizeLine]; omega) ?hc ?h]
      case hi => simp!
      case hc => rfl
      case h =>
        intro f hf
        exact ⟨_, rfl, rfl, by simp! [er f hf]⟩
      rfl
    have e1 : viSeq (vdIx (vdVar 0) (vdC (.int 2))) [some (.d (stkD n k fs)), some (.d (tI nm)), none] = .ok (fs.map tI, none) [some (.d (stkD n k fs)), some (.d (tI nm)), none] := by simp!
    rw [← e1]
    exact e0
  have hL : LenLe (fs.map (nmF nm)) 70 := ⟨by rw [List.length_map]; exact hfew⟩
  refine vfn_eval rfl rfl ?_
  simp! [E_must_stack S, E_must_names (n := n) (nm := nm) (by omega) h, l1, nmS]
end
section
variable {n k : Int} {fs : List (List Int)} {nm : List Int}
end
end Lw
set_option Elab.async false
set_option linter.all false
set_option maxRecDepth 100000
set_option maxHeartbeats 1000000
namespace Lx
open PySem PySem.Spec PyProof.Rows L2 Lf Pu
@[scoped simp] theorem x_vsFgt (j : Nat) (e : VE) : vsFgt j e = if j < e.length then .next (e.set j none) else .bad := id rfl
@[scoped simp ↓] theorem x_vsForF (ks : List Nat) (as : List Addr) (j : Nat) (body : VDS) (e : VE) : vsForF ks as j body e = forFV ks j body as (mask ks e) := id rfl
@[scoped simp] theorem x_forFV_nil (ks : List Nat) (j : Nat) (body : VDS) (e : VE) : forFV ks j body [] e = .next e := id rfl
@[scoped simp] theorem x_vdCallF (T : List (Addr × VF)) (j : Nat) (fa : VDA) (e : VE) : vdCallF T j fa e = callFS T fa e[j]? e := id rfl
@[scoped simp] theorem x_callFS (T : List (Addr × VF)) (fa : VDA) (a : Addr) (e : VE) : callFS T fa (some (some (.f a))) e = callFT T fa a e := id rfl
end Lx
set_option Elab.async false
set_option linter.all false
set_option maxRecDepth 100000
set_option maxHeartbeats 1000000
namespace Lf
open PySem PySem.Spec PyProof.Rows L2 Pu
def keysA {K B : Type} (kvs : List (K × B)) : List K := kvs.map Prod.fst
instance {K B : Type} {kvs : List (K × B)} {m : Nat} [h : LenLe kvs m] : LenLe (keysA kvs) m := ⟨by unfold keysA; rw [List.length_map]; exact h.le⟩
def lkTI (kvs : List (List Int × Int)) : PyData := lk (kvs.map fun p => (tI p.1, .int p.2))
def lkII (kvs : List (Int × Int)) : PyData := lk (kvs.map fun p => (.int p.1, .int p.2))
theorem put_dII' {kvs : List (Int × Int)} {k : Int} {v : Int} {m : Nat} [h : LenLe kvs m] (hm : m ≤ 1000000) : putV (.int k) (.int v) (dII kvs) = some (dII (putA k v kvs)) := keyI.put (ev := PyData.int) k v kvs (by have := h.le; rw [sizeLine]; omega)
theorem ix_enc {K B : Type} [DecidableEq K] {ek : K → PyData} {ev : B → PyData} (E : EncK ek) {k : K} {v : B} {kvs : List (K × B)} (h : getA k kvs = some v) : ixD (Lf.encD ek ev kvs) (ek k) = some (ev v) := by
  unfold ixD Lf.encD
  simp only [E.ok ev k kvs, if_true, E.getD, h, Option.map_some]
theorem getA_mem {K B : Type} [DecidableEq K] {k : K} {kvs : List (K × B)} (h : k ∈ kvs.map Prod.fst) : ∃ v, getA k kvs = some v := by
  have := getA_isSome (k := k) (kvs := kvs)
  rw [decide_eq_true h] at this
  exact Option.isSome_iff_exists.mp this
end Lf
namespace Lx
open PySem PySem.Spec PyProof.Rows L2 Lf Pu
@[scoped simp] theorem x_addIV (a b : Int) : addIV (.int a) (.int b) = some (vI (a + b)) := id rfl
@[scoped simp ↓] theorem x_viItems (f : VD) (e : VE) : viItems f e = (f e).bind vitI := id rfl
@[scoped simp ↓] theorem x_viVals (f : VD) (e : VE) : viVals f e = (f e).bind vitV := id rfl
@[scoped simp ↓] theorem x_viDict (f : VD) (e : VE) : viDict f e = (f e).bind vitD := id rfl
theorem itemsOk_TI {kvs : List (List Int × Int)} (h : kvs ≠ []) : itemsOk (kvs.map fun p => (tI p.1, PyData.int p.2)) = true := by
  unfold itemsOk
  have h1 : flatPairs (kvs.map fun p => (tI p.1, PyData.int p.2)) = true := by
    unfold flatPairs
    rw [List.all_map, List.all_eq_true]
    intro p _
    rfl
  have h2 : (kvs.map fun p => (tI p.1, PyData.int p.2)).isEmpty = false := by
    cases kvs with
    | nil => exact absurd rfl h
    | cons _ _ => rfl
  simp only [h1, tupKeys_enc, h2, Bool.not_false, Bool.and_self]
@[scoped simp] theorem x_vitI {kvs : List (List Int × Int)} (h : kvs ≠ []) (e : VE) : vitI (.o (dTI kvs)) e = .ok (kvs.map (fun p => pairD (tI p.1) (.int p.2)), none) e := by
  show (if itemsOk (kvs.map fun p => (tI p.1, PyData.int p.2)) = true then Rs.ok (itemsD (kvs.map fun p => (tI p.1, PyData.int p.2)), none) e else .bad) = _
  rw [if_pos (itemsOk_TI h)]
  unfold itemsD
  rw [List.map_map]
  rfl
@[scoped simp] theorem x_vitV {kvs : List (List Int × Int)} (h : kvs ≠ []) (e : VE) : vitV (.o (dTI kvs)) e = .ok ((kvs.map Prod.snd).map .int, none) e := by
  have := itemsOk_TI h
  show (if Lf.valsOk (kvs.map fun p => (tI p.1, PyData.int p.2)) = true then Rs.ok (valsD (kvs.map fun p => (tI p.1, PyData.int p.2)), none) e else .bad) = _
  have h2 : Lf.valsOk (kvs.map fun p => (tI p.1, PyData.int p.2)) = true := by
    unfold itemsOk at this
    unfold Lf.valsOk
    simp only [Bool.and_eq_true] at this ⊢
    exact this.2
  rw [if_pos h2]
  unfold valsD
  rw [List.map_map, List.map_map]
  rfl
theorem keys_TI (kvs : List (List Int × Int)) : keysD (kvs.map fun p => (tI p.1, PyData.int p.2)) = (keysA kvs).map tI := by
  unfold keysD keysA
  rw [List.map_map, List.map_map]
  rfl
theorem keys_II (kvs : List (Int × Int)) : keysD (kvs.map fun p => (PyData.int p.1, PyData.int p.2)) = (keysA kvs).map .int := by
  unfold keysD keysA
  rw [List.map_map, List.map_map]
  rfl
@[scoped simp] theorem x_vitD_o (kvs : List (List Int × Int)) (e : VE) : vitD (.o (dTI kvs)) e = .ok ((keysA kvs).map tI, none) e := by
  show Rs.ok (keysD (kvs.map fun p => (tI p.1, PyData.int p.2)), none) e = _
  rw [keys_TI]
@[scoped simp] theorem x_vitD_oI (kvs : List (Int × Int)) (e : VE) : vitD (.o (dII kvs)) e = .ok ((keysA kvs).map .int, none) e := by
  show Rs.ok (keysD (kvs.map fun p => (PyData.int p.1, PyData.int p.2)), none) e = _
  rw [keys_II]
@[scoped simp] theorem x_vitD_r (j : Nat) (e : VE) : vitD (.ref j) e = vitDM j e (slotM e j) := id rfl
@[scoped simp] theorem x_vitDM (j : Nat) (e : VE) (kvs : List (List Int × Int)) : vitDM j e (some (dTI kvs)) = .ok ((keysA kvs).map tI, none) (e.wr j (lkTI kvs)) := by
  show Rs.ok (keysD (kvs.map fun p => (tI p.1, PyData.int p.2)), none) (e.wr j (lkTI kvs)) = _
  rw [keys_TI]
@[scoped simp] theorem x_vitDM_l (j : Nat) (e : VE) (kvs : List (List Int × Int)) : vitDM j e (some (lkTI kvs)) = .ok ((keysA kvs).map tI, none) e := by
  show Rs.ok (keysD (kvs.map fun p => (tI p.1, PyData.int p.2)), none) e = _
  rw [keys_TI]
@[scoped simp ↓] theorem x_vdIxU (f g : VD) (e : VE) : vdIxU f g e = (f e).bind (k_vdIxU2 g) := id rfl
@[scoped simp ↓] theorem x_k_vdIxU2 (g : VD) (x : VR) (e : VE) : k_vdIxU2 g x e = (g e).bind (k_vdIxU1 x) := id rfl
@[scoped simp] theorem x_k_vdIxU1 (j : Nat) (y : VR) (e : VE) : k_vdIxU1 (.ref j) y e = ixDK ((slotM e j).map unlk) (y.rd e) e := id rfl
@[scoped simp] theorem x_unlk (kvs : List (List Int × Int)) : unlk (lkTI kvs) = dTI kvs := id rfl
@[scoped simp] theorem x_unlkI (kvs : List (Int × Int)) : unlk (lkII kvs) = dII kvs := id rfl
@[scoped simp] theorem x_unlk_d (kvs : List (List Int × Int)) : unlk (dTI kvs) = dTI kvs := id rfl
@[scoped simp] theorem x_unlk_dI (kvs : List (Int × Int)) : unlk (dII kvs) = dII kvs := id rfl
@[scoped simp] theorem x_ixmI {kvs : List (Int × Int)} {s : Int} [h : Mm s (keysA kvs)] (e : VE) : ixDK (some (dII kvs)) (some (.int s)) e = .ok (.d (.int ((getA s kvs).getD 0))) e := by
  obtain ⟨v, hv⟩ := getA_mem h.h
  rw [hv]
  exact x_ixDK (ix_enc (ev := PyData.int) keyI hv)
@[scoped simp] theorem x_put_dII {kvs : List (Int × Int)} {k : Int} {v : Int} {m : Nat} [h : LenLe kvs m] (hm : m ≤ 1000000) : putV (.int k) (.int v) (dII kvs) = some (dII (putA k v kvs)) := put_dII' hm
end Lx
set_option Elab.async false
set_option linter.all false
set_option maxRecDepth 100000
set_option maxHeartbeats 1000000
namespace Lw
open PySem PySem.Spec PyProof.Rows L2 Lf Pu Lx
local macro_rules | `(tactic| simp! [$ls,*]) => `(tactic| simp (disch := first | assumption | omega | (intros; exact id rfl) | (simp; done) | assumption) [-List.any_eq_true, -List.all_eq_true, -List.filter_eq_nil_iff, -List.any_eq_false, -List.all_eq_false, -Rs.bind, -Rs.go, -VS.then, -vitR, -vendR, -visRL, -vseqC, -vdVar, -vdC, -vdF, -vaNil, -vaCons, -vdTup, -vdLst, -vdBin, -vdNeg, -vdChain, -vdIsN, -vdNotN, -vtst, -vdAnd, -vdOr, -vdNot, -vtAndD, -vtOrD, -vtNotD, -vtTrue, -vdIf, -vdIx, -vdCB, -vdIsi, -vdTupRg, -vdLstRg, -vpNo, -vpYes, -vdSl, -vdDict, -vdMt, -viSeq, -viRange, -viRange2, -viZip, -viEnum, -vsNext, -vsSeq, -vsIf, -vsRet, -vsRetN, -vsDrop, -vsBrk, -vsCont, -vsAsg, -vsAsgT, -vsSet, -vsPar, -vdCall, -vsRaise, -vsTryK, -vdMr, -vtgN, -vsBad, $ls,*])
local macro_rules | `(tactic| simp!) => `(tactic| simp! [vtTrue])
def cnt (kvs : List (List Int × Int)) (k : List Int) : List (List Int × Int) := putA k ((getA k kvs).getD 0 + 1) kvs
def sidesF (f : List Int) : List (List Int) := f.map (Pu.rest f)
def tallyL (fs : List (List Int)) : List (List Int × Int) := fs.foldl (fun kvs f => (sidesF f).foldl cnt kvs) []
theorem cnt_len (kvs : List (List Int × Int)) (k : List Int) : (cnt kvs k).length ≤ kvs.length + 1 := putA_len _ _ _
theorem cnts_len : ∀ (l : List (List Int)) (kvs : List (List Int × Int)), (l.foldl cnt kvs).length ≤ kvs.length + l.length
  | [], kvs => Nat.le_refl _
  | x :: l, kvs => by
    have h1 := cnts_len l (cnt kvs x)
    have h2 := cnt_len kvs x
    rw [List.foldl_cons, List.length_cons]
    omega
theorem cnts_mem {x : List Int} : ∀ (l : List (List Int)) (kvs : List (List Int × Int)), x ∈ (l.foldl cnt kvs).map Prod.fst ↔ x ∈ kvs.map Prod.fst ∨ x ∈ l
  | [], kvs => by simp
  | y :: l, kvs => by
    rw [List.foldl_cons, cnts_mem l]
    unfold cnt
    rw [mem_putA, List.mem_cons, or_assoc]
section
variable {n k : Int} {fs : List (List Int)} {f : List Int} {kvs : List (List Int × Int)}
theorem sides_len (f : List Int) : (sidesF f).length = f.length := by simp [sidesF]
theorem tally_from (fs : List (List Int)) : ∀ kvs, fs.foldl (fun kvs f => (sidesF f).foldl cnt kvs) kvs = (fs.flatMap sidesF).foldl cnt kvs := by
  induction fs with
  | nil => intro kvs; rfl
  | cons f fs ih => intro kvs; rw [List.foldl_cons, ih, List.flatMap_cons, List.foldl_append]
theorem tally_eq (fs : List (List Int)) : tallyL fs = (fs.flatMap sidesF).foldl cnt [] := tally_from fs []
theorem tally_mem {x : List Int} : x ∈ (tallyL fs).map Prod.fst ↔ ∃ f ∈ fs, x ∈ sidesF f := by
  rw [tally_eq, cnts_mem]
  simp [List.mem_flatMap]
theorem tally_len [S : Stk n k fs] : (tallyL fs).length ≤ 280 := by
  have hfew := S.few
  have h1 := cnts_len (fs.flatMap sidesF) []
  have h2 : (fs.flatMap sidesF).length ≤ 4 * fs.length := by
    have : ∀ l : List (List Int), (∀ f ∈ l, f.length ≤ 4) → (l.flatMap sidesF).length ≤ 4 * l.length := fun l => by
      induction l with
      | nil => simp
      | cons f l ih =>
        intro h
        have h1 := h f (by simp)
        have h2 := ih fun g hg => h g (by simp [hg])
        rw [List.flatMap_cons, List.length_append, sides_len, List.length_cons]
        omega
    exact this fs fun f hf => by have := (S.face f hf).len; have := S.k4; omega
  rw [tally_eq]
  rw [List.length_nil] at h1
  omega
theorem tally_rows [S : Stk n k fs] : ∀ s ∈ (tallyL fs).map Prod.fst, s.length ≤ 4 := fun s hs => by
  obtain ⟨f, hf, h⟩ := tally_mem.mp hs
  have := (S.face f hf).len
  have := S.k4
  obtain ⟨p, _, rfl⟩ := List.mem_map.mp h
  have := List.length_filter_le (fun x => !decide (x = p)) f
  unfold Pu.rest
  omega
def sidesBy (fs : List (List Int)) (q : Int → Bool) : List (List Int) := ((tallyL fs).filter fun p => q p.2).map Prod.fst
def rimL (fs : List (List Int)) : List (List Int) := sortT (sidesBy fs fun m => decide (m = 1))
def thickL (fs : List (List Int)) : List (List Int) := sortT (sidesBy fs fun m => decide (2 < m))
set_option synthInstance.checkSynthOrder false in
instance [S : Stk n k fs] : LenLe (tallyL fs) 280 := ⟨tally_len (S := S)⟩
set_option synthInstance.checkSynthOrder false in
instance [S : Stk n k fs] : AllLe (keysA (tallyL fs)) 4 := ⟨tally_rows (S := S)⟩
set_option synthInstance.checkSynthOrder false in
instance {q : Int → Bool} [S : Stk n k fs] : LenLe (sidesBy fs q) 280 := ⟨by
  have := tally_len (S := S)
  have h2 := List.length_filter_le (fun p : List Int × Int => q p.2) (tallyL fs)
  unfold sidesBy
  rw [List.length_map]
  omega⟩
set_option synthInstance.checkSynthOrder false in
instance [S : Stk n k fs] : LenLe (rimL fs) 280 := by unfold rimL; infer_instance
set_option synthInstance.checkSynthOrder false in
instance [S : Stk n k fs] : LenLe (thickL fs) 280 := by unfold thickL; infer_instance
end
end Lw
set_option Elab.async false
set_option linter.all false
set_option maxRecDepth 100000
set_option maxHeartbeats 1000000
namespace Lw
open PySem PySem.Spec PyProof.Rows L2 Lf Pu Lx
local macro_rules | `(tactic| simp! [$ls,*]) => `(tactic| simp (disch := first | assumption | omega | (intros; exact id rfl) | (simp; done) | assumption) [-List.any_eq_true, -List.all_eq_true, -List.filter_eq_nil_iff, -List.any_eq_false, -List.all_eq_false, -Rs.bind, -Rs.go, -VS.then, -vitR, -vendR, -visRL, -vseqC, -vdVar, -vdC, -vdF, -vaNil, -vaCons, -vdTup, -vdLst, -vdBin, -vdNeg, -vdChain, -vdIsN, -vdNotN, -vtst, -vdAnd, -vdOr, -vdNot, -vtAndD, -vtOrD, -vtNotD, -vtTrue, -vdIf, -vdIx, -vdCB, -vdIsi, -vdTupRg, -vdLstRg, -vpNo, -vpYes, -vdSl, -vdDict, -vdMt, -viSeq, -viRange, -viRange2, -viZip, -viEnum, -vsNext, -vsSeq, -vsIf, -vsRet, -vsRetN, -vsDrop, -vsBrk, -vsCont, -vsAsg, -vsAsgT, -vsSet, -vsPar, -vdCall, -vsRaise, -vsTryK, -vdMr, -vtgN, -vsBad, $ls,*])
local macro_rules | `(tactic| simp!) => `(tactic| simp! [vtTrue])
end Lw
set_option Elab.async false
set_option linter.all false
set_option maxRecDepth 100000
set_option maxHeartbeats 1000000
namespace Lw
open PySem PySem.Spec PyProof.Rows L2 Lf Pu Lx
local macro_rules | `(tactic| simp! [$ls,*]) => `(tactic| simp (disch := first | assumption | omega | (intros; exact id rfl) | (simp; done) | assumption) [-List.any_eq_true, -List.all_eq_true, -List.filter_eq_nil_iff, -List.any_eq_false, -List.all_eq_false, -Rs.bind, -Rs.go, -VS.then, -vitR, -vendR, -visRL, -vseqC, -vdVar, -vdC, -vdF, -vaNil, -vaCons, -vdTup, -vdLst, -vdBin, -vdNeg, -vdChain, -vdIsN, -vdNotN, -vtst, -vdAnd, -vdOr, -vdNot, -vtAndD, -vtOrD, -vtNotD, -vtTrue, -vdIf, -vdIx, -vdCB, -vdIsi, -vdTupRg, -vdLstRg, -vpNo, -vpYes, -vdSl, -vdDict, -vdMt, -viSeq, -viRange, -viRange2, -viZip, -viEnum, -vsNext, -vsSeq, -vsIf, -vsRet, -vsRetN, -vsDrop, -vsBrk, -vsCont, -vsAsg, -vsAsgT, -vsSet, -vsPar, -vdCall, -vsRaise, -vsTryK, -vdMr, -vtgN, -vsBad, $ls,*])
local macro_rules | `(tactic| simp!) => `(tactic| simp! [vtTrue])
section
variable {n k : Int} {fs : List (List Int)} {x : PyData}
end
section
variable {n k : Int} {fs : List (List Int)} {row : List Int} {x : PyData}
def fewP : PyData → Bool
  | .tuple ds => decide (ds.length < 64)
  | _ => true
end
section
variable {n k : Int} {fs : List (List Int)} {row : List Int} {x : PyData}
end
end Lw
set_option Elab.async false
set_option linter.all false
set_option maxRecDepth 100000
set_option maxHeartbeats 1000000
namespace Lw
open PySem PySem.Spec PyProof.Rows L2 Lf Pu Lx
local macro_rules | `(tactic| simp! [$ls,*]) => `(tactic| simp (disch := first | assumption | omega | (intros; exact id rfl) | (simp; done) | assumption) [-List.any_eq_true, -List.all_eq_true, -List.filter_eq_nil_iff, -List.any_eq_false, -List.all_eq_false, -Rs.bind, -Rs.go, -VS.then, -vitR, -vendR, -visRL, -vseqC, -vdVar, -vdC, -vdF, -vaNil, -vaCons, -vdTup, -vdLst, -vdBin, -vdNeg, -vdChain, -vdIsN, -vdNotN, -vtst, -vdAnd, -vdOr, -vdNot, -vtAndD, -vtOrD, -vtNotD, -vtTrue, -vdIf, -vdIx, -vdCB, -vdIsi, -vdTupRg, -vdLstRg, -vpNo, -vpYes, -vdSl, -vdDict, -vdMt, -viSeq, -viRange, -viRange2, -viZip, -viEnum, -vsNext, -vsSeq, -vsIf, -vsRet, -vsRetN, -vsDrop, -vsBrk, -vsCont, -vsAsg, -vsAsgT, -vsSet, -vsPar, -vdCall, -vsRaise, -vsTryK, -vdMr, -vtgN, -vsBad, $ls,*])
local macro_rules | `(tactic| simp!) => `(tactic| simp! [vtTrue])
section
variable {n k : Int} {fs : List (List Int)} {lot row : List Int} {x y : PyData}
end
end Lw
set_option Elab.async false
set_option linter.all false
set_option maxRecDepth 100000
set_option maxHeartbeats 1000000
namespace Lw
open PySem PySem.Spec PyProof.Rows L2 Lf Pu Lx
local macro_rules | `(tactic| simp! [$ls,*]) => `(tactic| simp (disch := first | assumption | omega | (intros; exact id rfl) | (simp; done) | assumption) [-List.any_eq_true, -List.all_eq_true, -List.filter_eq_nil_iff, -List.any_eq_false, -List.all_eq_false, -Rs.bind, -Rs.go, -VS.then, -vitR, -vendR, -visRL, -vseqC, -vdVar, -vdC, -vdF, -vaNil, -vaCons, -vdTup, -vdLst, -vdBin, -vdNeg, -vdChain, -vdIsN, -vdNotN, -vtst, -vdAnd, -vdOr, -vdNot, -vtAndD, -vtOrD, -vtNotD, -vtTrue, -vdIf, -vdIx, -vdCB, -vdIsi, -vdTupRg, -vdLstRg, -vpNo, -vpYes, -vdSl, -vdDict, -vdMt, -viSeq, -viRange, -viRange2, -viZip, -viEnum, -vsNext, -vsSeq, -vsIf, -vsRet, -vsRetN, -vsDrop, -vsBrk, -vsCont, -vsAsg, -vsAsgT, -vsSet, -vsPar, -vdCall, -vsRaise, -vsTryK, -vdMr, -vtgN, -vsBad, $ls,*])
local macro_rules | `(tactic| simp!) => `(tactic| simp! [vtTrue])
section
variable {n k : Int} {fs : List (List Int)} {p : List Int} {x : PyData}
structure ThingQ (y : PyData) : Prop where
  th : Thing y
  few : fewP y = true
theorem ThingQ.tI {l : List Int} (h : ∀ a ∈ l, a.natAbs < 4096) (hl : l.length ≤ 60) : ThingQ (tI l) := ⟨.tI h (by omega), by simp [fewP, Lf.tI]; omega⟩
theorem ThingQ.tup {l : List PyData} (h : ∀ d ∈ l, SmD 3 2 d) (hl : l.length ≤ 60) : ThingQ (.tuple l) := ⟨.odd h (by omega), by simp [fewP]; omega⟩
end
end Lw
set_option Elab.async false
set_option linter.all false
set_option maxRecDepth 100000
set_option maxHeartbeats 1000000
namespace Lw
open PySem PySem.Spec PyProof.Rows L2 Lf Pu Lx
local macro_rules | `(tactic| simp! [$ls,*]) => `(tactic| simp (disch := first | assumption | omega | (intros; exact id rfl) | (simp; done) | assumption) [-List.any_eq_true, -List.all_eq_true, -List.filter_eq_nil_iff, -List.any_eq_false, -List.all_eq_false, -Rs.bind, -Rs.go, -VS.then, -vitR, -vendR, -visRL, -vseqC, -vdVar, -vdC, -vdF, -vaNil, -vaCons, -vdTup, -vdLst, -vdBin, -vdNeg, -vdChain, -vdIsN, -vdNotN, -vtst, -vdAnd, -vdOr, -vdNot, -vtAndD, -vtOrD, -vtNotD, -vtTrue, -vdIf, -vdIx, -vdCB, -vdIsi, -vdTupRg, -vdLstRg, -vpNo, -vpYes, -vdSl, -vdDict, -vdMt, -viSeq, -viRange, -viRange2, -viZip, -viEnum, -vsNext, -vsSeq, -vsIf, -vsRet, -vsRetN, -vsDrop, -vsBrk, -vsCont, -vsAsg, -vsAsgT, -vsSet, -vsPar, -vdCall, -vsRaise, -vsTryK, -vdMr, -vtgN, -vsBad, $ls,*])
local macro_rules | `(tactic| simp!) => `(tactic| simp! [vtTrue])
section
variable {n k : Int} {fs : List (List Int)} {bad : PyData}
end
end Lw
set_option Elab.async false
set_option linter.all false
set_option maxRecDepth 100000
set_option maxHeartbeats 1000000
namespace Lw
open PySem PySem.Spec PyProof.Rows L2 Lf Pu Lx
local macro_rules | `(tactic| simp! [$ls,*]) => `(tactic| simp (disch := first | assumption | omega | (intros; exact id rfl) | (simp; done) | assumption) [-List.any_eq_true, -List.all_eq_true, -List.filter_eq_nil_iff, -List.any_eq_false, -List.all_eq_false, -Rs.bind, -Rs.go, -VS.then, -vitR, -vendR, -visRL, -vseqC, -vdVar, -vdC, -vdF, -vaNil, -vaCons, -vdTup, -vdLst, -vdBin, -vdNeg, -vdChain, -vdIsN, -vdNotN, -vtst, -vdAnd, -vdOr, -vdNot, -vtAndD, -vtOrD, -vtNotD, -vtTrue, -vdIf, -vdIx, -vdCB, -vdIsi, -vdTupRg, -vdLstRg, -vpNo, -vpYes, -vdSl, -vdDict, -vdMt, -viSeq, -viRange, -viRange2, -viZip, -viEnum, -vsNext, -vsSeq, -vsIf, -vsRet, -vsRetN, -vsDrop, -vsBrk, -vsCont, -vsAsg, -vsAsgT, -vsSet, -vsPar, -vdCall, -vsRaise, -vsTryK, -vdMr, -vtgN, -vsBad, $ls,*])
local macro_rules | `(tactic| simp!) => `(tactic| simp! [vtTrue])
theorem find_int (l : List Int) (a : Int) (h : a ∈ l) : (l.map PyData.int).findIdx? (fun z => PyData.eqv z (.int a)) = some (l.idxOf a) := by
  induction l with
  | nil => cases h
  | cons x l ih =>
    rw [List.map_cons, List.findIdx?_cons, encI.eqv x a]
    by_cases hx : x = a
    · subst hx; simp
    · have hm : a ∈ l := by simpa [Ne.symm hx] using h
      rw [ih hm]
      have hb : (x == a) = false := by simpa using hx
      simp [hx, List.idxOf_cons, hb]
theorem idxTV_tI {l : List Int} {a : Int} (h : a ∈ l) : idxTV (tI l) (.int a) = some (.w (.d (.int ((l.idxOf a : Nat) : Int)))) := by
  have h1 := encTI.sh (by decide) l
  have h2 := encI.sh (by decide) a
  show (if SeqAt.shaped (tI l) = true ∧ SeqAt.shaped (.int a) = true then (match (l.map PyData.int).findIdx? (fun z => PyData.eqv z (.int a)) with
    | some j => some (Rv.w (.d (.int (j : Nat))))
    | none => none) else none) = _
  rw [if_pos ⟨h1, h2⟩, find_int l a h]
theorem ms_tI {l : List Int} (hl : l ≠ []) {a : Int} (h : a ∈ l) {f : VD} {fa : VDA} {e : VE} (h1 : f e = .ok (.d (tI l)) e) (h2 : fa e = .ok [.d (.int a)] e) : vdMs idxTV f fa e = .ok (.d (.int ((l.idxOf a : Nat) : Int))) e := by
  have hv : visRT (.d (tI l)) e = true := needF_ints hl
  unfold vdMs
  rw [h1]
  show k_vdMs2 idxTV fa (.d (tI l)) e = _
  unfold k_vdMs2
  rw [if_pos hv, h2]
  show k_vdMs1 idxTV (.d (tI l)) [.d (.int a)] e = _
  show vofR (idxTV (tI l) (.int a)) e = _
  rw [idxTV_tI h]
  rfl
def invL (nm : List Int) (n : Int) : List Int := (rgI n).map fun a => ((nm.idxOf a : Nat) : Int)
section
variable {n k : Int} {fs : List (List Int)} {nm : List Int} {x : PyData}
theorem nm_ne (hn : 1 ≤ n) (h : nm.Perm (rgI n)) : nm ≠ [] := fun e => by
  have := h.length_eq
  rw [e, length_rgI] at this
  simp at this
  omega
theorem mem_nm (h : nm.Perm (rgI n)) {a : Int} (ha : 0 ≤ a ∧ a < n) : a ∈ nm := h.mem_iff.mpr (mem_rgI.mpr ha)
theorem inv_lc1 (hn : 1 ≤ n ∧ n ≤ 8) (h : nm.Perm (rgI n)) (e0 : Option VV) : lcA (.ok ((rgI n).map PyData.int, none) [e0, some (.d (tI nm)), none]) [2] (vtgN 2) vtTrue (vdMs idxTV (vdVar 1) (vaCons (vdVar 2) vaNil)) = .ok (.o (lI (invL nm n))) [e0, some (.d (tI nm)), none] := by
  show vdLc (fun _ => .ok ((rgI n).map PyData.int, none) [e0, some (.d (tI nm)), none]) [2] (vtgN 2) vtTrue (vdMs idxTV (vdVar 1) (vaCons (vdVar 2) vaNil)) [] = _
  rw [vlc_map PyData.int (rgI n) (fun a => ((nm.idxOf a : Nat) : Int)) PyData.int (o := none) (e1 := [e0, some (.d (tI nm)), none]) ?hi (by rw [length_rgI, sizeLine]; omega) ?hc ?h]
  case hi => rfl
  case hc => rfl
  case h => exact fun a ha => ⟨_, rfl, rfl, ms_tI (nm_ne hn.1 h) (mem_nm h (mem_rgI.mp ha)) rfl rfl⟩
  rfl
theorem inv_len (hn : 1 ≤ n ∧ n ≤ 8) : (invL nm n).length ≤ 8 := by unfold invL; rw [List.length_map, length_rgI]; omega
theorem E_named_back [S : Stk n k fs] (h : nm.Perm (rgI n)) : V_named_back [.d (stkD n k fs), .d (tI nm)] = .ok (.d (tI (invL nm n))) [none, none] := by
  have hn1 := S.n1
  have hn8 := S.n8
  have m1 := E_must_names (n := n) (by omega) h
  have f1 := inv_lc1 ⟨hn1, hn8⟩ h (some (.d (stkD n k fs)))
  have hL : LenLe (invL nm n) 8 := ⟨inv_len ⟨hn1, hn8⟩⟩
  have e6 : -1000000 ≤ n ∧ n ≤ 1000000 := by omega
  refine vfn_eval rfl rfl ?_
  simp! [E_must_stack S, m1, f1, e6]
def due80 (w n k : Int) (fs : List (List Int)) (nm : List Int) : PyData := if w = 0 then stkD n k (nmS fs nm) else tI (invL nm n)
theorem came80 [S : Stk n k fs] (h : nm.Perm (rgI n)) {w : Int} (hw : w = 0 ∨ w = 1) : V_law_came_v21 [.d (.int w), .d (stkD n k fs), .d (tI nm)] = .ok (.d (due80 w n k fs nm)) [none, none, none] := by
  have f1 := E_named (S := S) h
  have f2 := E_named_back (S := S) h
  refine vfn_eval rfl rfl ?_
  rcases hw with rfl | rfl
  · simp! [f1, due80]
  · simp! [f2, due80]
theorem came80_n [S : Stk n k fs] (hs : fewB x = true) (h : nmB n x = false) {w : Int} (hw : w = 0 ∨ w = 1) : V_law_came_v21 [.d (.int w), .d (stkD n k fs), .d x] = .ok (.d (.str "names")) [none, none, none] := by
  have hn1 := S.n1
  have hn8 := S.n8
  have m1 := E_must_namesX (n := n) (by omega) hs h
  have f1 : V_named [.d (stkD n k fs), .d x] = .ex ⟨"NoNames", []⟩ [none, none] := vfn_eval rfl rfl (by simp! [E_must_stack S, m1])
  have f2 : V_named_back [.d (stkD n k fs), .d x] = .ex ⟨"NoNames", []⟩ [none, none] := vfn_eval rfl rfl (by simp! [E_must_stack S, m1])
  refine vfn_eval rfl rfl ?_
  rcases hw with rfl | rfl
  · simp! [f1]
  · simp! [f2]
theorem came80_s {bad : PyData} (hs : fewS bad = true) (h : stackB bad = false) {w : Int} (hw : w = 0 ∨ w = 1) : V_law_came_v21 [.d (.int w), .d bad, .d x] = .ok (.d (.str "stack")) [none, none, none] := by
  have m0 : V_must_stack [.d bad] = .ex ⟨"NoStack", []⟩ [none] := E_must_stackX hs h
  have f1 : V_named [.d bad, .d x] = .ex ⟨"NoStack", []⟩ [none, none] := vfn_eval rfl rfl (by simp! [m0])
  have f2 : V_named_back [.d bad, .d x] = .ex ⟨"NoStack", []⟩ [none, none] := vfn_eval rfl rfl (by simp! [m0])
  refine vfn_eval rfl rfl ?_
  rcases hw with rfl | rfl
  · simp! [f1]
  · simp! [f2]
theorem same80 {w : Int} : V_law_same_v2 8 [.d (due80 w n k fs nm), .d (due80 w n k fs nm)] = .ok (.d (.bool true)) [none, none] := by
  unfold due80
  split
  · exact same_stk _ _ _
  · exact same2_refl 8 _ (encTI.lay _) (by have := encTI.dep (invL nm n); omega)
theorem SmD.lst2' {c1 c2 q : Nat} {a b : PyData} (h1 : SmD c1 q a) (h2 : SmD c2 q b) : SmD (1 + c1 + c2) (q + 1) (.list [a, b]) := ⟨by simp only [small, smallAll, h1.sm, h2.sm, Bool.and_true], by
  have := h1.ct; have := h2.ct
  simp only [Lf.cnt, cntAll]
  omega, by
  have := h1.dp; have := h2.dp
  simp only [PyData.depth, PyData.depthAll]
  omega⟩
theorem four_names80 : mulV (.list [.str "names"]) (.int 4) = some (.own (.list [.str "names", .str "names", .str "names", .str "names"])) := by rfl
theorem ne_names80 : neV (.list [.str "names", .str "names", .str "names", .str "names"]) (.list [.str "names", .str "names", .str "names", .str "names"]) = some (vB false) := ne_lS ["names", "names", "names", "names"]
theorem two_stk80 : mulV (.list [.str "stack"]) (.int 2) = some (.own (.list [.str "stack", .str "stack"])) := by rfl
theorem ne_stk80 : neV (.list [.str "stack", .str "stack"]) (.list [.str "stack", .str "stack"]) = some (vB false) := ne_lS ["stack", "stack"]
def zf80 (a : Int) : PyData := if a = 0 then .bool false else .int a
abbrev E80 (n k : Int) (fs : List (List Int)) (nm : List Int) (bad odd : PyData) (w : Option VV) : VE := [none, none, none, some (.d (stkD n k fs)), some (.d (tI nm)), none, some (.d (.list [stkD n k (nmS fs nm), tI (invL nm n)])), some (.d bad), some (.d odd), some (.d (.str (shownD (.list [stkD n k fs, tI nm])))), w, none, none, none, none, none, none]
theorem ix80 {w : Int} (hw : w = 0 ∨ w = 1) : ixV (.list [stkD n k (nmS fs nm), tI (invL nm n)]) (.int w) = some (due80 w n k fs nm) := by
  rcases hw with rfl | rfl <;> rfl
theorem not_nm {ds : List PyData} (h : ds.all isW = false) : nmB n (.tuple ds) = false := by
  show (ds.all isW && _) = false
  rw [h, Bool.false_and]
theorem turn80_1 [S : Stk n k fs] (h : nm.Perm (rgI n)) {bad odd : PyData} {w : Int} (hw : w = 0 ∨ w = 1) {z : PyData} : turnT [3, 4, 6, 7, 8, 9, 10] (vtgN 11) W_law_k80_1 z (E80 n k fs nm bad odd (some (.d (.int w)))) = .go (E80 n k fs nm bad odd (some (.d (.int w)))) := by
  have hn1 := S.n1
  have hn8 := S.n8
  have hnl : nm.length = n.toNat := by rw [h.length_eq, length_rgI]
  have hsmn : SmD 425 4 (tI nm) := (SmD.tI (fun a ha => by have := mem_rgI.mp (h.subset ha); omega) (show nm.length ≤ 100 by omega)).mono (by omega) (by omega)
  have hsm : SmD 2900 64 (.list [stkD n k fs, tI nm]) := (SmD.lst2' ((SmD.stk S).mono (c' := 425) (p' := 4) (by omega) (by omega)) hsmn).mono (by omega) (by omega)
  have g1 := rep_of hsm (by decide) (by decide)
  have g2 := ne_of hsm
  have f1 := came80 (S := S) h hw
  have f2 := same80 (w := w) (n := n) (k := k) (fs := fs) (nm := nm)
  have i1 := ix80 (n := n) (k := k) (fs := fs) (nm := nm) hw
  simp! [W_law_k80_1, E80, f1, f2, i1, g1, g2]
theorem turn80_2 [S : Stk n k fs] (h : nm.Perm (rgI n)) {bad odd : PyData} (hb2 : fewS bad = true) (hb1 : stackB bad = false) (ho1 : nmB n odd = false) (ho2 : fewB odd = true) {w : Int} (hw : w = 0 ∨ w = 1) : turnT [3, 4, 6, 7, 8, 9] (vtgN 10) W_law_k80_2 (.int w) (E80 n k fs nm bad odd none) = .go (E80 n k fs nm bad odd none) := by
  have hn1 := S.n1
  have hn8 := S.n8
  have hnl : nm.length = n.toNat := by rw [h.length_eq, length_rgI]
  have hLn : LenLe nm 8 := ⟨by omega⟩
  have hloop := (for_fold (ks := [3, 4, 6, 7, 8, 9, 10]) (it := viRange (vdC (.int 2))) (tg := vtgN 11) (body := W_law_k80_1) (e := E80 n k fs nm bad odd (some (.d (.int w)))) PyData.int (rgI 2) (fun _ : Unit => E80 n k fs nm bad odd (some (.d (.int w)))) (fun _ _ => ()) () (fun _ _ => True) (e1 := E80 n k fs nm bad odd (some (.d (.int w)))) rfl rfl trivial (fun d z r s _ _ => ⟨turn80_1 (S := S) h hw, trivial⟩)).1
  have s4 : slV (some 1) none (tI nm) = some (.w (.d (tI (nm.drop 1)))) := sl_from_tI nm (by decide)
  have a1 : addV (tI nm.tail) (.tuple [lI [0]]) = some (.w (.d (.tuple (nm.tail.map .int ++ [lI [0]])))) := addV_T (by simp [sizeLine]; omega)
  have a2 : addV (tI nm.tail) (.tuple [.dict []]) = some (.w (.d (.tuple (nm.tail.map .int ++ [.dict []])))) := addV_T (by simp [sizeLine]; omega)
  have q1 : nmB n (.tuple (nm.tail.map .int ++ [lI [0]])) = false := not_nm (by rw [List.all_append, show [lI [0]].all isW = false from rfl, Bool.and_false])
  have q2 : nmB n (.tuple (nm.tail.map .int ++ [.dict []])) = false := not_nm (by rw [List.all_append, show [PyData.dict []].all isW = false from rfl, Bool.and_false])
  have q3 : nmB n (.tuple (nm.map zf80)) = false := not_nm (by
    rw [List.all_eq_false]
    refine ⟨zf80 0, List.mem_map.mpr ⟨0, mem_nm h (by omega), rfl⟩, ?_⟩
    simp [zf80, isW])
  have w1 := came80_n (S := S) ho2 ho1 hw
  have w2 := came80_n (S := S) (by simp [fewB]; omega) q1 hw
  have w3 := came80_n (S := S) (by simp [fewB]; omega) q2 hw
  have w4 := came80_n (S := S) (by simp [fewB]; omega) q3 hw
  have b1 := came80_s (x := tI nm) hb2 hb1 hw
  have b2 := came80_s (x := odd) hb2 hb1 hw
  have lc : ∀ e10 e12 : Option VV, lcA (.ok (nm.map PyData.int, none) [none, none, none, some (.d (stkD n k fs)), some (.d (tI nm)), none, some (.d (.list [stkD n k (nmS fs nm), tI (invL nm n)])), some (.d bad), some (.d odd), some (.d (.str (shownD (.list [stkD n k fs, tI nm])))), e10, none, e12, none, none, none, none]) [15] (vtgN 15) vtTrue (vdIx (vdLst (vaCons (vdVar 15) (vaCons (vdC (.bool false)) vaNil))) (vdCB (vone intV) (vaCons (vdBin eqV (vdVar 15) (vdC (.int 0))) vaNil))) = .ok (.o (.list (nm.map zf80))) [none, none, none, some (.d (stkD n k fs)), some (.d (tI nm)), none, some (.d (.list [stkD n k (nmS fs nm), tI (invL nm n)])), some (.d bad), some (.d odd), some (.d (.str (shownD (.list [stkD n k fs, tI nm])))), e10, none, e12, none, none, none, none] := fun e10 e12 => by
    show vdLc (fun _ => .ok (nm.map PyData.int, none) [none, none, none, some (.d (stkD n k fs)), some (.d (tI nm)), none, some (.d (.list [stkD n k (nmS fs nm), tI (invL nm n)])), some (.d bad), some (.d odd), some (.d (.str (shownD (.list [stkD n k fs, tI nm])))), e10, none, e12, none, none, none, none]) [15] (vtgN 15) vtTrue (vdIx (vdLst (vaCons (vdVar 15) (vaCons (vdC (.bool false)) vaNil))) (vdCB (vone intV) (vaCons (vdBin eqV (vdVar 15) (vdC (.int 0))) vaNil))) [] = _
    rw [vlc_map PyData.int nm zf80 (fun d : PyData => d) (o := none) (e1 := [none, none, none, some (.d (stkD n k fs)), some (.d (tI nm)), none, some (.d (.list [stkD n k (nmS fs nm), tI (invL nm n)])), some (.d bad), some (.d odd), some (.d (.str (shownD (.list [stkD n k fs, tI nm])))), e10, none, e12, none, none, none, none]) ?hi (by rw [sizeLine]; omega) ?hc ?h]
    case hi => rfl
    case hc => rfl
    case h =>
      intro a ha
      refine ⟨_, rfl, rfl, ?_⟩
      by_cases hz : a = 0
      · subst hz
        rfl
      · unfold zf80
        rw [if_neg hz]
        have i0 : ixV (.list [.int a, .bool false]) (.int 0) = some (.int a) := rfl
        simp! [hz, intV_b, i0]
    rw [List.map_id']
    rfl
  simp only [E80] at hloop ⊢
  generalize shownD (.list [stkD n k fs, tI nm]) = sh at *
  generalize nm.tail.map PyData.int ++ [lI [0]] = A1 at *
  generalize nm.tail.map PyData.int ++ [PyData.dict []] = A2 at *
  generalize nm.map zf80 = A3 at *
  have ap := app_any (l := [odd, .tuple A1, .tuple A2]) (x := .tuple A3) (by simp)
  have lc2 : lcA (.ok ([odd, .tuple A1, .tuple A2, .tuple A3], some (12, [odd, .tuple A1, .tuple A2, .tuple A3])) [none, none, none, some (.d (stkD n k fs)), some (.d (tI nm)), none, some (.d (.list [stkD n k (nmS fs nm), tI (invL nm n)])), some (.d bad), some (.d odd), some (.d (.str sh)), some (.d (.int w)), none, some (.m (.list [odd, .tuple A1, .tuple A2, .tuple A3])), none, none, none, none]) [16] (vtgN 16) vtTrue (vdCall V_law_came_v21 (vaCons (vdVar 10) (vaCons (vdVar 3) (vaCons (vdVar 16) vaNil)))) = .ok (.o (.list [.str "names", .str "names", .str "names", .str "names"])) [none, none, none, some (.d (stkD n k fs)), some (.d (tI nm)), none, some (.d (.list [stkD n k (nmS fs nm), tI (invL nm n)])), some (.d bad), some (.d odd), some (.d (.str sh)), some (.d (.int w)), none, some (.m (.list [odd, .tuple A1, .tuple A2, .tuple A3])), none, none, none, none] := by
    show vdLc (fun _ => .ok ([odd, .tuple A1, .tuple A2, .tuple A3], some (12, [odd, .tuple A1, .tuple A2, .tuple A3])) [none, none, none, some (.d (stkD n k fs)), some (.d (tI nm)), none, some (.d (.list [stkD n k (nmS fs nm), tI (invL nm n)])), some (.d bad), some (.d odd), some (.d (.str sh)), some (.d (.int w)), none, some (.m (.list [odd, .tuple A1, .tuple A2, .tuple A3])), none, none, none, none]) [16] (vtgN 16) vtTrue (vdCall V_law_came_v21 (vaCons (vdVar 10) (vaCons (vdVar 3) (vaCons (vdVar 16) vaNil)))) [] = _
    rw [vlc_map (fun d : PyData => d) [odd, .tuple A1, .tuple A2, .tuple A3] (fun _ => PyData.str "names") (fun d : PyData => d) (o := some (12, [odd, .tuple A1, .tuple A2, .tuple A3])) (e1 := [none, none, none, some (.d (stkD n k fs)), some (.d (tI nm)), none, some (.d (.list [stkD n k (nmS fs nm), tI (invL nm n)])), some (.d bad), some (.d odd), some (.d (.str sh)), some (.d (.int w)), none, some (.m (.list [odd, .tuple A1, .tuple A2, .tuple A3])), none, none, none, none]) ?hi (by rw [sizeLine]; simp) ?hc ?h]
    case hi => rfl
    case hc => simp [vchk]
    case h =>
      intro d hd
      have wd : V_law_came_v21 [.d (.int w), .d (stkD n k fs), .d d] = .ok (.d (.str "names")) [none, none, none] := by
        simp only [List.mem_cons, List.not_mem_nil, or_false] at hd
        rcases hd with rfl | rfl | rfl | rfl
        · exact w1
        · exact w2
        · exact w3
        · exact w4
      exact ⟨_, rfl, rfl, by simp! [wd]⟩
    rfl
  simp! [W_law_k80_2, ↓hloop, s4, a1, a2, lc, ap, lc2, four_names80, ne_names80, b1, b2, two_stk80, ne_stk80]
end
theorem E_law_k80 {ns : List Int} (hl : ns.length ≤ 63) : ∃ ys, V_law_k80 [.k (ns.map .int)] = .ok (.d (.bool true)) ys := law_loop (j := 6) (by decide) (nl := 15) (W := W_law_k80_3) fun c => by
  obtain ⟨b, hb⟩ := E_law_pen c
  obtain ⟨n, k, c1, fs, S, hfl, h1⟩ := E_law_stack_v2 (c := c) (b := b) (most := 30) (by omega)
  have hn1 := S.n1
  have hn8 := S.n8
  have hfew := S.few
  have hk4 := S.k4
  obtain ⟨nm, c2, hp, h2⟩ := E_law_names (c := c1) (b := b) (n := n) (by omega)
  have hnl : nm.length = n.toNat := by rw [hp.length_eq, length_rgI]
  obtain ⟨bad, c3, hb1, hb2, h3⟩ := E_law_no_stack (c := c2) (b := b) S
  obtain ⟨odd, c4, ⟨ho1, ho2⟩, h4⟩ := E_law_no_names (c := c3) (b := b) (n := n) (nm := nm) (by omega) hp
  have hLn : LenLe nm 8 := ⟨by omega⟩
  have hLf : LenLe (fs.map (nmF nm)) 70 := ⟨by rw [List.length_map]; omega⟩
  have e6 : -1000000 ≤ n ∧ n ≤ 1000000 := by omega
  have lc1 : lcA (.ok (fs.map tI, none) [none, some (.d (.int c)), some (.m (pen c2 b)), some (.d (stkD n k fs)), some (.d (tI nm)), none, none, none, none, none, none, none, none, none, none, none, none]) [13] (vtgN 13) vtTrue (vdCB (vone tupleV) (vaCons (vdCB (vone sortV) (vaCons (vdLc (viSeq (vdVar 13)) [14] (vtgN 14) vtTrue (vdIx (vdVar 4) (vdVar 14))) vaNil)) vaNil)) = .ok (.o (lT (fs.map (nmF nm)))) [none, some (.d (.int c)), some (.m (pen c2 b)), some (.d (stkD n k fs)), some (.d (tI nm)), none, none, none, none, none, none, none, none, none, none, none, none] := by
    show vdLc (fun _ => .ok (fs.map tI, none) [none, some (.d (.int c)), some (.m (pen c2 b)), some (.d (stkD n k fs)), some (.d (tI nm)), none, none, none, none, none, none, none, none, none, none, none, none]) [13] (vtgN 13) vtTrue (vdCB (vone tupleV) (vaCons (vdCB (vone sortV) (vaCons (vdLc (viSeq (vdVar 13)) [14] (vtgN 14) vtTrue (vdIx (vdVar 4) (vdVar 14))) vaNil)) vaNil)) [] = _
    rw [vlc_map tI fs (nmF nm) tI (o := none) (e1 := [none, some (.d (.int c)), some (.m (pen c2 b)), some (.d (stkD n k fs)), some (.d (tI nm)), none, none, none, none, none, none, none, none, none, none, none, none]) ?hi (by rw [sizeLine]; omega) ?hc ?h]
    case hi => rfl
    case hc => rfl
    case h =>
      intro f hf
      have F := S.face f hf
      have hFl := F.len
      have hLff : LenLe f 4 := ⟨by omega⟩
      have hx : ∀ a ∈ f, ixV (tI nm) (.int a) = some (.int (nthI nm a)) := fun a ha => ixV_tI (by have := F.inn a ha; omega)
      refine ⟨_, rfl, rfl, ?_⟩
      have hlc : lcA (.ok (f.map .int, none) [none, some (.d (.int c)), some (.m (pen c2 b)), some (.d (stkD n k fs)), some (.d (tI nm)), none, none, none, none, none, none, none, none, some (.d (tI f)), none, none, none]) [14] (vtgN 14) vtTrue (vdIx (vdVar 4) (vdVar 14)) = .ok (.o (lI (f.map fun p => nthI nm p))) [none, some (.d (.int c)), some (.m (pen c2 b)), some (.d (stkD n k fs)), some (.d (tI nm)), none, none, none, none, none, none, none, none, some (.d (tI f)), none, none, none] := by
        show vdLc (viSeq (vdVar 13)) [14] (vtgN 14) vtTrue (vdIx (vdVar 4) (vdVar 14)) [none, some (.d (.int c)), some (.m (pen c2 b)), some (.d (stkD n k fs)), some (.d (tI nm)), none, none, none, none, none, none, none, none, some (.d (tI f)), none, none, none] = _
        rw [vlc_mapI PyData.int f (fun p => nthI nm p) ?hi (by rw [sizeLine]; omega) ?hc ?h]
        case hi => rfl
        case hc => rfl
        case h => exact fun a ha => ⟨_, rfl, rfl, by simp [hx a ha]⟩
        rfl
      simp! [hlc, nmF]
    rfl
  have lc2 : lcA (.ok ((rgI n).map PyData.int, none) [none, some (.d (.int c)), some (.m (pen c2 b)), some (.d (stkD n k fs)), some (.d (tI nm)), some (.d (lT (fs.map (nmF nm)))), none, none, none, none, none, none, none, none, none, none, none]) [14] (vtgN 14) vtTrue (vdMs idxTV (vdVar 4) (vaCons (vdVar 14) vaNil)) = .ok (.o (lI (invL nm n))) [none, some (.d (.int c)), some (.m (pen c2 b)), some (.d (stkD n k fs)), some (.d (tI nm)), some (.d (lT (fs.map (nmF nm)))), none, none, none, none, none, none, none, none, none, none, none] := by
    show vdLc (fun _ => .ok ((rgI n).map PyData.int, none) [none, some (.d (.int c)), some (.m (pen c2 b)), some (.d (stkD n k fs)), some (.d (tI nm)), some (.d (lT (fs.map (nmF nm)))), none, none, none, none, none, none, none, none, none, none, none]) [14] (vtgN 14) vtTrue (vdMs idxTV (vdVar 4) (vaCons (vdVar 14) vaNil)) [] = _
    rw [vlc_map PyData.int (rgI n) (fun a => ((nm.idxOf a : Nat) : Int)) PyData.int (o := none) (e1 := [none, some (.d (.int c)), some (.m (pen c2 b)), some (.d (stkD n k fs)), some (.d (tI nm)), some (.d (lT (fs.map (nmF nm)))), none, none, none, none, none, none, none, none, none, none, none]) ?hi (by rw [length_rgI, sizeLine]; omega) ?hc ?h]
    case hi => rfl
    case hc => rfl
    case h => exact fun a ha => ⟨_, rfl, rfl, ms_tI (nm_ne hn1 hp) (mem_nm hp (mem_rgI.mp ha)) rfl rfl⟩
    rfl
  have hLi : LenLe (invL nm n) 8 := ⟨inv_len ⟨hn1, hn8⟩⟩
  have hsmn : SmD 425 4 (tI nm) := (SmD.tI (fun a ha => by have := mem_rgI.mp (hp.subset ha); omega) (show nm.length ≤ 100 by omega)).mono (by omega) (by omega)
  have hsm : SmD 2900 64 (.list [stkD n k fs, tI nm]) := (SmD.lst2' ((SmD.stk S).mono (c' := 425) (p' := 4) (by omega) (by omega)) hsmn).mono (by omega) (by omega)
  have g1 := rep_of hsm (by decide) (by decide)
  have hnS : sortT (fs.map (nmF nm)) = nmS fs nm := rfl
  have hloop := (for_fold (ks := [3, 4, 6, 7, 8, 9]) (it := viRange (vdC (.int 2))) (tg := vtgN 10) (body := W_law_k80_2) (e := [none, some (.d (.int c)), some (.m (pen c4 b)), some (.d (stkD n k fs)), some (.d (tI nm)), some (.d (lT (fs.map (nmF nm)))), some (.d (.list [stkD n k (nmS fs nm), tI (invL nm n)])), some (.d bad), some (.d odd), some (.d (.str (shownD (.list [stkD n k fs, tI nm])))), none, none, none, none, none, none, none]) PyData.int (rgI 2) (fun _ : Unit => E80 n k fs nm bad odd none) (fun _ _ => ()) () (fun _ _ => True) (e1 := [none, some (.d (.int c)), some (.m (pen c4 b)), some (.d (stkD n k fs)), some (.d (tI nm)), some (.d (lT (fs.map (nmF nm)))), some (.d (.list [stkD n k (nmS fs nm), tI (invL nm n)])), some (.d bad), some (.d odd), some (.d (.str (shownD (.list [stkD n k fs, tI nm])))), none, none, none, none, none, none, none]) rfl rfl trivial (fun d z r s hd _ => ⟨turn80_2 (S := S) hp hb2 hb1 ho1 ho2 (by have := mem_rgI.mp (show z ∈ rgI 2 by rw [hd]; simp); omega), trivial⟩)).1
  simp only [E80] at hloop
  generalize shownD (.list [stkD n k fs, tI nm]) = sh at *
  unfold W_law_k80_3
  simp! [hb, h1, h2, lc1, xlaw_made, hnS, e6, lc2, h3, h4, g1, ↓hloop]
end Lw
set_option Elab.async false
set_option linter.all false
set_option maxRecDepth 100000
set_option maxHeartbeats 0
namespace Lw
open PySem PySem.Spec PyProof.Rows L2 Lf Hd
theorem facts {P : Program} {w : World} {K : PySem.W.Frag} {h : Heap} {mg : Str → Option Value} {f : Addr} (X : K.In h) (G : h.Ns mainGlobals mg) (hfa : mg ("law" : Str) = some (.ref f)) (c : He.SaysD fa fn K) (hki : ex K = true) (LF : LamF us K) :
    ∃ fd : FuncData, (∀ (s : Shared) (v : Value), BindsTo s fd ⟨[v], []⟩ [("_law_script", v)]) ∧ ∀ base : Heap, (∀ p ∈ codesOf K, LamX.TabB base mg p.1 p.2) → FnG P w K mg base CX0 10 f fd ["_law_script"] (spD K F_law) := by
  have B : Gb K mg := ⟨He.free_ok X G (c.fact 30 (f := .free "ValueError") rfl), He.free_ok X G (c.fact 31 (f := .free "all") rfl), He.free_ok X G (c.fact 32 (f := .free "bool") rfl), He.free_ok X G (c.fact 33 (f := .free "int") rfl), He.free_ok X G (c.fact 34 (f := .free "isinstance") rfl), He.free_ok X G (c.fact 35 (f := .free "len") rfl), He.free_ok X G (c.fact 36 (f := .free "list") rfl), He.free_ok X G (c.fact 37 (f := .free "max") rfl), He.free_ok X G (c.fact 38 (f := .free "min") rfl), He.free_ok X G (c.fact 39 (f := .free "range") rfl), He.free_ok X G (c.fact 40 (f := .free "repr") rfl), He.free_ok X G (c.fact 41 (f := .free "sorted") rfl), He.free_ok X G (c.fact 42 (f := .free "str") rfl), He.free_ok X G (c.fact 43 (f := .free "tuple") rfl), He.free_ok X G (c.fact 44 (f := .free "zip") rfl), He.int_ok X G (c.fact 45 (f := .int "MOST_POINTS" 8) rfl), He.int_ok X G (c.fact 46 (f := .int "MOST_TAKEN" 4) rfl), He.int_ok X G (c.fact 47 (f := .int "MOST_FACES" 70) rfl), He.glo_ok X G (c.fact 48 (f := .glo "LayError") rfl), He.glo_ok X G (c.fact 49 (f := .glo "NoStack") rfl), He.glo_ok X G (c.fact 50 (f := .glo "NoNumber") rfl), He.glo_ok X G (c.fact 51 (f := .glo "NoPart") rfl), He.glo_ok X G (c.fact 52 (f := .glo "NoLot") rfl), He.glo_ok X G (c.fact 53 (f := .glo "NoRow") rfl), He.glo_ok X G (c.fact 54 (f := .glo "NoOrder") rfl), He.glo_ok X G (c.fact 55 (f := .glo "NoNames") rfl), He.glo_ok X G (c.fact 56 (f := .glo "NoRim") rfl), He.glo_ok X G (c.fact 57 (f := .glo "NoTaking") rfl), He.glo_ok X G (c.fact 58 (f := .glo "NoText") rfl), He.glo_ok X G (c.fact 59 (f := .glo "NoLine") rfl), He.glo_ok X G (c.fact 60 (f := .glo "NoDeed") rfl), He.glo_ok X G (c.fact 61 (f := .glo "TooGreat") rfl), ⟨He.glo_ok X G (c.fact 49 (f := .glo "NoStack") rfl), c.fact 62 (f := .exc "NoStack") rfl⟩, ⟨He.glo_ok X G (c.fact 55 (f := .glo "NoNames") rfl), c.fact 63 (f := .exc "NoNames") rfl⟩, kindB_ok (He.ba (He.ba hki).1).1, (He.ba (He.ba hki).2).1, noB_ok (He.ba (He.ba (He.ba hki).2).2).1⟩
  obtain ⟨fd_is_whole, D_is_whole⟩ := c.def_ 0 (d := ⟨("is_whole", none), "is_whole", "is_whole", defArgs s_is_whole, defBody s_is_whole, defScope s_is_whole, [], []⟩) rfl
  have m_is_whole : mg "is_whole" = some (.ref (He.ga K "is_whole")) := He.glo_ok X G (c.fact 0 (f := .glo "is_whole") rfl)
  obtain ⟨fd_is_from, D_is_from⟩ := c.def_ 1 (d := ⟨("is_from", none), "is_from", "is_from", defArgs s_is_from, defBody s_is_from, defScope s_is_from, [], []⟩) rfl
  have m_is_from : mg "is_from" = some (.ref (He.ga K "is_from")) := He.glo_ok X G (c.fact 1 (f := .glo "is_from") rfl)
  obtain ⟨fd_are_rising, D_are_rising⟩ := c.def_ 2 (d := ⟨("are_rising", none), "are_rising", "are_rising", defArgs s_are_rising, defBody s_are_rising, defScope s_are_rising, [], []⟩) rfl
  have m_are_rising : mg "are_rising" = some (.ref (He.ga K "are_rising")) := He.glo_ok X G (c.fact 2 (f := .glo "are_rising") rfl)
  obtain ⟨fd_are_faces, D_are_faces⟩ := c.def_ 3 (d := ⟨("are_faces", none), "are_faces", "are_faces", defArgs s_are_faces, defBody s_are_faces, defScope s_are_faces, [], []⟩) rfl
  have m_are_faces : mg "are_faces" = some (.ref (He.ga K "are_faces")) := He.glo_ok X G (c.fact 3 (f := .glo "are_faces") rfl)
  obtain ⟨fd_is_stack, D_is_stack⟩ := c.def_ 4 (d := ⟨("is_stack", none), "is_stack", "is_stack", defArgs s_is_stack, defBody s_is_stack, defScope s_is_stack, [], []⟩) rfl
  have m_is_stack : mg "is_stack" = some (.ref (He.ga K "is_stack")) := He.glo_ok X G (c.fact 4 (f := .glo "is_stack") rfl)
  obtain ⟨fd_must_stack, D_must_stack⟩ := c.def_ 5 (d := ⟨("must_stack", none), "must_stack", "must_stack", defArgs s_must_stack, defBody s_must_stack, defScope s_must_stack, [], []⟩) rfl
  have m_must_stack : mg "must_stack" = some (.ref (He.ga K "must_stack")) := He.glo_ok X G (c.fact 5 (f := .glo "must_stack") rfl)
  obtain ⟨fd_must_names, D_must_names⟩ := c.def_ 6 (d := ⟨("must_names", none), "must_names", "must_names", defArgs s_must_names, defBody s_must_names, defScope s_must_names, [], []⟩) rfl
  have m_must_names : mg "must_names" = some (.ref (He.ga K "must_names")) := He.glo_ok X G (c.fact 6 (f := .glo "must_names") rfl)
  obtain ⟨fd_renamed, D_renamed⟩ := c.def_ 7 (d := ⟨("renamed", none), "renamed", "renamed", defArgs s_renamed, defBody s_renamed, defScope s_renamed, [], []⟩) rfl
  have m_renamed : mg "renamed" = some (.ref (He.ga K "renamed")) := He.glo_ok X G (c.fact 7 (f := .glo "renamed") rfl)
  obtain ⟨fd_named, D_named⟩ := c.def_ 8 (d := ⟨("named", none), "named", "named", defArgs s_named, defBody s_named, defScope s_named, [], []⟩) rfl
  have m_named : mg "named" = some (.ref (He.ga K "named")) := He.glo_ok X G (c.fact 8 (f := .glo "named") rfl)
  obtain ⟨fd_named_back, D_named_back⟩ := c.def_ 9 (d := ⟨("named_back", none), "named_back", "named_back", defArgs s_named_back, defBody s_named_back, defScope s_named_back, [], []⟩) rfl
  have m_named_back : mg "named_back" = some (.ref (He.ga K "named_back")) := He.glo_ok X G (c.fact 9 (f := .glo "named_back") rfl)
  obtain ⟨fd_law_cell, D_law_cell⟩ := c.def_ 10 (d := ⟨("_law_cell", none), "_law_cell", "_law_cell", defArgs s_law_cell, defBody s_law_cell, defScope s_law_cell, [], []⟩) rfl
  have m_law_cell : mg "_law_cell" = some (.ref (He.ga K "_law_cell")) := He.glo_ok X G (c.fact 10 (f := .glo "_law_cell") rfl)
  obtain ⟨fd_law_pen, D_law_pen⟩ := c.def_ 11 (d := ⟨("_law_pen", none), "_law_pen", "_law_pen", defArgs s_law_pen, defBody s_law_pen, defScope s_law_pen, [], []⟩) rfl
  have m_law_pen : mg "_law_pen" = some (.ref (He.ga K "_law_pen")) := He.glo_ok X G (c.fact 11 (f := .glo "_law_pen") rfl)
  obtain ⟨fd_law_draw, D_law_draw⟩ := c.def_ 12 (d := ⟨("_law_draw", none), "_law_draw", "_law_draw", defArgs s_law_draw, defBody s_law_draw, defScope s_law_draw, [], []⟩) rfl
  have m_law_draw : mg "_law_draw" = some (.ref (He.ga K "_law_draw")) := He.glo_ok X G (c.fact 12 (f := .glo "_law_draw") rfl)
  obtain ⟨fd_law_same_v2, D_law_same_v2⟩ := c.def_ 13 (d := ⟨("_law_same", none), "_law_same", "_law_same", defArgs s_law_same_v2, defBody s_law_same_v2, defScope s_law_same_v2, [], []⟩) rfl
  have m_law_same_v2 : mg "_law_same" = some (.ref (He.ga K "_law_same")) := He.glo_ok X G (c.fact 13 (f := .glo "_law_same") rfl)
  obtain ⟨fd_law_kind_of, D_law_kind_of⟩ := c.def_ 14 (d := ⟨("_law_kind_of", none), "_law_kind_of", "_law_kind_of", defArgs s_law_kind_of, defBody s_law_kind_of, defScope s_law_kind_of, [], []⟩) rfl
  have m_law_kind_of : mg "_law_kind_of" = some (.ref (He.ga K "_law_kind_of")) := He.glo_ok X G (c.fact 14 (f := .glo "_law_kind_of") rfl)
  obtain ⟨fd_law_every, D_law_every⟩ := c.def_ 15 (d := ⟨("_law_every", none), "_law_every", "_law_every", defArgs s_law_every, defBody s_law_every, defScope s_law_every, [], []⟩) rfl
  have m_law_every : mg "_law_every" = some (.ref (He.ga K "_law_every")) := He.glo_ok X G (c.fact 15 (f := .glo "_law_every") rfl)
  obtain ⟨fd_law_size, D_law_size⟩ := c.def_ 16 (d := ⟨("_law_size", none), "_law_size", "_law_size", defArgs s_law_size, defBody s_law_size, defScope s_law_size, [], []⟩) rfl
  have m_law_size : mg "_law_size" = some (.ref (He.ga K "_law_size")) := He.glo_ok X G (c.fact 16 (f := .glo "_law_size") rfl)
  obtain ⟨fd_law_made, D_law_made⟩ := c.def_ 17 (d := ⟨("_law_made", none), "_law_made", "_law_made", defArgs s_law_made, defBody s_law_made, defScope s_law_made, [], []⟩) rfl
  have m_law_made : mg "_law_made" = some (.ref (He.ga K "_law_made")) := He.glo_ok X G (c.fact 17 (f := .glo "_law_made") rfl)
  obtain ⟨fd_law_drawn, D_law_drawn⟩ := c.def_ 18 (d := ⟨("_law_drawn", none), "_law_drawn", "_law_drawn", defArgs s_law_drawn, defBody s_law_drawn, defScope s_law_drawn, [], []⟩) rfl
  have m_law_drawn : mg "_law_drawn" = some (.ref (He.ga K "_law_drawn")) := He.glo_ok X G (c.fact 18 (f := .glo "_law_drawn") rfl)
  obtain ⟨fd_law_common, D_law_common⟩ := c.def_ 19 (d := ⟨("_law_common", none), "_law_common", "_law_common", defArgs s_law_common, defBody s_law_common, defScope s_law_common, [], []⟩) rfl
  have m_law_common : mg "_law_common" = some (.ref (He.ga K "_law_common")) := He.glo_ok X G (c.fact 19 (f := .glo "_law_common") rfl)
  obtain ⟨fd_law_may_v2, D_law_may_v2⟩ := c.def_ 20 (d := ⟨("_law_may", none), "_law_may", "_law_may", defArgs s_law_may_v2, defBody s_law_may_v2, defScope s_law_may_v2, [], []⟩) rfl
  have m_law_may_v2 : mg "_law_may" = some (.ref (He.ga K "_law_may")) := He.glo_ok X G (c.fact 20 (f := .glo "_law_may") rfl)
  obtain ⟨fd_law_grown, D_law_grown⟩ := c.def_ 21 (d := ⟨("_law_grown", none), "_law_grown", "_law_grown", defArgs s_law_grown, defBody s_law_grown, defScope s_law_grown, [], []⟩) rfl
  have m_law_grown : mg "_law_grown" = some (.ref (He.ga K "_law_grown")) := He.glo_ok X G (c.fact 21 (f := .glo "_law_grown") rfl)
  obtain ⟨fd_law_pairs, D_law_pairs⟩ := c.def_ 22 (d := ⟨("_law_pairs", none), "_law_pairs", "_law_pairs", defArgs s_law_pairs, defBody s_law_pairs, defScope s_law_pairs, [], []⟩) rfl
  have m_law_pairs : mg "_law_pairs" = some (.ref (He.ga K "_law_pairs")) := He.glo_ok X G (c.fact 22 (f := .glo "_law_pairs") rfl)
  obtain ⟨fd_law_kindly, D_law_kindly⟩ := c.def_ 23 (d := ⟨("_law_kindly", none), "_law_kindly", "_law_kindly", defArgs s_law_kindly, defBody s_law_kindly, defScope s_law_kindly, [], []⟩) rfl
  have m_law_kindly : mg "_law_kindly" = some (.ref (He.ga K "_law_kindly")) := He.glo_ok X G (c.fact 23 (f := .glo "_law_kindly") rfl)
  obtain ⟨fd_law_stack_v2, D_law_stack_v2⟩ := c.def_ 24 (d := ⟨("_law_stack", none), "_law_stack", "_law_stack", defArgs s_law_stack_v2, defBody s_law_stack_v2, defScope s_law_stack_v2, [], []⟩) rfl
  have m_law_stack_v2 : mg "_law_stack" = some (.ref (He.ga K "_law_stack")) := He.glo_ok X G (c.fact 24 (f := .glo "_law_stack") rfl)
  obtain ⟨fd_law_no_stack, D_law_no_stack⟩ := c.def_ 25 (d := ⟨("_law_no_stack", none), "_law_no_stack", "_law_no_stack", defArgs s_law_no_stack, defBody s_law_no_stack, defScope s_law_no_stack, [], []⟩) rfl
  have m_law_no_stack : mg "_law_no_stack" = some (.ref (He.ga K "_law_no_stack")) := He.glo_ok X G (c.fact 25 (f := .glo "_law_no_stack") rfl)
  obtain ⟨fd_law_names, D_law_names⟩ := c.def_ 26 (d := ⟨("_law_names", none), "_law_names", "_law_names", defArgs s_law_names, defBody s_law_names, defScope s_law_names, [], []⟩) rfl
  have m_law_names : mg "_law_names" = some (.ref (He.ga K "_law_names")) := He.glo_ok X G (c.fact 26 (f := .glo "_law_names") rfl)
  obtain ⟨fd_law_no_names, D_law_no_names⟩ := c.def_ 27 (d := ⟨("_law_no_names", none), "_law_no_names", "_law_no_names", defArgs s_law_no_names, defBody s_law_no_names, defScope s_law_no_names, [], []⟩) rfl
  have m_law_no_names : mg "_law_no_names" = some (.ref (He.ga K "_law_no_names")) := He.glo_ok X G (c.fact 27 (f := .glo "_law_no_names") rfl)
  obtain ⟨fd_law_came_v21, D_law_came_v21⟩ := c.def_ 28 (d := ⟨("_law_came", none), "_law_came", "_law_came", defArgs s_law_came_v21, defBody s_law_came_v21, defScope s_law_came_v21, [], []⟩) rfl
  have m_law_came_v21 : mg "_law_came" = some (.ref (He.ga K "_law_came")) := He.glo_ok X G (c.fact 28 (f := .glo "_law_came") rfl)
  obtain ⟨fd_law, D_law⟩ := c.def_ 29 (d := ⟨("law", none), "law", "law", defArgs s_law, defBody s_law, defScope s_law, [], []⟩) rfl
  have m_law : mg "law" = some (.ref (He.ga K "law")) := He.glo_ok X G (c.fact 29 (f := .glo "law") rfl)
  have e := hfa.symm.trans m_law
  cases e
  have b := FunD.bindsA (ps := ["_law_script"]) D_law fun _ _ _ _ _ _ us hl => match us, hl with | [_], _ => rfl
  refine ⟨fd_law, fun s v => b s [v] rfl, fun base hT => ?_⟩
  have c_is_whole : ClX P w K mg base 1 "is_whole" F_is_whole := ok_is_whole D_is_whole m_is_whole B 
  have c_is_from : ClX P w K mg base 2 "is_from" F_is_from := ok_is_from D_is_from m_is_from B c_is_whole
  have c_are_rising : ClX P w K mg base 3 "are_rising" F_are_rising := ok_are_rising D_are_rising m_are_rising B c_is_from
  have c_are_faces : ClX P w K mg base 4 "are_faces" F_are_faces := ok_are_faces D_are_faces m_are_faces B c_are_rising
  have c_is_stack : ClX P w K mg base 5 "is_stack" F_is_stack := ok_is_stack D_is_stack m_is_stack B c_is_from c_are_faces
  have c_must_stack : ClX P w K mg base 6 "must_stack" F_must_stack := ok_must_stack D_must_stack m_must_stack B c_is_stack
  have c_must_names : ClX P w K mg base 2 "must_names" F_must_names := ok_must_names D_must_names m_must_names B c_is_whole
  have c_renamed : ClX P w K mg base 1 "renamed" F_renamed := ok_renamed D_renamed m_renamed B 
  have c_named : ClX P w K mg base 7 "named" F_named := ok_named D_named m_named B c_must_stack c_must_names c_renamed
  have c_named_back : ClX P w K mg base 7 "named_back" F_named_back := ok_named_back D_named_back m_named_back B c_must_stack c_must_names
  have c_law_cell : ClX P w K mg base 1 "_law_cell" F_law_cell := ok_law_cell D_law_cell m_law_cell B 
  have c_law_pen : ClX P w K mg base 1 "_law_pen" F_law_pen := ok_law_pen D_law_pen m_law_pen B 
  have c_law_draw : ClX P w K mg base 1 "_law_draw" F_law_draw := ok_law_draw D_law_draw m_law_draw B 
  have c_law_same_v2 : ClX P w K mg base 9 "_law_same" (F_law_same_v2 8) := ok_law_same_v2 D_law_same_v2 m_law_same_v2 B  8
  have c_law_kind_of : ClE P w K mg base 1 "_law_kind_of" kcs F_law_kind_of := ok_law_kind_of D_law_kind_of m_law_kind_of B 
  have c_law_every : ClX P w K mg base 1 "_law_every" F_law_every := ok_law_every D_law_every m_law_every B 
  have c_law_size : ClX P w K mg base 2 "_law_size" F_law_size := ok_law_size D_law_size m_law_size B c_law_draw
  have c_law_made : ClX P w K mg base 1 "_law_made" F_law_made := ok_law_made D_law_made m_law_made B 
  have c_law_drawn : ClX P w K mg base 2 "_law_drawn" F_law_drawn := ok_law_drawn D_law_drawn m_law_drawn B c_law_every c_law_draw
  have c_law_common : ClX P w K mg base 1 "_law_common" F_law_common := ok_law_common D_law_common m_law_common B 
  have c_law_may_v2 : ClX P w K mg base 2 "_law_may" F_law_may_v2 := ok_law_may_v2 D_law_may_v2 m_law_may_v2 B c_law_common
  have c_law_grown : ClX P w K mg base 3 "_law_grown" F_law_grown := ok_law_grown D_law_grown m_law_grown B c_law_every c_law_draw c_law_may_v2
  have c_law_pairs : ClX P w K mg base 1 "_law_pairs" F_law_pairs := ok_law_pairs D_law_pairs m_law_pairs B 
  have c_law_kindly : ClX P w K mg base 2 "_law_kindly" F_law_kindly := ok_law_kindly D_law_kindly m_law_kindly B c_law_draw c_law_made c_law_every c_law_pairs
  have c_law_stack_v2 : ClX P w K mg base 4 "_law_stack" F_law_stack_v2 := ok_law_stack_v2 D_law_stack_v2 m_law_stack_v2 B c_law_draw c_law_size c_law_kindly c_law_made c_law_drawn c_law_grown
  have c_law_no_stack : ClX P w K mg base 2 "_law_no_stack" F_law_no_stack := ok_law_no_stack D_law_no_stack m_law_no_stack B c_law_draw
  have c_law_names : ClX P w K mg base 2 "_law_names" F_law_names := ok_law_names D_law_names m_law_names B c_law_draw
  have c_law_no_names : ClX P w K mg base 2 "_law_no_names" F_law_no_names := ok_law_no_names D_law_no_names m_law_no_names B c_law_draw
  have c_law_came_v21 : ClX P w K mg base 8 "_law_came" F_law_came_v21 := ok_law_came_v21 D_law_came_v21 m_law_came_v21 B c_named c_named_back c_law_kind_of
  exact ok_law D_law m_law B c_law_cell c_law_pen c_law_stack_v2 c_law_names c_law_made c_law_no_stack c_law_no_names c_law_same_v2 c_law_came_v21
end Lw
open PySem PySem.W PySem.Calls PyProof.Rows
theorem PySem.Challenge.cw_layfaces_k80_other_names_holds : PySem.Challenge.rw_layfaces_k80_other_names.Holds := by
  w_on; o_law
  refine HandSHeadRun.head_any (r := OpenLaw.row PySem.Challenge.rw_layfaces_k80_other_names) (q := view (OpenLaw.row PySem.Challenge.rw_layfaces_k80_other_names).prog Hd.vw) (H := Hd.hk) (ob := Hd.ob) (M := 16000) (loose := Hd.loose) (d := HandSHeadRun.topDef (OpenLaw.row PySem.Challenge.rw_layfaces_k80_other_names).prog 51) (kwd := []) Hd.ob_eq
    (by kernel_rfl) (fun s => by kernel_rfl) Hd.run (by kernel_rfl) (by kernel_rfl) (by kernel_rfl) (by rfl) (by first | assumption | decide +kernel) (by decide +kernel) ⟨rfl, rfl, rfl, rfl, rfl, by decide +kernel⟩ ?hw ?hc
  case hw => w_witness2
  case hc =>
    refine Lf.walk_T (l := PySem.Challenge.rw_layfaces_k80_other_names) (n := 63) (k := 10) (us := Hd.us) (x := "_law_script") (C := L2.CX0) rfl (by decide) (by kernel_rfl) ⟨rfl, by decide, by decide⟩ (by kernel_rfl) ?F (fun _ _ _ _ z => z)
    intro w mg fa h Y G hmg0
    obtain ⟨K, KX, c, hki⟩ := Y
    have LF : Lf.LamF Hd.us K := Lf.lamB_ok (He.ba (He.ba hki).1).2
    have hmg : mg ("law" : PySem.Str) = some (.ref fa) := by
      have e : (HandSHeadRun.topDef (OpenLaw.row PySem.Challenge.rw_layfaces_k80_other_names).prog 51).name = ("law" : PySem.Str) := by kernel_rfl
      rw [← e]
      exact hmg0
    obtain ⟨fd, hb, hF⟩ := Lw.facts (P := (PySem.Challenge.rw_layfaces_k80_other_names).prog) (w := w) KX G hmg c hki LF
    exact ⟨K, fd, Lf.spD K Lw.F_law, KX, LF, hb, fun H a ns hl hT hS => Lf.law_sp (Lf.law_v Lw.sm_law (Lw.E_law_k80 hl)) hT hS, fun base hT => hF base hT⟩
